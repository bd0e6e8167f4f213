/- Products: what the program's printed functions come to. -/
import Derived.Test.YthljpgljbpdmjaaGreatDoorX15eTyp
import Derived.Test.YthljpgljbpdmjaaGreatDoorPrA
set_option linter.unusedVariables false
set_option linter.unusedSimpArgs false
set_option linter.unnecessarySimpa false
namespace Go.Proofs.H15e
open Go Go.Eng Go.Tk
set_option maxRecDepth 20000
theorem f_u90q_val {vs : List Va} (hv : vs.length ≤ big) {e : Ex} (h : e.nodes ≤ big) (want : Int) : f_u90q e.op e.num e.txt (EX e.args) (EV vs) want = some (checkS e vs want) := by
  rw [f_u90q_eq, tr_u90q, f_u119q_val hv h, checkS]
  cases h1 : ((ofS e vs).2 == 0)
  · simp [bne, h1]
  · have h2 : (ofS e vs).2 = 0 := by simpa using h1
    cases h3 : ((ofS e vs).1 != want) <;> simp [h2, h3]
theorem l_u49q_val (a b c d : Bs) : l_u49q (.inl (a, b, c, d, 0)) = some (1, .inr (a, b, c, d, 4, EV [⟨a, 2⟩, ⟨b, 2⟩, ⟨c, 2⟩, ⟨d, 2⟩])) := by
  rw [l_u49q_eq]
  have h0 : (st_u49q (.inl (a, b, c, d, 0))).ev = some (.next (.inr (a, b, c, d, 1, EV [⟨a, 2⟩]))) := rfl
  have h1 : (st_u49q (.inr (a, b, c, d, 1, EV [⟨a, 2⟩]))).ev = some (.next (.inr (a, b, c, d, 2, EV [⟨a, 2⟩, ⟨b, 2⟩]))) := rfl
  have h2 : (st_u49q (.inr (a, b, c, d, 2, EV [⟨a, 2⟩, ⟨b, 2⟩]))).ev = some (.next (.inr (a, b, c, d, 3, EV [⟨a, 2⟩, ⟨b, 2⟩, ⟨c, 2⟩]))) := rfl
  have h3 : (st_u49q (.inr (a, b, c, d, 3, EV [⟨a, 2⟩, ⟨b, 2⟩, ⟨c, 2⟩]))).ev = some (.next (.inr (a, b, c, d, 4, EV [⟨a, 2⟩, ⟨b, 2⟩, ⟨c, 2⟩, ⟨d, 2⟩]))) := rfl
  rw [iterO_next h0, iterO_next h1, iterO_next h2, iterO_next h3]
  exact iterO_done rfl
theorem l_u50q_val (a b : Bs) (l : List AV) (hr : room (l.length + 1) 24 = true) (hr2 : room ((l ++ [(Va.mk a 1).av]).length + 1) 24 = true) : l_u50q (.inr (a, b, 0, l)) = some (1, .inr (a, b, 2, l ++ [(Va.mk a 1).av] ++ [(Va.mk b 1).av])) := by
  rw [l_u50q_eq]
  have h0 : (st_u50q (.inr (a, b, 0, l))).ev = some (.next (.inr (a, b, 1, l ++ [(Va.mk a 1).av]))) := by
    show (DT.br (room (l.length + 1) 24) _ _).ev = _
    rw [hr]; rfl
  have h1 : (st_u50q (.inr (a, b, 1, l ++ [(Va.mk a 1).av]))).ev = some (.next (.inr (a, b, 2, l ++ [(Va.mk a 1).av] ++ [(Va.mk b 1).av]))) := by
    show (DT.br (room ((l ++ [(Va.mk a 1).av]).length + 1) 24) _ _).ev = _
    rw [hr2]; rfl
  rw [iterO_next h0, iterO_next h1]
  exact iterO_done rfl
theorem f_u77q_val : f_u77q = some (EV varsP) := by
  rw [f_u77q_eq, tr_u77q, l_u49q_val]
  simp (decide := true) only [pj_some, if_true, if_false, ev_bi_none, ev_bi_some, sr_inr]
  rw [l_u50q_val _ _ _ rfl rfl]
  simp (decide := true) only [pj_some, if_true, if_false, ev_bi_none, ev_bi_some, sr_inr]
  rfl
theorem l_u73q_val {l : List Cu} (hl : l.length ≤ big) (s : Bs) (z : Bs) (k : Int) : l_u73q (s, EC l, (l.length : Int), 0, z, k) = some (seek (fun c => c.code == s) (fun _ => 0) 1 l, s, EC l, (l.length : Int), ((l.findIdx fun c => c.code == s : Nat) : Int), z, k) := by
  rw [l_u73q_eq]
  refine loop_search (hd := fun i => (s, EC l, (l.length : Int), (i : Int), z, k)) (jx := fun _ => 0) _ 1 (fun i hn => ?_) ?_
  · simp only [st_u73q, st_u73q_0, lt_at hn, okC hn, qc0 hn, ev_br, ev_at, br_eq, cond_true, wrap_succ hn hl]
    cases (l[i].code == s) <;> rfl
  · simp [st_u73q, st_u73q_0]
theorem f_u108q_val {l : List Cu} (hl : l.length ≤ big) (s : Bs) : ∃ a b, f_u108q (EC l) s = some (a, b, l.any fun c => c.code == s) := by
  rw [f_u108q_eq, tr_u108q, List.length_map, l_u73q_val hl, seek_const]
  cases h : l.any (fun c => c.code == s)
  · exact ⟨_, _, by simp (decide := true); exact ⟨rfl, rfl⟩⟩
  · exact ⟨_, _, by simp (decide := true); exact ⟨rfl, rfl⟩⟩
theorem f_u36q_val (a : Bs) (x y : List AV) (s : Bs) : f_u36q a x y s = some (a == s) := by rw [f_u36q_eq, tr_u36q]; rfl
theorem f_IndexCal_val {l : List Cal} (hl : l.length ≤ big) (s : Bs) : f_u7q (EK l) s = some (bif l.any (fun c => c.name == s) then ((l.findIdx fun c => c.name == s : Nat) : Int) else -1) := by
  have hloop : l_u6q (EK l, s, (l.length : Int), 0) = some (seek (fun c => c.name == s) (fun _ => 0) 1 l, EK l, s, (l.length : Int), ((l.findIdx fun c => c.name == s : Nat) : Int)) := by
    rw [l_u6q_eq]
    refine loop_search (hd := fun i => (EK l, s, (l.length : Int), (i : Int))) (jx := fun _ => 0) _ 1 (fun i hn => ?_) ?_
    · simp only [st_u6q, st_u6q_0, lt_at hn, okK hn, qk0 hn, f_u36q_val, ev_bi_some, ev_br, ev_at, br_eq, cond_true, wrap_succ hn hl]
      cases (l[i].name == s) <;> rfl
    · simp [st_u6q, st_u6q_0]
  rw [f_u7q_eq, tr_u7q, List.length_map, hloop, seek_const]
  cases h : l.any (fun c => c.name == s) <;> simp (decide := true)
def CalOk (c : Cal) : Prop := c.wk.length * 8 ≤ lim ∧ c.hol.length * 8 ≤ lim
theorem f_u58q_val {l : List Cal} (hl : l.length ≤ big) (hc : ∀ c ∈ l, CalOk c) (s : Bs) : ∃ a b c, f_u58q (EK l) s = some (a, b, c, l.any fun c => c.name == s) := by
  rw [f_u58q_eq, tr_u58q, f_IndexCal_val hl]
  cases h : l.any (fun c => c.name == s)
  · exact ⟨_, _, _, by simp (decide := true); exact ⟨rfl, rfl, rfl⟩⟩
  · have hi : l.findIdx (fun c => c.name == s) < l.length := List.findIdx_lt_length.2 (by simpa using h)
    generalize l.findIdx (fun c => c.name == s) = i at hi
    obtain ⟨h1, h2⟩ := hc l[i] (List.getElem_mem hi)
    have h3 : decide ((i : Int) < 0) = false := by simp
    simp only [ev_bi_some, cond_true, h3, ev_br, br_eq, cond_false, okK hi, qk0 hi, qk1 hi, qk2 hi]
    have e1 : decide (l[i].wk.length * 8 ≤ lim) = true := decide_eq_true h1
    have e2 : decide (l[i].hol.length * 8 ≤ lim) = true := decide_eq_true h2
    by_cases g1 : l[i].wk.length = 0
    · by_cases g2 : l[i].hol.length = 0
      · exact ⟨_, _, _, by simp [g1, g2]; exact ⟨rfl, rfl, rfl⟩⟩
      · exact ⟨_, _, _, by simp [g1, g2, h2]; exact ⟨rfl, rfl, rfl⟩⟩
    · by_cases g2 : l[i].hol.length = 0
      · exact ⟨_, _, _, by simp [g1, g2, h1]; exact ⟨rfl, rfl, rfl⟩⟩
      · exact ⟨_, _, _, by simp [g1, g2, h1, h2]; exact ⟨rfl, rfl, rfl⟩⟩
def badN (s : Bs) (i : Nat) : Bool := match s[i]? with
  | some c => !at8 ltB c && (i == 0 || !at8 nmI c)
  | none => false
theorem l_u52q_val {s : Bs} (hl : s.length ≤ big) : ∃ w, l_u52q (s, (s.length : Int), 0) = some (bif (List.range s.length).any (badN s) then 0 else 1, s, w) := by
  rw [l_u52q_eq]
  have h := loop_searchI (st := fun v => (st_u52q v).ev) (N := s.length) (hd := fun i => (s, (s.length : Int), (i : Int))) (jx := fun _ => 0) (badN s) 1 (fun i hn => ?_) ?_
  · rw [seek_const] at h
    exact ⟨_, h⟩
  · have e0 : ((i : Int) == 0) = (i == 0) := by cases i <;> rfl
    simp only [st_u52q, st_u52q_0, lt_at hn, inB_at hn, byteAt_at hn, e0, ev_br, br_eq, cond_true, badN, List.getElem?_eq_getElem hn, at8, nmI, ltB]
    have e48 : decide ((s[i].toNat : Int) ≥ 48) = !decide ((s[i].toNat : Int) < 48) := by
      by_cases h : (s[i].toNat : Int) < 48
      · simp [h]
      · simp [h]; omega
    have e57 : decide ((s[i].toNat : Int) ≤ 57) = !decide ((s[i].toNat : Int) > 57) := by
      by_cases h : (s[i].toNat : Int) > 57
      · simp [h]
      · simp [h]; omega
    simp only [e48, e57, bne, wrap_succ hn hl]
    generalize decide ((s[i].toNat : Int) ≥ 97) = a1
    generalize decide ((s[i].toNat : Int) ≤ 122) = a2
    generalize (i == 0) = a3
    generalize ((s[i].toNat : Int) == 95) = a4
    generalize decide ((s[i].toNat : Int) < 48) = a5
    generalize decide ((s[i].toNat : Int) > 57) = a6
    cases a1 <;> cases a2 <;> cases a3 <;> cases a4 <;> cases a5 <;> cases a6 <;> rfl
  · simp [st_u52q, st_u52q_0]
theorem badN_any (s : Bs) : (!(List.range s.length).any (badN s) && (decide ((s.length : Int) ≥ 1) && decide ((s.length : Int) ≤ 16))) = nmB s := by
  cases s with
  | nil => rfl
  | cons c r =>
    have hr : (List.range (c :: r).length).any (badN (c :: r)) = (!at8 ltB c || r.any fun x => !at8 nmI x) := by
      rw [List.length_cons, List.range_succ_eq_map, List.any_cons, List.any_map]
      have h0 : badN (c :: r) 0 = !at8 ltB c := by simp [badN]
      rw [h0]
      congr 1
      have hlt : ∀ x : UInt8, (!at8 ltB x && !at8 nmI x) = !at8 nmI x := by
        intro x
        simp only [at8, nmI, ltB]
        cases (decide ((x.toNat : Int) ≥ 97) && decide ((x.toNat : Int) ≤ 122)) <;> simp
      have hx : ∀ i ∈ List.range r.length, (badN (c :: r) ∘ Nat.succ) i = (match r[i]? with | some x => !at8 nmI x | none => false) := by
        intro i hi
        have hi' : i < r.length := by simpa using hi
        simp only [Function.comp, badN, List.getElem?_cons_succ, List.getElem?_eq_getElem hi']
        have : (Nat.succ i == 0) = false := rfl
        rw [this, Bool.false_or, hlt]
      rw [Bool.eq_iff_iff, List.any_eq_true, List.any_eq_true]
      constructor
      · rintro ⟨i, hi, hb⟩
        rw [hx i hi] at hb
        have hi' : i < r.length := by simpa using hi
        rw [List.getElem?_eq_getElem hi'] at hb
        exact ⟨r[i], List.getElem_mem hi', hb⟩
      · rintro ⟨x, hxm, hb⟩
        obtain ⟨i, hi', rfl⟩ := List.mem_iff_getElem.1 hxm
        refine ⟨i, by simpa using hi', ?_⟩
        rw [hx i (by simpa using hi'), List.getElem?_eq_getElem hi']
        exact hb
    rw [hr, nmB]
    have e1 : decide ((((c :: r).length : Nat) : Int) ≥ 1) = true := by simp; omega
    have e2 : decide ((((c :: r).length : Nat) : Int) ≤ 16) = decide (r.length < 16) := by
      rw [List.length_cons]; congr 1; exact propext ⟨fun h => by omega, fun h => by omega⟩
    rw [e1, e2, List.any_eq_not_all_not]
    cases at8 ltB c <;> cases decide (r.length < 16) <;> simp
theorem f_u79q_val {s : Bs} (hl : s.length ≤ big) : f_u79q s = some (nmB s) := by
  obtain ⟨w, h⟩ := l_u52q_val hl
  rw [f_u79q_eq, tr_u79q, h, ← badN_any]
  cases (List.range s.length).any (badN s)
  · cases h1 : decide ((s.length : Int) ≥ 1) <;> cases h2 : decide ((s.length : Int) ≤ 16) <;> simp (decide := true) [h1, h2]
  · simp (decide := true)
theorem f_u103q_val (d : Int) : f_u103q d = some (decide (d ≥ 0) && decide (d ≤ 73048)) := by
  rw [f_u103q_eq, tr_u103q]
  cases decide (d ≥ 0) <;> simp
theorem f_u78q_val {p : Pr} {l : List Cu} {c : List Cal} (hn : p.name.length ≤ big) (hl : l.length ≤ big) (hc : c.length ≤ big) (hk : ∀ x ∈ c, CalOk x) (a : List AV) (b : Bool) (x y : Int) (z : Bool) (a' : List AV) (b' : Bool) (x' y' : Int) (z' : Bool) (f r : List AV) :
    f_u78q p.name p.cur p.cal p.from_ p.every p.over p.tax a b x y z a' b' x' y' z' f r (EC l) (EK c) = some (headS p l c) := by
  obtain ⟨a1, a2, h1⟩ := f_u108q_val hl p.cur
  obtain ⟨b1, b2, b3, h2⟩ := f_u58q_val hc hk p.cal
  rw [f_u78q_eq, tr_u78q, h1, h2, f_u79q_val hn, f_u103q_val, headS]
  generalize decide (p.from_ ≥ 0) = d1
  generalize decide (p.from_ ≤ 73048) = d2
  generalize decide (p.over < 0) = d3
  generalize decide (p.over > 1000000000000) = d4
  generalize decide (p.tax < 0) = d5
  generalize decide (p.tax > 1000000) = d6
  generalize (p.every == 1) = g1
  generalize (p.every == 3) = g2
  generalize (p.every == 6) = g3
  generalize (p.every == 12) = g4
  generalize nmB p.name = q1
  generalize l.any (fun x => x.code == p.cur) = q2
  generalize c.any (fun x => x.name == p.cal) = q3
  clear h1 h2 hn hl hc hk
  have hq : ((((((!(d1 && d2)) || !(((g1 || g2) || g3) || g4)) || d3) || d4) || d5) || d6) = (!(d1 && d2) || (!(g1 || (g2 || (g3 || g4))) || (d3 || (d4 || (d5 || d6))))) := by simp only [Bool.or_assoc]
  rw [← hq, ev_bi_some, ev_bi_some, br_or, ev_bi_some, br_or, ev_bi_some, br_or, ev_bi_some, ev_bi_some, ev_br, ev_br, ev_br, ev_bi_some, br_or, ev_bi_some, br_or, ev_bi_some, br_or, ev_bi_some, br_or, ev_bi_some, br_or, ev_bi_some, ev_br]
  generalize ((((((!(d1 && d2)) || !(((g1 || g2) || g3) || g4)) || d3) || d4) || d5) || d6) = q4
  cases q1 <;> cases q2 <;> cases q3 <;> cases q4 <;> rfl
theorem l_u81q_val {l : List Tr} (hl : l.length ≤ big) (a : List AV) : l_u81q (a, ETr l, (l.length : Int), 0) = some (bif l.any badT then 0 else 1, a, ETr l, (l.length : Int), ((l.findIdx badT : Nat) : Int)) := by
  have h := loop_search (st := fun v => (st_u81q v).ev) (l := l) (hd := fun i => (a, ETr l, (l.length : Int), (i : Int))) (jx := fun _ => 0) badT 1 (fun i hn => ?_) ?_
  · rw [seek_const] at h
    rw [l_u81q_eq]; exact h
  · simp only [st_u81q, st_u81q_0, lt_at hn, okTr hn, qtr0 hn, qtr1 hn, ev_br, ev_at, br_eq, cond_true, wrap_succ hn hl, badT]
    cases decide (l[i].from_ < 0) <;> cases decide (l[i].from_ > 1000000000000) <;> cases decide (l[i].ppm < 0) <;> cases decide (l[i].ppm > 1000000) <;> rfl
  · simp [st_u81q, st_u81q_0]
theorem f_u82q_val (a b : Int) : f_u82q a b = some a := by rw [f_u82q_eq, tr_u82q]; rfl
theorem f_ascending_val {l : List Tr} (hl : l.length ≤ big) : f_u23q (ETr l) = some (!(List.range (l.length - 1)).any (dscT l)) := by
  have hloop : ∃ w, l_u21q (ETr l, 1) = some (bif (List.range (l.length - 1)).any (dscT l) then 0 else 1, w) := by
    have h := loop_searchI (st := fun v => (st_u21q v).ev) (N := l.length - 1) (hd := fun i => (ETr l, ((i + 1 : Nat) : Int))) (jx := fun _ => 0) (dscT l) 1 (fun i hn => ?_) ?_
    · rw [seek_const] at h
      rw [l_u21q_eq]; exact ⟨_, h⟩
    · have h1 : i + 1 < l.length := by omega
      have h0 : i < l.length := by omega
      have e1 : IntKind.i64.wrap (((i + 1 : Nat) : Int) - 1) = (i : Int) := by rw [wrap64 (by omega) (by simp only [big] at hl; omega)]; omega
      simp only [st_u21q, st_u21q_0, List.length_map, lt_at h1, okTr h1, qtr0 h1, qtr1 h1, e1, okTr h0, qtr0 h0, qtr1 h0, f_u82q_val, ev_bi_some, ev_br, ev_at, br_eq, cond_true, wrap_succ h1 hl, dscT, List.getElem?_eq_getElem h0, List.getElem?_eq_getElem h1]
      cases decide (l[i + 1].from_ ≤ l[i].from_) <;> rfl
    · have : decide (((l.length - 1 + 1 : Nat) : Int) < (((ETr l).length : Nat) : Int)) = false := by simp; omega
      simp only [st_u21q, st_u21q_0, this]; rfl
  obtain ⟨w, h⟩ := hloop
  rw [f_u23q_eq, tr_u23q, h]
  cases (List.range (l.length - 1)).any (dscT l) <;> simp (decide := true)
theorem f_u109q_val {l : List Tr} (hl : l.length ≤ big) : f_u109q (ETr l) = some (tierS l) := by
  rw [f_u109q_eq, tr_u109q, List.length_map, l_u81q_val hl]
  unfold tierS
  by_cases h6 : l.length > 6
  · have : decide ((l.length : Int) > 6) = true := by simp; omega
    rw [this, if_pos h6]; rfl
  · have h6' : decide ((l.length : Int) > 6) = false := by simp; omega
    rw [h6', if_neg h6]
    cases l.any badT
    · simp (decide := true) only [ev_br, br_eq, cond_false, pj_some, if_true, if_false, ev_bi_none, ev_bi_some, f_ascending_val hl]
      cases (List.range (l.length - 1)).any (dscT l)
      · cases l with
        | nil => simp
        | cons t r =>
          have h0 : 0 < (t :: r).length := by simp
          have e1 : okAt ksTr (ETr (t :: r)) 0 = true := okTr (n := 0) h0
          have e2 : intOf (cellAt (ETr (t :: r)) 0 0) = t.from_ := qtr0 (n := 0) h0
          have e3 : decide ((((ETr (t :: r)).length : Nat) : Int) > 0) = true := by simp
          simp only [Bool.not_false, Bool.not_true, cond_true, cond_false, ev_br, br_eq, e1, e2, e3, ev_bi_some]
          cases (t.from_ != 0) <;> rfl
      · simp
    · simp (decide := true)
theorem f_u34q_val {x : In} (hl : x.tiers.length ≤ big) : f_u34q (ETr x.tiers) x.marg x.basis x.mode x.keep = some (intS x) := by
  rw [f_u34q_eq, tr_u34q, f_u109q_val hl, intS]
  simp only [ev_bi_some, br_or, ev_br, ev_at, Bool.or_assoc]
  cases tierS x.tiers != 0
  · cases (decide (x.basis < 1) || (decide (x.basis > 4) || (decide (x.mode < 1) || decide (x.mode > 6)))) <;> rfl
  · rfl
def FeOk (x : Fe) : Prop := x.name.length ≤ big ∧ x.when_.nodes ≤ big ∧ x.amount.nodes ≤ big
def RuOk (x : Ru) : Prop := x.name.length ≤ big ∧ x.amount.nodes ≤ big
theorem varsP_len : varsP.length ≤ big := by decide
theorem f_u94q_val {x : Fe} (h : FeOk x) : f_u94q x.name x.event x.when_.op x.when_.num x.when_.txt (EX x.when_.args) x.amount.op x.amount.num x.amount.txt (EX x.amount.args) = some (feeS x) := by
  rw [f_u94q_eq, tr_u94q, f_u79q_val h.1, f_u77q_val, feeS]
  simp only [ev_bi_some, br_or, ev_br, ev_at, f_u90q_val varsP_len h.2.1, f_u90q_val varsP_len h.2.2]
  cases nmB x.name <;> cases (decide (x.event < 1) || decide (x.event > 4)) <;> cases (checkS x.when_ varsP 5 != 0) <;> rfl
theorem f_u80q_val {x : Ru} (h : RuOk x) : f_u80q x.name x.window x.amount.op x.amount.num x.amount.txt (EX x.amount.args) = some (ruleS x) := by
  rw [f_u80q_eq, tr_u80q, f_u79q_val h.1, f_u77q_val, ruleS]
  simp only [ev_bi_some, br_or, ev_br, ev_at, f_u90q_val varsP_len h.2]
  cases nmB x.name <;> cases (decide (x.window < 1) || decide (x.window > 3)) <;> rfl
def hd0 (p : Pr) (i : Int) : TT_u37q := (ETr p.cr.tiers, p.cr.marg, p.cr.basis, p.cr.mode, p.cr.keep, ETr p.de.tiers, p.de.marg, p.de.basis, p.de.mode, p.de.keep, i, p.name, p.cur, p.cal, p.from_, p.every, p.over, p.tax, ETr p.cr.tiers, p.cr.marg, p.cr.basis, p.cr.mode, p.cr.keep, ETr p.de.tiers, p.de.marg, p.de.basis, p.de.mode, p.de.keep, EF p.fees, ER p.rules)
theorem l_u37q_val {p : Pr} (h1 : p.cr.tiers.length ≤ big) (h2 : p.de.tiers.length ≤ big) : l_u37q (hd0 p 0) = some (bif intS p.cr != 0 then 0 else bif intS p.de != 0 then 1 else 2, hd0 p (bif intS p.cr != 0 then 0 else bif intS p.de != 0 then 1 else 2)) := by
  rw [l_u37q_eq]
  have w0 : IntKind.i64.wrap (0 + 1) = 1 := rfl
  have w1 : IntKind.i64.wrap (1 + 1) = 2 := rfl
  have e0 : (st_u37q (hd0 p 0)).ev = some (bif intS p.cr != 0 then .done 0 else .next (hd0 p 1)) := by
    simp (decide := true) only [hd0, st_u37q, st_u37q_0, f_u34q_val h1, ev_bi_some, ev_br, ev_at, br_eq, cond_true, w0]
    cases intS p.cr != 0 <;> rfl
  have e1 : (st_u37q (hd0 p 1)).ev = some (bif intS p.de != 0 then .done 1 else .next (hd0 p 2)) := by
    have n1 : decide ((1 : Int) = Int.ofNat 0) = false := by decide
    have n2 : decide ((1 : Int) = Int.ofNat 1) = true := by decide
    have n3 : decide ((1 : Int) < 2) = true := by decide
    simp only [hd0, st_u37q, st_u37q_0, n1, n2, n3, f_u34q_val h2, ev_bi_some, ev_br, ev_at, br_eq, cond_true, cond_false, w1]
    cases intS p.de != 0 <;> rfl
  have e2 : (st_u37q (hd0 p 2)).ev = some (.done 2) := rfl
  cases g1 : (intS p.cr != 0)
  · rw [g1] at e0
    rw [iterO_next e0]
    cases g2 : (intS p.de != 0)
    · rw [g2] at e1
      rw [iterO_next e1, iterO_done e2]; rfl
    · rw [g2] at e1
      rw [iterO_done e1]; rfl
  · rw [g1] at e0
    rw [iterO_done e0]; rfl
theorem l_u38q_val {p : Pr} (hl : p.fees.length ≤ big) (hx : ∀ x ∈ p.fees, FeOk x) (c1 c2 c3 : Bs) (c4 c5 c6 c7 : Int) (c8 : List AV) (c9 : Bool) (c10 c11 : Int) (c12 : Bool) (c13 : List AV) (c14 : Bool) (c15 c16 : Int) (c17 : Bool) (c18 c19 : List AV) :
    l_u38q (EF p.fees, (p.fees.length : Int), 0, c1, c2, c3, c4, c5, c6, c7, c8, c9, c10, c11, c12, c13, c14, c15, c16, c17, c18, c19) =
      some (bif p.fees.any (fun x => feeS x != 0) then 0 else 1, EF p.fees, (p.fees.length : Int), ((p.fees.findIdx fun x => feeS x != 0 : Nat) : Int), c1, c2, c3, c4, c5, c6, c7, c8, c9, c10, c11, c12, c13, c14, c15, c16, c17, c18, c19) := by
  have h := loop_search (st := fun v => (st_u38q v).ev) (l := p.fees) (hd := fun i => (EF p.fees, (p.fees.length : Int), (i : Int), c1, c2, c3, c4, c5, c6, c7, c8, c9, c10, c11, c12, c13, c14, c15, c16, c17, c18, c19)) (jx := fun _ => 0) (fun x => feeS x != 0) 1 (fun i hn => ?_) ?_
  · rw [seek_const] at h
    rw [l_u38q_eq]; exact h
  · simp only [st_u38q, st_u38q_0, lt_at hn, okF hn, qf0 hn, qf1 hn, qf2 hn, qf3 hn, qf4 hn, qf5 hn, qf6 hn, qf7 hn, qf8 hn, qf9 hn, f_u94q_val (hx _ (List.getElem_mem hn)), ev_bi_some, ev_br, ev_at, br_eq, cond_true, wrap_succ hn hl]
    cases feeS p.fees[i] != 0 <;> rfl
  · simp [st_u38q, st_u38q_0]
theorem l_u39q_val {l : List Ru} (hl : l.length ≤ big) (hx : ∀ x ∈ l, RuOk x) : l_u39q (ER l, (l.length : Int), 0) = some (bif l.any (fun x => ruleS x != 0) then 0 else 1, ER l, (l.length : Int), ((l.findIdx fun x => ruleS x != 0 : Nat) : Int)) := by
  have h := loop_search (st := fun v => (st_u39q v).ev) (l := l) (hd := fun i => (ER l, (l.length : Int), (i : Int))) (jx := fun _ => 0) (fun x => ruleS x != 0) 1 (fun i hn => ?_) ?_
  · rw [seek_const] at h
    rw [l_u39q_eq]; exact h
  · simp only [st_u39q, st_u39q_0, lt_at hn, okR hn, qr0 hn, qr1 hn, qr2 hn, qr3 hn, qr4 hn, qr5 hn, f_u80q_val (hx _ (List.getElem_mem hn)), ev_bi_some, ev_br, ev_at, br_eq, cond_true, wrap_succ hn hl]
    cases ruleS l[i] != 0 <;> rfl
  · simp [st_u39q, st_u39q_0]
structure PrOk (p : Pr) : Prop where
  name : p.name.length ≤ big
  crl : p.cr.tiers.length ≤ 1000000
  del : p.de.tiers.length ≤ 1000000
  fel : p.fees.length ≤ 1000000
  rul : p.rules.length ≤ 1000000
  fees : ∀ x ∈ p.fees, FeOk x
  rules : ∀ x ∈ p.rules, RuOk x
theorem le_big {n : Nat} (h : n ≤ 1000000) : n ≤ big := Nat.le_trans h (by decide)
theorem firstE_found {α : Type} {f : α → Int} {l : List α} (h : l.any (fun x => f x != 0) = true) : ∃ h' : l.findIdx (fun x => f x != 0) < l.length, f l[l.findIdx fun x => f x != 0] = firstE f l ∧ firstE f l ≠ 0 := by
  rw [firstE_eq]
  cases hf : l.find? (fun x => f x != 0) with
  | none =>
    rw [List.any_eq_true] at h
    obtain ⟨x, hx, hp⟩ := h
    exact absurd hp (List.find?_eq_none.1 hf x hx)
  | some x =>
    obtain ⟨h', hx⟩ := find_idx hf
    exact ⟨h', by rw [hx], by simpa using List.find?_some hf⟩
theorem firstE_not {α : Type} {f : α → Int} {l : List α} (h : l.any (fun x => f x != 0) = false) : firstE f l = 0 := by
  rw [firstE_eq]
  cases hf : l.find? (fun x => f x != 0) with
  | none => rfl
  | some x =>
    rw [List.any_eq_false] at h
    exact absurd (List.find?_some hf) (h x (List.mem_of_find?_eq_some hf))
theorem f_u63q_val {p : Pr} {l : List Cu} {c : List Cal} (hp : PrOk p) (hl : l.length ≤ big) (hc : c.length ≤ big) (hk : ∀ x ∈ c, CalOk x) :
    f_u63q p.name p.cur p.cal p.from_ p.every p.over p.tax (ETr p.cr.tiers) p.cr.marg p.cr.basis p.cr.mode p.cr.keep (ETr p.de.tiers) p.de.marg p.de.basis p.de.mode p.de.keep (EF p.fees) (ER p.rules) (EC l) (EK c) = some (prS p l c) := by
  have h0 := l_u37q_val (p := p) (le_big hp.crl) (le_big hp.del)
  simp only [hd0] at h0
  rw [f_u63q_eq, tr_u63q, f_u78q_val hp.name hl hc hk, h0, prS]
  simp only [ev_bi_some, ev_br, br_eq, ev_at]
  cases headS p l c != 0
  · cases g1 : (intS p.cr != 0)
    · cases g2 : (intS p.de != 0)
      · simp (decide := true) only [ev_bi_some, ev_br, br_eq, cond_false, cond_true, pj_some, if_true, if_false, ev_bi_none, List.length_map]
        have e1 : decide ((p.fees.length : Int) > 4) = decide (p.fees.length > 4) := by congr 1; exact propext ⟨fun h => by omega, fun h => by omega⟩
        have e2 : decide ((p.rules.length : Int) > 4) = decide (p.rules.length > 4) := by congr 1; exact propext ⟨fun h => by omega, fun h => by omega⟩
        rw [e1, e2, l_u38q_val (le_big hp.fel) hp.fees]
        cases decide (p.fees.length > 4)
        · cases decide (p.rules.length > 4)
          · cases h3 : p.fees.any (fun x => feeS x != 0)
            · have hz := firstE_not h3
              simp (decide := true) only [ev_bi_some, ev_br, br_eq, cond_false, cond_true, pj_some, if_true, if_false, ev_bi_none, List.length_map, l_u39q_val (le_big hp.rul) hp.rules, Bool.or_self, hz, bne_self_eq_false]
              cases h4 : p.rules.any (fun x => ruleS x != 0)
              · simp (decide := true) [firstE_not h4]
              · obtain ⟨hi, hv, hnz⟩ := firstE_found h4
                simp (decide := true) only [pj_some, if_true, ev_bi_some, cond_true, qr0 hi, qr1 hi, qr2 hi, qr3 hi, qr4 hi, qr5 hi, f_u80q_val (hp.rules _ (List.getElem_mem hi)), gv_some, ev_at, hv]
            · obtain ⟨hi, hv, hnz⟩ := firstE_found h3
              have hnz' : (firstE feeS p.fees != 0) = true := by simpa using hnz
              simp (decide := true) only [ev_bi_some, ev_br, br_eq, cond_false, cond_true, pj_some, if_true, qf0 hi, qf1 hi, qf2 hi, qf3 hi, qf4 hi, qf5 hi, qf6 hi, qf7 hi, qf8 hi, qf9 hi, f_u94q_val (hp.fees _ (List.getElem_mem hi)), gv_some, ev_at, hv, hnz', Bool.or_self]
          · simp
        · simp
      · simp (decide := true) [f_u34q_val (le_big hp.del)]
    · simp (decide := true) [f_u34q_val (le_big hp.crl)]
  · simp
def widM (e : Ex) : Bool := decide (e.args.length ≤ 1000000)
def Wm (e : Ex) : Prop := e.allX widM = true
theorem Wm.len {e : Ex} (h : Wm e) : e.args.length ≤ 1000000 := by
  rw [Wm, Ex.allX_eq, Bool.and_eq_true] at h
  exact of_decide_eq_true h.1
theorem Wm.arg {e x : Ex} (h : Wm e) (hx : x ∈ e.args) : Wm x := by
  rw [Wm, Ex.allX_eq, Bool.and_eq_true, List.all_eq_true] at h
  exact h.2 x hx
def outE (x : Ex) : Int × Int × List UInt8 × List AV := (x.op, x.num, x.txt, EX x.args)
theorem op_mk (o n : Int) (s : Bs) (l : List Ex) : (Ex.mk o n s l).op = o := rfl
theorem num_mk (o n : Int) (s : Bs) (l : List Ex) : (Ex.mk o n s l).num = n := rfl
theorem txt_mk (o n : Int) (s : Bs) (l : List Ex) : (Ex.mk o n s l).txt = s := rfl
theorem args_mk (o n : Int) (s : Bs) (l : List Ex) : (Ex.mk o n s l).args = l := rfl
theorem cx0 {l : List Ex} {n : Nat} (h : n < l.length) : intOf (cellN (EX l) n 0) = l[n].op := by rw [cellN_map h, av_eq]; rfl
theorem cx1 {l : List Ex} {n : Nat} (h : n < l.length) : intOf (cellN (EX l) n 1) = l[n].num := by rw [cellN_map h, av_eq]; rfl
theorem cx2 {l : List Ex} {n : Nat} (h : n < l.length) : strOf (cellN (EX l) n 2) = l[n].txt := by rw [cellN_map h, av_eq]; rfl
theorem cx3 {l : List Ex} {n : Nat} (h : n < l.length) : viewOf (cellN (EX l) n 3) = EX l[n].args := by rw [cellN_map h, av_eq]; rfl
theorem px0 {l : List Ex} {n : Nat} (h : n < l.length) : okP ksX (EX l) n 0 = true := by rw [okP_map h, av_eq]; rfl
theorem sx0 {l : List Ex} {n : Nat} (h : n < l.length) : okS (EX l) n 0 4 = true := by rw [okS_map h, av_eq]; rfl
theorem setX {l : List Ex} {n : Nat} (h : n < l.length) : setE (EX l) n 0 [AV.int IntKind.i64 l[n].op, AV.int IntKind.i64 l[n].num, AV.str l[n].txt, AV.view 4 (EX l[n].args)] = EX l := by
  rw [setE_map h (y := l[n]) (by rw [av_eq]; rfl), List.set_getElem_self]
theorem copied_key : ∀ (e : Ex), Wm e → ∀ k, e.dep ≤ k → N_u51q k e.op e.num e.txt (EX e.args) = some (outE e) := by
  intro e
  induction e using Ex.ind with
  | h o m s l ih =>
    intro hw k hk
    have hd := Ex.dep_pos (.mk o m s l)
    obtain ⟨k, rfl⟩ : ∃ k', k = k' + 1 := ⟨k - 1, by omega⟩
    show (tr_u51q (N_u51q k) o m s (EX l)).ev = _
    have hlen : l.length ≤ 1000000 := hw.len
    have key : ∀ i, i ≤ l.length → iterO (fun v => (st_u33q (N_u51q k) v).ev) (.inr ((l.length : Int), (i : Int), o, m, s, 0, 0, [], EX l)) = some (1, .inr ((l.length : Int), (l.length : Int), o, m, s, 0, 0, [], EX l)) := by
      intro i hi
      refine loop_steps (st := fun v => (st_u33q (N_u51q k) v).ev) (hd := fun i => .inr ((l.length : Int), (i : Int), o, m, s, 0, 0, [], EX l)) l.length 1 i hi (fun j _ hj => ?_) ?_
      · have hx : l[j] ∈ l := List.getElem_mem hj
        have hxd := dep_arg (e := .mk o m s l) (x := l[j]) hx
        have hxv := ih l[j] hx (hw.arg hx) k (by omega)
        simp only [st_u33q, Sum.elim_inr, st_u33q_1, List.length_map, lt_at hj, inB_at hj, Int.toNat_natCast, px0 hj, cx0 hj, cx1 hj, cx2 hj, cx3 hj, sx0 hj, hxv, outE, setX hj, ev_br, ev_at, ev_bi_some, cond_true, wrap_succ hj (le_big hlen)]
      · simp [st_u33q, st_u33q_1]
    cases l with
    | nil =>
      have h0 : l_u33q (N_u51q k) (.inl (0, 0, o, m, s, 0, 0, [])) = some (0, .inl (0, 0, o, m, s, 0, 0, [])) := by
        rw [l_u33q_eq]; exact iterO_done rfl
      have n1 : decide ((EX ([] : List Ex)).length = 0) = true := rfl
      rw [tr_u51q, n1, h0]
      simp (decide := true) [outE, op_mk, num_mk, txt_mk, args_mk]
    | cons x l =>
      have h0 := key 0 (by omega)
      have h1 : l_u33q (N_u51q k) (.inr (((x :: l).length : Int), 0, o, m, s, 0, 0, [], EX (x :: l))) = some (1, .inr (((x :: l).length : Int), ((x :: l).length : Int), o, m, s, 0, 0, [], EX (x :: l))) := by rw [l_u33q_eq]; exact h0
      have n1 : decide ((EX (x :: l)).length = 0) = false := by simp
      have n2 : decide ((EX (x :: l)).length ≠ 0) = true := by simp
      have n3 : decide ((EX (x :: l)).length * 56 ≤ lim) = true := by rw [List.length_map]; exact decide_eq_true (by simp only [lim]; omega)
      rw [tr_u51q, n1, n2, n3, List.length_map, h1]
      simp (decide := true) [outE, op_mk, num_mk, txt_mk, args_mk]
theorem f_u51q_val {e : Ex} (h : Wm e) : f_u51q e.op e.num e.txt (EX e.args) = some (outE e) := limO_of (copied_key e h)
theorem f_u76q_val (p : Pr) (h1 : p.cr.tiers.length ≤ 1000000) (h2 : p.de.tiers.length ≤ 1000000) (f r : List AV) (b : Int) : f_u76q p.name p.cur p.cal p.from_ p.every p.over p.tax (ETr p.cr.tiers) p.cr.marg p.cr.basis p.cr.mode p.cr.keep (ETr p.de.tiers) p.de.marg p.de.basis p.de.mode p.de.keep f r b =
    some (bif decide (b < 0) then (ETr p.de.tiers, p.de.marg, p.de.basis, p.de.mode, p.de.keep) else (ETr p.cr.tiers, p.cr.marg, p.cr.basis, p.cr.mode, p.cr.keep)) := by
  have hc : ∀ (t : List Tr), t.length ≤ 1000000 → ∀ (a : Bool) (x y : Int) (z : Bool), (DT.br (decide ((ETr t).length = 0)) (DT.at (([] : List AV), a, x, y, z)) (DT.br (decide ((ETr t).length ≠ 0) && decide ((ETr t).length * 16 ≤ lim)) (DT.at (ETr t, a, x, y, z)) DT.no)).ev = some (ETr t, a, x, y, z) := by
    intro t ht a x y z
    cases t with
    | nil => rfl
    | cons q t =>
      have n1 : decide ((ETr (q :: t)).length = 0) = false := by simp
      have n2 : decide ((ETr (q :: t)).length ≠ 0) = true := by simp
      have n3 : decide ((ETr (q :: t)).length * 16 ≤ lim) = true := by rw [List.length_map]; exact decide_eq_true (by simp only [lim]; omega)
      rw [n1, n2, n3]; rfl
  rw [f_u76q_eq, tr_u76q, ev_br]
  cases decide (b < 0)
  · exact hc _ h1 _ _ _ _
  · exact hc _ h2 _ _ _ _
def FeC (x : Fe) : Prop := Wm x.when_ ∧ Wm x.amount
def hdFe (ev : Int) (l : List Fe) (i : Int) : List Fe → TT_u46q
  | [] => .inl (ev, EF l, (l.length : Int), i)
  | acc => .inr (ev, EF l, (l.length : Int), i, EF acc)
theorem f_u74q_val (p : Pr) (hl : p.fees.length ≤ 1000000) (hx : ∀ x ∈ p.fees, FeC x) (t t' r : List AV) (a a' z z' : Bool) (x x' y y' : Int) (ev : Int) : f_u74q p.name p.cur p.cal p.from_ p.every p.over p.tax t a x y z t' a' x' y' z' (EF p.fees) r ev =
    some (EF (p.fees.filter fun f => f.event == ev)) := by
  generalize hL : p.fees = l at *
  have key : ∀ (r i : Nat), i + r = l.length → ∃ j, iterO (fun v => (st_u46q v).ev) (hdFe ev l (i : Int) ((l.take i).filter fun f => f.event == ev)) = some (j, hdFe ev l (l.length : Int) (l.filter fun f => f.event == ev)) ∧ j = (if (l.filter fun f => f.event == ev) = [] then 0 else 1) := by
    intro r
    induction r with
    | zero =>
      intro i hi
      have : i = l.length := by omega
      subst this
      rw [List.take_length]
      cases hf : l.filter (fun f => f.event == ev) with
      | nil => exact ⟨_, iterO_done (by simp [hdFe, st_u46q, st_u46q_0]), rfl⟩
      | cons q m => exact ⟨_, iterO_done (by simp [hdFe, st_u46q, st_u46q_1]), rfl⟩
    | succ r ihr =>
      intro i hi
      have hi' : i < l.length := by omega
      obtain ⟨j, h1, h2⟩ := ihr (i + 1) (by omega)
      refine ⟨j, ?_, h2⟩
      rw [← h1]
      refine iterO_next ?_
      obtain ⟨hw1, hw2⟩ := hx _ (List.getElem_mem hi')
      have e4 : (l.take (i + 1)).filter (fun f => f.event == ev) = (l.take i).filter (fun f => f.event == ev) ++ (bif l[i].event == ev then [l[i]] else []) := by
        rw [List.take_succ_eq_append_getElem hi', List.filter_append]
        cases hq : (l[i].event == ev) <;> simp [hq]
      have hlen2 : ((l.take i).filter fun f => f.event == ev).length ≤ 1000000 := Nat.le_trans (List.length_filter_le _ _) (by simp; omega)
      rw [e4]
      generalize (l.take i).filter (fun f => f.event == ev) = acc at hlen2
      cases acc with
      | nil =>
        simp only [hdFe, st_u46q, Sum.elim_inl, st_u46q_0, lt_at hi', okF hi', qf0 hi', qf1 hi', qf2 hi', qf3 hi', qf4 hi', qf5 hi', qf6 hi', qf7 hi', qf8 hi', qf9 hi', f_u51q_val hw1, f_u51q_val hw2, ev_br, ev_at, ev_bi_some, cond_true, wrap_succ hi' (le_big hl), outE]
        cases hq : (l[i].event == ev) <;> rfl
      | cons q acc =>
        have hroom : room ((EF (q :: acc)).length + 1) 136 = true := room_of (by simp only [lim, List.length_map]; omega)
        simp only [hdFe, st_u46q, Sum.elim_inr, st_u46q_1, lt_at hi', okF hi', qf0 hi', qf1 hi', qf2 hi', qf3 hi', qf4 hi', qf5 hi', qf6 hi', qf7 hi', qf8 hi', qf9 hi', f_u51q_val hw1, f_u51q_val hw2, ev_br, ev_at, ev_bi_some, cond_true, wrap_succ hi' (le_big hl), outE, hroom]
        cases hq : (l[i].event == ev)
        · simp [hdFe]
        · simp [hdFe, Fe.av]
  obtain ⟨j, h1, rfl⟩ := key l.length 0 (by omega)
  have hloop : l_u46q (.inl (ev, EF l, (l.length : Int), 0)) = some (if (l.filter fun f => f.event == ev) = [] then 0 else 1, hdFe ev l (l.length : Int) (l.filter fun f => f.event == ev)) := by rw [l_u46q_eq]; exact h1
  rw [f_u74q_eq, tr_u74q, List.length_map, hloop]
  cases l.filter (fun f => f.event == ev) with
  | nil => simp (decide := true) [hdFe]
  | cons q m => simp (decide := true) [hdFe]
theorem f_u25q_val {a b : In} (ha : a.tiers.length ≤ 1000000) (hb : b.tiers.length ≤ 1000000) : f_u25q (ETr a.tiers) a.marg a.basis a.mode a.keep (ETr b.tiers) b.marg b.basis b.mode b.keep = some (sameIn a b) := by
  rw [f_u25q_eq, tr_u25q, List.length_map, List.length_map, sameIn]
  by_cases hl : a.tiers.length = b.tiers.length
  · have e1 : ((a.tiers.length : Int) != (b.tiers.length : Int)) = false := by simp [hl]
    have e2 : (a.tiers.length == b.tiers.length) = true := by simp [hl]
    have hloop : ∃ i, l_u24q ((a.tiers.length : Int), 0, ETr a.tiers, a.marg, a.basis, a.mode, a.keep, ETr b.tiers, b.marg, b.basis, b.mode, b.keep) = some (bif (List.range a.tiers.length).any (difB eqT a.tiers b.tiers) then 0 else 1, (a.tiers.length : Int), i, ETr a.tiers, a.marg, a.basis, a.mode, a.keep, ETr b.tiers, b.marg, b.basis, b.mode, b.keep) := by
      have h := loop_searchI (st := fun v => (st_u24q v).ev) (N := a.tiers.length) (hd := fun i => ((a.tiers.length : Int), (i : Int), ETr a.tiers, a.marg, a.basis, a.mode, a.keep, ETr b.tiers, b.marg, b.basis, b.mode, b.keep)) (jx := fun _ => 0) (difB eqT a.tiers b.tiers) 1 (fun i hn => ?_) ?_
      · rw [seek_const] at h
        rw [l_u24q_eq]; exact ⟨_, h⟩
      · have hn' : i < b.tiers.length := by omega
        simp only [st_u24q, st_u24q_0, lt_at hn, okTr hn, okTr hn', qtr0 hn, qtr1 hn, qtr0 hn', qtr1 hn', ev_br, ev_at, cond_true, wrap_succ hn (le_big ha), if_true, difB, List.getElem?_eq_getElem hn, List.getElem?_eq_getElem hn', eqT]
        cases (a.tiers[i].from_ == b.tiers[i].from_ && (a.tiers[i].ppm == b.tiers[i].ppm && true)) <;> rfl
      · simp [st_u24q, st_u24q_0]
    obtain ⟨i, h⟩ := hloop
    rw [e1, e2, h]
    cases (List.range a.tiers.length).any (difB eqT a.tiers b.tiers)
    · simp (decide := true) only [ev_bi_none, ev_bi_some, ev_br, ev_at, cond_false, cond_true, pj_some, if_true, if_false, Bool.false_eq_true, br_and, Bool.and_assoc, Bool.not_false, Bool.true_and]
    · simp (decide := true)
  · have e1 : ((a.tiers.length : Int) != (b.tiers.length : Int)) = true := by simp; omega
    have e2 : (a.tiers.length == b.tiers.length) = false := by simpa using hl
    rw [e1, e2]; rfl
theorem f_u118q_key : ∀ (e : Ex), Wd e → ∀ (f : Ex), Wd f → ∀ k, 2 * e.dep ≤ k → (N_u118q k).1 e.op e.num e.txt (EX e.args) f.op f.num f.txt (EX f.args) = some (sameX e f) := by
  intro e
  induction e using Ex.ind with
  | h o n s l ih =>
    intro hw f hf k hk
    have hd := Ex.dep_pos (.mk o n s l)
    obtain ⟨k, rfl⟩ : ∃ k', k = k' + 2 := ⟨k - 2, by omega⟩
    obtain ⟨o', n', s', m⟩ := f
    have hlen : l.length ≤ big := hw.len
    have hEq : (N_u118q (k + 1)).2 (EX l) (EX m) = some (sameXs l m) := by
      show (tr_u2q (N_u118q k).1 (N_u118q k).2 (EX l) (EX m)).ev = _
      rw [tr_u2q, sameXs_eq, sameL, List.length_map, List.length_map]
      by_cases hl : l.length = m.length
      · have e1 : ((l.length : Int) != (m.length : Int)) = false := by simp [hl]
        have e2 : (l.length == m.length) = true := by simp [hl]
        have hloop : ∃ w, l_u0q (N_u118q k).1 (N_u118q k).2 (EX m, EX l, (l.length : Int), 0) = some (bif (List.range l.length).any (difB sameX l m) then 0 else 1, w) := by
          have h := loop_searchI (st := fun v => (st_u0q (N_u118q k).1 (N_u118q k).2 v).ev) (N := l.length) (hd := fun i => (EX m, EX l, (l.length : Int), (i : Int))) (jx := fun _ => 0) (difB sameX l m) 1 (fun i hn => ?_) ?_
          · rw [seek_const] at h
            rw [l_u0q_eq]; exact ⟨_, h⟩
          · have hn' : i < m.length := by omega
            have hxd := dep_arg (e := .mk o n s l) (x := l[i]) (List.getElem_mem hn)
            have hv := ih l[i] (List.getElem_mem hn) (hw.arg (List.getElem_mem hn)) m[i] (hf.arg (List.getElem_mem hn')) k (by omega)
            simp only [st_u0q, st_u0q_0, lt_at hn, okX hn, okX hn', qx0 hn, qx1 hn, qx2 hn, qx3 hn, qx0 hn', qx1 hn', qx2 hn', qx3 hn', hv, ev_bi_some, ev_br, ev_at, cond_true, wrap_succ hn hlen, difB, List.getElem?_eq_getElem hn, List.getElem?_eq_getElem hn']
            cases sameX l[i] m[i] <;> rfl
          · simp [st_u0q, st_u0q_0]
        obtain ⟨w, h⟩ := hloop
        rw [e1, e2, h]
        cases (List.range l.length).any (difB sameX l m) <;> simp (decide := true)
      · have e1 : ((l.length : Int) != (m.length : Int)) = true := by simp; omega
        have e2 : (l.length == m.length) = false := by simpa using hl
        rw [e1, e2]; rfl
    show (tr_u118q (N_u118q (k + 1)).1 (N_u118q (k + 1)).2 o n s (EX l) o' n' s' (EX m)).ev = _
    rw [tr_u118q, hEq, sameX]
    simp only [sm_some, gv_some]
    cases (o == o') <;> cases (n == n') <;> cases (s == s') <;> rfl
theorem f_u118q_val {e f : Ex} (he : Wd e) (hf : Wd f) : f_u118q e.op e.num e.txt (EX e.args) f.op f.num f.txt (EX f.args) = some (sameX e f) := limO_of (f_u118q_key e he f hf)
def FeW (x : Fe) : Prop := Wd x.when_ ∧ Wd x.amount
theorem f_u47q_val {x y : Fe} (hx : FeW x) (hy : FeW y) : f_u47q x.name x.event x.when_.op x.when_.num x.when_.txt (EX x.when_.args) x.amount.op x.amount.num x.amount.txt (EX x.amount.args) y.name y.event y.when_.op y.when_.num y.when_.txt (EX y.when_.args) y.amount.op y.amount.num y.amount.txt (EX y.amount.args) = some (sameFe x y) := by
  rw [f_u47q_eq, tr_u47q, f_u118q_val hx.1 hy.1, f_u118q_val hx.2 hy.2, sameFe]
  simp only [sm_some, gv_some]
  cases (x.name == y.name) <;> cases (x.event == y.event) <;> cases sameX x.when_ y.when_ <;> cases sameX x.amount y.amount <;> rfl
theorem f_u48q_val {x y : Ru} (hx : Wd x.amount) (hy : Wd y.amount) : f_u48q x.name x.window x.amount.op x.amount.num x.amount.txt (EX x.amount.args) y.name y.window y.amount.op y.amount.num y.amount.txt (EX y.amount.args) = some (sameRu x y) := by
  rw [f_u48q_eq, tr_u48q, f_u118q_val hx hy, sameRu]
  simp only [sm_some, gv_some]
  cases (x.name == y.name) <;> cases (x.window == y.window) <;> cases sameX x.amount y.amount <;> rfl
theorem f_EqFees_val {l m : List Fe} (hlen : l.length ≤ 1000000) (hl' : ∀ x ∈ l, FeW x) (hm' : ∀ x ∈ m, FeW x) : f_u5q (EF l) (EF m) = some (sameL sameFe l m) := by
  rw [f_u5q_eq, tr_u5q, sameL, List.length_map, List.length_map]
  by_cases hl : l.length = m.length
  · have e1 : ((l.length : Int) != (m.length : Int)) = false := by simp [hl]
    have e2 : (l.length == m.length) = true := by simp [hl]
    have hloop : ∃ w, l_u4q (EF m, EF l, (l.length : Int), 0) = some (bif (List.range l.length).any (difB sameFe l m) then 0 else 1, w) := by
      have h := loop_searchI (st := fun v => (st_u4q v).ev) (N := l.length) (hd := fun i => (EF m, EF l, (l.length : Int), (i : Int))) (jx := fun _ => 0) (difB sameFe l m) 1 (fun i hn => ?_) ?_
      · rw [seek_const] at h
        rw [l_u4q_eq]; exact ⟨_, h⟩
      · have hn' : i < m.length := by omega
        simp only [st_u4q, st_u4q_0, lt_at hn, okF hn, okF hn', qf0 hn, qf1 hn, qf2 hn, qf3 hn, qf4 hn, qf5 hn, qf6 hn, qf7 hn, qf8 hn, qf9 hn, qf0 hn', qf1 hn', qf2 hn', qf3 hn', qf4 hn', qf5 hn', qf6 hn', qf7 hn', qf8 hn', qf9 hn', f_u47q_val (hl' _ (List.getElem_mem hn)) (hm' _ (List.getElem_mem hn')), ev_bi_some, ev_br, ev_at, cond_true, wrap_succ hn (le_big hlen), difB, List.getElem?_eq_getElem hn, List.getElem?_eq_getElem hn']
        cases sameFe l[i] m[i] <;> rfl
      · simp [st_u4q, st_u4q_0]
    obtain ⟨w, h⟩ := hloop
    rw [e1, e2, h]
    cases (List.range l.length).any (difB sameFe l m) <;> simp (decide := true)
  · have e1 : ((l.length : Int) != (m.length : Int)) = true := by simp; omega
    have e2 : (l.length == m.length) = false := by simpa using hl
    rw [e1, e2]; rfl
theorem f_EqRules_val {l m : List Ru} (hlen : l.length ≤ 1000000) (hl' : ∀ x ∈ l, Wd x.amount) (hm' : ∀ x ∈ m, Wd x.amount) : f_u3q (ER l) (ER m) = some (sameL sameRu l m) := by
  rw [f_u3q_eq, tr_u3q, sameL, List.length_map, List.length_map]
  by_cases hl : l.length = m.length
  · have e1 : ((l.length : Int) != (m.length : Int)) = false := by simp [hl]
    have e2 : (l.length == m.length) = true := by simp [hl]
    have hloop : ∃ w, l_u1q (ER m, ER l, (l.length : Int), 0) = some (bif (List.range l.length).any (difB sameRu l m) then 0 else 1, w) := by
      have h := loop_searchI (st := fun v => (st_u1q v).ev) (N := l.length) (hd := fun i => (ER m, ER l, (l.length : Int), (i : Int))) (jx := fun _ => 0) (difB sameRu l m) 1 (fun i hn => ?_) ?_
      · rw [seek_const] at h
        rw [l_u1q_eq]; exact ⟨_, h⟩
      · have hn' : i < m.length := by omega
        simp only [st_u1q, st_u1q_0, lt_at hn, okR hn, okR hn', qr0 hn, qr1 hn, qr2 hn, qr3 hn, qr4 hn, qr5 hn, qr0 hn', qr1 hn', qr2 hn', qr3 hn', qr4 hn', qr5 hn', f_u48q_val (hl' _ (List.getElem_mem hn)) (hm' _ (List.getElem_mem hn')), ev_bi_some, ev_br, ev_at, cond_true, wrap_succ hn (le_big hlen), difB, List.getElem?_eq_getElem hn, List.getElem?_eq_getElem hn']
        cases sameRu l[i] m[i] <;> rfl
      · simp [st_u1q, st_u1q_0]
    obtain ⟨w, h⟩ := hloop
    rw [e1, e2, h]
    cases (List.range l.length).any (difB sameRu l m) <;> simp (decide := true)
  · have e1 : ((l.length : Int) != (m.length : Int)) = true := by simp; omega
    have e2 : (l.length == m.length) = false := by simpa using hl
    rw [e1, e2]; rfl
structure PrW (p : Pr) : Prop where
  crl : p.cr.tiers.length ≤ 1000000
  del : p.de.tiers.length ≤ 1000000
  fel : p.fees.length ≤ 1000000
  rul : p.rules.length ≤ 1000000
  fees : ∀ x ∈ p.fees, FeW x
  rules : ∀ x ∈ p.rules, Wd x.amount
theorem f_u75q_val {p q : Pr} (hp : PrW p) (hq : PrW q) : f_u75q p.name p.cur p.cal p.from_ p.every p.over p.tax (ETr p.cr.tiers) p.cr.marg p.cr.basis p.cr.mode p.cr.keep (ETr p.de.tiers) p.de.marg p.de.basis p.de.mode p.de.keep (EF p.fees) (ER p.rules)
    q.name q.cur q.cal q.from_ q.every q.over q.tax (ETr q.cr.tiers) q.cr.marg q.cr.basis q.cr.mode q.cr.keep (ETr q.de.tiers) q.de.marg q.de.basis q.de.mode q.de.keep (EF q.fees) (ER q.rules) = some (samePr p q) := by
  rw [f_u75q_eq, tr_u75q, f_u25q_val hp.crl hq.crl, f_u25q_val hp.del hq.del, f_EqFees_val hp.fel hp.fees hq.fees, f_EqRules_val hp.rul hp.rules hq.rules, samePr]
  generalize (p.name == q.name) = b1
  generalize (p.cur == q.cur) = b2
  generalize (p.cal == q.cal) = b3
  generalize (p.from_ != q.from_) = b4
  generalize (p.every != q.every) = b5
  generalize (p.over != q.over) = b6
  generalize (p.tax != q.tax) = b7
  generalize sameIn p.cr q.cr = b8
  generalize sameIn p.de q.de = b9
  generalize sameL sameFe p.fees q.fees = b10
  generalize sameL sameRu p.rules q.rules = b11
  have hz : ((((((!b1 || !b2) || !b3) || b4) || b5) || b6) || b7) = ((!b1) || ((!b2) || ((!b3) || (b4 || (b5 || (b6 || b7)))))) := by simp only [Bool.or_assoc]
  rw [← hz, br_or, ev_bi_some, br_or, ev_bi_some, br_or, ev_bi_some, br_or, ev_bi_some, br_or, ev_bi_some, br_or, ev_bi_some, ev_br]
  generalize ((((((!b1 || !b2) || !b3) || b4) || b5) || b6) || b7) = z
  cases z <;> cases b8 <;> cases b9 <;> cases b10 <;> cases b11 <;> rfl
def giroP : Pr := ⟨[103, 105, 114, 111], [69, 85, 82], [104, 111, 109, 101], 0, 1, 0, 0, ⟨[], false, 2, 6, false⟩, ⟨[], false, 2, 6, false⟩, [⟨[108, 111, 119], 1, .mk 12 0 [] [.mk 4 0 [98, 97, 108, 97, 110, 99, 101] [], .mk 2 100 [] []], .mk 2 5 [] []⟩], []⟩
def giroQ : Pr := ⟨[103, 105, 114, 111], [69, 85, 82], [104, 111, 109, 101], 0, 2, 0, 0, ⟨[], false, 2, 6, false⟩, ⟨[], false, 2, 6, false⟩, [⟨[108, 111, 119], 1, .mk 12 0 [] [.mk 4 0 [98, 97, 108, 97, 110, 99, 101] [], .mk 2 100 [] []], .mk 2 5 [] []⟩], []⟩
theorem giro_fee : FeOk ⟨[108, 111, 119], 1, .mk 12 0 [] [.mk 4 0 [98, 97, 108, 97, 110, 99, 101] [], .mk 2 100 [] []], .mk 2 5 [] []⟩ ∧ FeC ⟨[108, 111, 119], 1, .mk 12 0 [] [.mk 4 0 [98, 97, 108, 97, 110, 99, 101] [], .mk 2 100 [] []], .mk 2 5 [] []⟩ ∧ FeW ⟨[108, 111, 119], 1, .mk 12 0 [] [.mk 4 0 [98, 97, 108, 97, 110, 99, 101] [], .mk 2 100 [] []], .mk 2 5 [] []⟩ := by
  exact ⟨⟨by decide, by decide, by decide⟩, ⟨show Ex.allX _ _ = true by kernel_rfl, show Ex.allX _ _ = true by kernel_rfl⟩, ⟨show Ex.allX _ _ = true by kernel_rfl, show Ex.allX _ _ = true by kernel_rfl⟩⟩
theorem giroP_ok : PrOk giroP := ⟨by decide, by decide, by decide, by decide, by decide, fun x hx => by rw [List.mem_singleton.1 hx]; exact giro_fee.1, fun x hx => by cases hx⟩
theorem giroQ_ok : PrOk giroQ := ⟨by decide, by decide, by decide, by decide, by decide, fun x hx => by rw [List.mem_singleton.1 hx]; exact giro_fee.1, fun x hx => by cases hx⟩
theorem giroP_w : PrW giroP := ⟨by decide, by decide, by decide, by decide, fun x hx => by rw [List.mem_singleton.1 hx]; exact giro_fee.2.2, fun x hx => by cases hx⟩
theorem giroQ_w : PrW giroQ := ⟨by decide, by decide, by decide, by decide, fun x hx => by rw [List.mem_singleton.1 hx]; exact giro_fee.2.2, fun x hx => by cases hx⟩
theorem lives_val : f_u117q = some true := by
  have hg : f_u121q = some (giroP.name, giroP.cur, giroP.cal, giroP.from_, giroP.every, giroP.over, giroP.tax, ETr giroP.cr.tiers, giroP.cr.marg, giroP.cr.basis, giroP.cr.mode, giroP.cr.keep, ETr giroP.de.tiers, giroP.de.marg, giroP.de.basis, giroP.de.mode, giroP.de.keep, EF giroP.fees, ER giroP.rules) := by
    rw [f_u121q_eq, tr_u121q]; rfl
  have h1 := f_u63q_val (l := [⟨[69, 85, 82], 2⟩]) (c := [⟨[104, 111, 109, 101], [], []⟩]) giroP_ok (by decide) (by decide) (fun x hx => by rw [List.mem_singleton.1 hx]; exact ⟨by decide, by decide⟩)
  rw [show prS giroP [⟨[69, 85, 82], 2⟩] [⟨[104, 111, 109, 101], [], []⟩] = 0 by kernel_rfl] at h1
  have h2 := f_u63q_val (l := [⟨[69, 85, 82], 2⟩]) (c := [⟨[104, 111, 109, 101], [], []⟩]) giroQ_ok (by decide) (by decide) (fun x hx => by rw [List.mem_singleton.1 hx]; exact ⟨by decide, by decide⟩)
  rw [show prS giroQ [⟨[69, 85, 82], 2⟩] [⟨[104, 111, 109, 101], [], []⟩] = 1 by kernel_rfl] at h2
  have h3 := f_u74q_val giroP (by decide) (fun x hx => by rw [List.mem_singleton.1 hx]; exact giro_fee.2.1) (ETr giroP.cr.tiers) (ETr giroP.de.tiers) (ER giroP.rules) giroP.cr.marg giroP.de.marg giroP.cr.keep giroP.de.keep giroP.cr.basis giroP.de.basis giroP.cr.mode giroP.de.mode 1
  have h4 := f_u76q_val giroP (by decide) (by decide) (EF giroP.fees) (ER giroP.rules) (-1)
  have h5 := f_u75q_val giroP_w giroP_w
  rw [show samePr giroP giroP = true by kernel_rfl] at h5
  have h6 := f_u75q_val giroP_w giroQ_w
  rw [show samePr giroP giroQ = false by kernel_rfl] at h6
  have k2 : f_u63q giroP.name giroP.cur giroP.cal giroP.from_ 2 giroP.over giroP.tax (ETr giroP.cr.tiers) giroP.cr.marg giroP.cr.basis giroP.cr.mode giroP.cr.keep (ETr giroP.de.tiers) giroP.de.marg giroP.de.basis giroP.de.mode giroP.de.keep (EF giroP.fees) (ER giroP.rules) (EC [⟨[69, 85, 82], 2⟩]) (Tk.EK [⟨[104, 111, 109, 101], [], []⟩]) = some 1 := h2
  have k6 : f_u75q giroP.name giroP.cur giroP.cal giroP.from_ giroP.every giroP.over giroP.tax (ETr giroP.cr.tiers) giroP.cr.marg giroP.cr.basis giroP.cr.mode giroP.cr.keep (ETr giroP.de.tiers) giroP.de.marg giroP.de.basis giroP.de.mode giroP.de.keep (EF giroP.fees) (ER giroP.rules) giroP.name giroP.cur giroP.cal giroP.from_ 2 giroP.over giroP.tax (ETr giroP.cr.tiers) giroP.cr.marg giroP.cr.basis giroP.cr.mode giroP.cr.keep (ETr giroP.de.tiers) giroP.de.marg giroP.de.basis giroP.de.mode giroP.de.keep (EF giroP.fees) (ER giroP.rules) = some false := h6
  have g1 : [AV.agg [AV.str [69, 85, 82], AV.int IntKind.i64 2]] = EC [⟨[69, 85, 82], 2⟩] := rfl
  have g2 : [AV.agg [AV.str [104, 111, 109, 101], AV.view 1 [], AV.view 1 []]] = Tk.EK [⟨[104, 111, 109, 101], [], []⟩] := rfl
  rw [f_u117q_eq, tr_u117q, hg, f_u77q_val, g1, g2]
  rw [ev_bi_some, ev_bi_some]
  simp only [h1, k2, h3, h4, h5, k6, ev_bi_some, sm_some, gv_some]
  rfl
end Go.Proofs.H15e

/- Check; what is used; the first law. -/
import Derived.Test.YtpoebijgpbaccaaX1
set_option linter.unusedVariables false
set_option linter.unusedSimpArgs false
set_option linter.unnecessarySimpa false
namespace Go.Proofs.H53
open Go Go.Eng
set_option maxRecDepth 20000

/-- What is wrong with the n-th element: 0, 1, or nothing (9). -/
def wrongA (l : List Avl) (n : Nat) : Nat := match l[n]? with
  | none => 9
  | some x => bif decide (x.acc < 1000) || decide (x.amt < 0) || decide (x.used < 0) then 0 else match n with
    | 0 => 9
    | m + 1 => match l[m]? with
      | some y => bif decide (x.acc ≤ y.acc) then 1 else 9
      | none => 9
theorem l22_val {l : List Avl} (hl : l.length ≤ big) : l22_0 (EA l, EA l, (l.length : Int), 0) = some (seek (fun n => wrongA l n != 9) (wrongA l) 2 (List.range l.length), EA l, EA l, (l.length : Int), (((List.range l.length).findIdx (fun n => wrongA l n != 9) : Nat) : Int)) := by
  rw [l22_0_eq]
  refine loop_searchI (hd := fun n => (EA l, EA l, (l.length : Int), (n : Int))) (N := l.length) (jx := wrongA l) (fun n => wrongA l n != 9) 2 (fun n h => ?_) ?_
  · simp only [st22_0, st22_0_0, lt_at h, okA h, qa0 h, qa1 h, qa2 h, ev_br, ev_at, cond_true, wrap_succ h hl, br_eq, cond_some, ev_bi_some, wrongA, List.getElem?_eq_getElem h]
    cases decide (l[n].acc < 1000) <;> cases decide (l[n].amt < 0) <;> cases decide (l[n].used < 0) <;> try rfl
    cases n with
    | zero => rfl
    | succ m =>
      have h' : m < l.length := by omega
      rw [wrap_pred (by omega) (by omega)]
      simp only [Nat.add_sub_cancel, okA h', qa0 h', List.getElem?_eq_getElem h']
      cases decide (l[m + 1].acc ≤ l[m].acc) <;> simp <;> omega
  · simp [st22_0, st22_0_0]
theorem l100_val {l : List Avl} (hl : l.length ≤ big) (lm : Int) (Q : List AV) : l10_0 (0, lm, EA l, Q) = some (seek (fun n => wrongA l n != 9) (wrongA l) 2 (List.range l.length), (((List.range l.length).findIdx (fun n => wrongA l n != 9) : Nat) : Int), lm, EA l, Q) := by
  rw [l10_0_eq]
  refine loop_searchI (hd := fun n => ((n : Int), lm, EA l, Q)) (N := l.length) (jx := wrongA l) (fun n => wrongA l n != 9) 2 (fun n h => ?_) ?_
  · simp only [st10_0, st10_0_0, List.length_map, lt_at h, okA h, qa0 h, qa1 h, qa2 h, ev_br, ev_at, cond_true, wrap_succ h hl, br_eq, cond_some, ev_bi_some, wrongA, List.getElem?_eq_getElem h]
    cases decide (l[n].acc < 1000) <;> cases decide (l[n].amt < 0) <;> cases decide (l[n].used < 0) <;> try rfl
    cases n with
    | zero => rfl
    | succ m =>
      have h' : m < l.length := by omega
      rw [wrap_pred (by omega) (by omega)]
      simp only [Nat.add_sub_cancel, okA h', qa0 h', List.getElem?_eq_getElem h']
      cases decide (l[m + 1].acc ≤ l[m].acc) <;> simp <;> omega
  · simp [st10_0, st10_0_0]
theorem wrongA_cases (l : List Avl) (n : Nat) : wrongA l n = 0 ∨ wrongA l n = 1 ∨ wrongA l n = 9 := by
  unfold wrongA
  cases l[n]? with
  | none => simp
  | some x =>
    simp only
    cases (decide (x.acc < 1000) || decide (x.amt < 0) || decide (x.used < 0)) <;> simp
    cases n with
    | zero => simp
    | succ m =>
      simp only
      cases l[m]? with
      | none => simp
      | some g => by_cases hq : x.acc ≤ g.acc <;> simp [hq]
def eA (l : List Avl) : Nat := seek (fun n => wrongA l n != 9) (wrongA l) 2 (List.range l.length)
theorem eA_cases (l : List Avl) : eA l = 0 ∨ eA l = 1 ∨ eA l = 2 := by
  unfold eA seek
  split
  · rename_i x hx
    have := List.find?_some hx
    rcases wrongA_cases l x with h | h | h <;> simp [h] at this ⊢
  · simp
def codeA (k : Nat) : Int := match k with
  | 0 => 1
  | 1 => 10
  | _ => 0
theorem f22_val {l : List Avl} (hl : l.length ≤ big) : f22 (EA l) = some (codeA (eA l)) := by
  rw [f22_eq, tr22, List.length_map, l22_val hl]
  change (DT.bi (pj 0 (some (eA l, _))) _ (DT.bi (pj 1 (some (eA l, _))) _ (DT.bi (pj 2 (some (eA l, _))) _ _))).ev = _
  rcases eA_cases l with h | h | h <;> rw [h] <;> rfl

/-- What is wrong with the n-th transaction: 0, 1, 2, or nothing (9). -/
def wrongQ (a : List Avl) (q : List Wai) (n : Nat) : Nat := match q[n]? with
  | none => 9
  | some w => bif !shapedB w.amt w.key then 0 else bif !a.any (accB w.acc) then 1 else bif (q.take n).any (keyIs w.key) then 2 else 9
theorem take_map {q : List Wai} (n : Nat) : (EW q).take n = EW (q.take n) := by simp
theorem l23_val {a : List Avl} {q : List Wai} (ha : a.length ≤ big) (hq : okL q) (lm : Int) : l23_0 (EW q, (q.length : Int), 0, lm, EA a, EW q) = some (seek (fun n => wrongQ a q n != 9) (wrongQ a q) 3 (List.range q.length), EW q, (q.length : Int), (((List.range q.length).findIdx (fun n => wrongQ a q n != 9) : Nat) : Int), lm, EA a, EW q) := by
  rw [l23_0_eq]
  refine loop_searchI (hd := fun n => (EW q, (q.length : Int), (n : Int), lm, EA a, EW q)) (N := q.length) (jx := wrongQ a q) (fun n => wrongQ a q n != 9) 3 (fun n h => ?_) ?_
  · have hk : q[n].key.length ≤ big := hq.2 _ (List.getElem_mem h)
    have hle : (leB (n : Int) q.length && true) = true := by simp [leB]; omega
    simp only [st23_0, st23_0_0, List.length_map, lt_at h, okW h, qw0 h, qw1 h, qw2 h, ev_br, ev_at, cond_true, wrap_succ h hq.1, f29_val, f30_val hk, sm_some, gv_some, br_eq, cond_some, ev_bi_some, f28_val ha, idx_lt, hle, Int.toNat_natCast, take_map, f31_val (okL_take hq n).1, wrongQ, shapedB, List.getElem?_eq_getElem h, bne]
    cases (q[n].amt == 0) <;> cases amtB q[n].amt <;> cases keyB q[n].key <;> cases a.any (accB q[n].acc) <;> cases (q.take n).any (keyIs q[n].key) <;> rfl
  · simp [st23_0, st23_0_0]
theorem l101_val {a : List Avl} {q : List Wai} (ha : a.length ≤ big) (hq : okL q) (lm : Int) : l10_1 (0, lm, EA a, EW q) = some (seek (fun n => wrongQ a q n != 9) (wrongQ a q) 3 (List.range q.length), (((List.range q.length).findIdx (fun n => wrongQ a q n != 9) : Nat) : Int), lm, EA a, EW q) := by
  rw [l10_1_eq]
  refine loop_searchI (hd := fun n => ((n : Int), lm, EA a, EW q)) (N := q.length) (jx := wrongQ a q) (fun n => wrongQ a q n != 9) 3 (fun n h => ?_) ?_
  · have hk : q[n].key.length ≤ big := hq.2 _ (List.getElem_mem h)
    have hle : (leB (n : Int) q.length && true) = true := by simp [leB]; omega
    simp only [st10_1, st10_1_0, List.length_map, lt_at h, okW h, qw0 h, qw1 h, qw2 h, ev_br, ev_at, cond_true, wrap_succ h hq.1, f24_val hk, ev_bi_some, f25_val ha, idx_lt, hle, Int.toNat_natCast, take_map, f26_val (okL_take hq n).1, wrongQ, List.getElem?_eq_getElem h]
    cases shapedB q[n].amt q[n].key <;> cases a.any (accB q[n].acc) <;> cases (q.take n).any (keyIs q[n].key) <;> rfl
  · simp [st10_1, st10_1_0]
theorem wrongQ_cases (a : List Avl) (q : List Wai) (n : Nat) : wrongQ a q n = 0 ∨ wrongQ a q n = 1 ∨ wrongQ a q n = 2 ∨ wrongQ a q n = 9 := by
  unfold wrongQ
  cases q[n]? with
  | none => simp
  | some w => simp only; cases shapedB w.amt w.key <;> cases a.any (accB w.acc) <;> cases (q.take n).any (keyIs w.key) <;> simp
def eQ (a : List Avl) (q : List Wai) : Nat := seek (fun n => wrongQ a q n != 9) (wrongQ a q) 3 (List.range q.length)
theorem eQ_cases (a : List Avl) (q : List Wai) : eQ a q = 0 ∨ eQ a q = 1 ∨ eQ a q = 2 ∨ eQ a q = 3 := by
  unfold eQ seek
  split
  · rename_i x hx
    have := List.find?_some hx
    rcases wrongQ_cases a q x with h | h | h | h <;> simp [h] at this ⊢
  · simp
def codeQ (k : Nat) : Int := match k with
  | 0 => 1
  | 1 => 11
  | 2 => 12
  | _ => 0
theorem f23_val {a : List Avl} {q : List Wai} (ha : a.length ≤ big) (hq : okL q) (lm : Int) : f23 lm (EA a) (EW q) = some (codeQ (eQ a q)) := by
  rw [f23_eq, tr23, List.length_map, l23_val ha hq]
  change (DT.bi (pj 0 (some (eQ a q, _))) _ (DT.bi (pj 1 (some (eQ a q, _))) _ (DT.bi (pj 2 (some (eQ a q, _))) _ (DT.bi (pj 3 (some (eQ a q, _))) _ _)))).ev = _
  rcases eQ_cases a q with h | h | h | h <;> rw [h] <;> rfl
theorem eQ_ok {a : List Avl} {q : List Wai} (h : eQ a q = 3) : ∀ w ∈ q, amtB w.amt = true := by
  intro w hw
  obtain ⟨n, hn, rfl⟩ := List.mem_iff_getElem.1 hw
  have : ∀ x ∈ List.range q.length, (wrongQ a q x != 9) = false := by
    unfold eQ seek at h
    split at h
    · rename_i x hx
      have := List.find?_some hx
      rcases wrongQ_cases a q x with h' | h' | h' | h' <;> simp [h'] at this h
    · rename_i hx
      intro x hxm
      have := List.find?_eq_none.1 hx x hxm
      simpa using this
  have := this n (by simpa using hn)
  have h9 : wrongQ a q n = 9 := by simpa using this
  unfold wrongQ at h9
  rw [List.getElem?_eq_getElem hn] at h9
  cases hs : shapedB q[n].amt q[n].key
  · simp [hs] at h9
  · unfold shapedB at hs
    simp only [Bool.and_eq_true] at hs
    exact hs.2.1

/-- Withdrawals of an account. -/
def addR (id : Int) (s : Int) (w : Wai) : Int := bif w.acc == id && decide (w.amt < 0) then IntKind.i64.wrap (s - w.amt) else s
def addP (id : Int) (s : Int) (w : Wai) : Int := bif w.acc == id then IntKind.i64.wrap (s + if IntKind.i64.wrap (0 - w.amt) > 0 then IntKind.i64.wrap (0 - w.amt) else 0) else s
theorem wrap_idem (a : Int) : IntKind.i64.wrap (IntKind.i64.wrap a) = IntKind.i64.wrap a := by
  simp [IntKind.wrap, IntKind.signed, IntKind.bits]
  split <;> split <;> omega
theorem addPR {id s : Int} {w : Wai} (hs : IntKind.i64.wrap s = s) (hw : amtB w.amt = true) : addP id s w = addR id s w := by
  have ⟨h1, h2⟩ : -1000000000000 ≤ w.amt ∧ w.amt ≤ 1000000000000 := by simpa [amtB] using hw
  unfold addP addR
  cases (w.acc == id)
  · rfl
  · rw [wrap64 (n := 0 - w.amt) (by omega) (by omega)]
    by_cases h : w.amt < 0
    · have h3 : 0 - w.amt > 0 := by omega
      simp only [h, h3, if_true, decide_true, Bool.and_self, cond_true]
      congr 1; omega
    · have h3 : ¬ 0 - w.amt > 0 := by omega
      simp only [h, h3, if_false, decide_false, Bool.and_false, cond_true, cond_false, Int.add_zero, hs]
theorem addR_wrap {id s : Int} {w : Wai} (hs : IntKind.i64.wrap s = s) : IntKind.i64.wrap (addR id s w) = addR id s w := by
  unfold addR
  cases (w.acc == id && decide (w.amt < 0))
  · exact hs
  · exact wrap_idem _
theorem fold_PR {id : Int} : ∀ {q : List Wai} {s : Int}, IntKind.i64.wrap s = s → (∀ w ∈ q, amtB w.amt = true) → q.foldl (addP id) s = q.foldl (addR id) s
  | [], s, _, _ => rfl
  | w :: q, s, hs, hq => by
    rw [List.foldl_cons, List.foldl_cons, addPR hs (hq w (by simp))]
    exact fold_PR (addR_wrap hs) fun w hw => hq w (by simp [hw])
def drawn (q : List Wai) (id : Int) : Int := q.foldl (addR id) 0
theorem l27_val {q : List Wai} (hq : q.length ≤ big) (id s : Int) : l27_0 (EW q, id, s, 0) = some (0, EW q, id, q.foldl (addR id) s, (q.length : Int)) := by
  rw [l27_0_eq]
  refine loop_fold (st := fun v => (st27_0 v).ev) (l := q) (fun n s => (EW q, id, s, (n : Int))) (addR id) (fun _ => 0) (fun _ _ => True) trivial (fun _ _ _ _ => trivial) (fun n a h _ => ?_) (fun a _ => ?_)
  · simp only [st27_0, st27_0_0, List.length_map, lt_at h, okW h, qw0 h, qw1 h, qw2 h, ev_br, ev_at, cond_true, br_eq, cond_some, ev_bi_some, wrap_succ h hq, addR]
    cases (q[n].acc == id) <;> cases decide (q[n].amt < 0) <;> rfl
  · simp [st27_0, st27_0_0]
theorem f27_val {q : List Wai} (hq : q.length ≤ big) (id : Int) : f27 (EW q) id = some (drawn q id) := by
  rw [f27_eq, tr27, l27_val hq]; rfl
theorem l91_val {q : List Wai} (hq : q.length ≤ big) (s : Int) (X1 : List AV) (x2 x3 x7 : Int) (X8 X9 : List AV) (id am us : Int) : l9_1 (s, X1, x2, x3, EW q, (q.length : Int), 0, x7, X8, X9, id, am, us) = some (0, q.foldl (addP id) s, X1, x2, x3, EW q, (q.length : Int), (q.length : Int), x7, X8, X9, id, am, us) := by
  rw [l9_1_eq]
  refine loop_fold (st := fun v => (st9_1 v).ev) (l := q) (fun n s => (s, X1, x2, x3, EW q, (q.length : Int), (n : Int), x7, X8, X9, id, am, us)) (addP id) (fun _ => 0) (fun _ _ => True) trivial (fun _ _ _ _ => trivial) (fun n a h _ => ?_) (fun a _ => ?_)
  · simp only [st9_1, st9_1_0, lt_at h, okW h, qw0 h, qw1 h, qw2 h, ev_br, ev_at, cond_true, wrap_succ h hq, addP]
    cases (q[n].acc == id) <;> rfl
  · simp [st9_1, st9_1_0]
/-- Is what is used not what was withdrawn, or too much? -/
def corr (lm : Int) (q : List Wai) (x : Avl) : Bool := x.used != drawn q x.acc || decide (x.used > x.amt) || decide (x.used > lm)
theorem l90_val {a : List Avl} {q : List Wai} (ha : a.length ≤ big) (hq : q.length ≤ big) (hok : ∀ w ∈ q, amtB w.amt = true) (lm : Int) (L : List AV) : l9_0 (EA a, (a.length : Int), 0, lm, L, EW q) = some (seek (corr lm q) (fun _ => 0) 1 a, EA a, (a.length : Int), ((a.findIdx (corr lm q) : Nat) : Int), lm, L, EW q) := by
  rw [l9_0_eq]
  refine loop_search (hd := fun n => (EA a, (a.length : Int), (n : Int), lm, L, EW q)) (jx := fun _ => 0) (corr lm q) 1 (fun n h => ?_) ?_
  · have e : q.foldl (addP a[n].acc) 0 = drawn q a[n].acc := fold_PR (by decide) hok
    simp only [st9_0, st9_0_0, List.length_map, lt_at h, okA h, qa0 h, qa1 h, qa2 h, ev_br, ev_at, cond_true, wrap_succ h ha, br_eq, cond_some, l91_val hq, e, pj_some, if_true, ev_bi_some, corr]
    by_cases hu : a[n].used = drawn q a[n].acc
    · rw [← hu]
      cases decide (a[n].used > a[n].amt) <;> cases decide (a[n].used > lm) <;> simp
    · have : (a[n].used != drawn q a[n].acc) = true := by simpa using hu
      rw [this]; rfl
  · simp [st9_0, st9_0_0]
theorem l102_val {a : List Avl} {q : List Wai} (ha : a.length ≤ big) (hq : q.length ≤ big) (lm : Int) : l10_2 (0, lm, EA a, EW q) = some (seek (corr lm q) (fun _ => 0) 1 a, ((a.findIdx (corr lm q) : Nat) : Int), lm, EA a, EW q) := by
  rw [l10_2_eq]
  refine loop_search (hd := fun n => ((n : Int), lm, EA a, EW q)) (jx := fun _ => 0) (corr lm q) 1 (fun n h => ?_) ?_
  · simp only [st10_2, st10_2_0, List.length_map, lt_at h, okA h, qa0 h, qa1 h, qa2 h, ev_br, ev_at, cond_true, wrap_succ h ha, f27_val hq, ev_bi_some, corr]
    cases (a[n].used != drawn q a[n].acc) <;> cases decide (a[n].used > a[n].amt) <;> cases decide (a[n].used > lm) <;> rfl
  · simp [st10_2, st10_2_0]

/-- What Check says of a state. -/
def chk (lm : Int) (a : List Avl) (q : List Wai) : Int :=
  bif decide ((a.length : Int) > 64) || decide ((q.length : Int) > 64) then 5
  else bif decide (lm < 0) || decide (lm > 1000000000000) then 1
  else bif codeA (eA a) != 0 then codeA (eA a)
  else bif codeQ (eQ a q) != 0 then codeQ (eQ a q)
  else bif a.any (corr lm q) then 25 else 0
theorem f9_val {a : List Avl} {q : List Wai} (ha : a.length ≤ big) (hq : okL q) (lm : Int) : f9 lm (EA a) (EW q) = some (chk lm a q) := by
  rw [f9_eq, tr9]
  simp only [List.length_map, br_eq, cond_some, ev_bi_some, ev_br, ev_at, f22_val ha, f23_val ha hq]
  unfold chk
  cases hA : (decide ((a.length : Int) > 64)) <;> cases hB : (decide ((q.length : Int) > 64)) <;> try rfl
  cases (decide (lm < 0)) <;> cases (decide (lm > 1000000000000)) <;> try rfl
  cases (codeA (eA a) != 0)
  · cases h2 : (codeQ (eQ a q) != 0)
    · have h3 : eQ a q = 3 := by
        rcases eQ_cases a q with h | h | h | h <;> simp [h, codeQ] at h2 ⊢
      simp only [l90_val ha hq.1 (eQ_ok h3), seek_const]
      cases a.any (corr lm q) <;> rfl
    · rfl
  · rfl
theorem f10_val {a : List Avl} {q : List Wai} (ha : a.length ≤ big) (hq : okL q) (lm : Int) : f10 lm (EA a) (EW q) = some (chk lm a q) := by
  rw [f10_eq, tr10]
  simp only [List.length_map, br_eq, cond_some, ev_bi_some, ev_br, ev_at, l100_val ha]
  unfold chk
  cases hA : (decide ((a.length : Int) > 64)) <;> cases hB : (decide ((q.length : Int) > 64)) <;> try rfl
  cases (decide (lm < 0)) <;> cases (decide (lm > 1000000000000)) <;> try rfl
  change (bif false || false then _ else bif false || false then _ else (DT.bi (pj 0 (some (eA a, _))) _ (DT.bi (pj 1 (some (eA a, _))) _ (DT.bi (pj 2 (some (eA a, _))) _ _))).ev) = _
  rcases eA_cases a with h | h | h <;> rw [h] <;> try rfl
  simp only [Bool.or_self, cond_false, pj_some, ev_bi_none, ev_bi_some, if_true, show (2 : Nat) = 0 ↔ False by simp, show (2 : Nat) = 1 ↔ False by simp, if_false, l101_val ha hq]
  change (DT.bi (pj 0 (some (eQ a q, _))) _ (DT.bi (pj 1 (some (eQ a q, _))) _ (DT.bi (pj 2 (some (eQ a q, _))) _ (DT.bi (pj 3 (some (eQ a q, _))) _ _)))).ev = _
  rcases eQ_cases a q with h' | h' | h' | h' <;> rw [h'] <;> try rfl
  simp only [pj_some, ev_bi_none, ev_bi_some, if_true, show (3 : Nat) = 0 ↔ False by simp, show (3 : Nat) = 1 ↔ False by simp, show (3 : Nat) = 2 ↔ False by simp, if_false, l102_val ha hq.1, seek_const]
  cases a.any (corr lm q) <;> rfl

def usedS (a : List Avl) (id : Int) : Int := match a.find? (accB id) with
  | some x => x.used
  | none => 0
theorem find_idx {a : List Avl} {p : Avl → Bool} (h : a.findIdx p < a.length) : a.find? p = some a[a.findIdx p] := by
  rw [List.find?_eq_getElem?_findIdx, List.getElem?_eq_getElem h]
theorem f11_val {a : List Avl} (ha : a.length ≤ big) (lm : Int) (Q : List AV) (id : Int) : f11 lm (EA a) Q id = some (usedS a id) := by
  rw [f11_eq, tr11, f28_val ha]
  simp only [ev_bi_some, ev_br, ev_at, usedS, idx]
  by_cases h : a.findIdx (accB id) < a.length
  · rw [if_pos h, find_idx h]
    simp only [okA h, qa2 h, cond_true]
    rw [decide_eq_false (show ¬ ((a.findIdx (accB id) : Nat) : Int) < 0 by omega)]; rfl
  · have : a.find? (accB id) = none := by
      rw [List.findIdx_lt_length] at h
      exact List.find?_eq_none.2 fun x hx hp => h ⟨x, hx, hp⟩
    rw [if_neg h, this]; rfl
theorem f12_val {a : List Avl} (ha : a.length ≤ big) (lm : Int) (Q : List AV) (id : Int) : f12 lm (EA a) Q id = some (usedS a id) := by
  rw [f12_eq, tr12, f25_val ha]
  simp only [ev_bi_some, ev_br, ev_at, usedS, idx]
  by_cases h : a.findIdx (accB id) < a.length
  · rw [if_pos h, find_idx h]
    simp only [okA h, qa2 h, cond_true]
    rw [decide_eq_false (show ¬ ((a.findIdx (accB id) : Nat) : Int) < 0 by omega)]; rfl
  · have : a.find? (accB id) = none := by
      rw [List.findIdx_lt_length] at h
      exact List.find?_eq_none.2 fun x hx hp => h ⟨x, hx, hp⟩
    rw [if_neg h, this]; rfl
theorem f8_val : f8 = some true := by rw [f8_eq]; rfl
theorem f3_val {a : List Avl} {q : List Wai} (ha : a.length ≤ big) (hq : okL q) (lm id : Int) : f3 lm (EA a) (EW q) id = some true := by
  rw [f3_eq, tr3, f7_val hq.1, f8_val, f9_val ha hq, f10_val ha hq, f11_val ha, f12_val ha]
  simp only [ev_bi_some, ev_br, ev_at, beq_self_eq_true, cond_true]
  cases fewB a q <;> rfl

end Go.Proofs.H53

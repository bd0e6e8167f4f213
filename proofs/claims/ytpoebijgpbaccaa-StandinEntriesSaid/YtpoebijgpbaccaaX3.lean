/- Authorize; equality of states; the second law. -/
import Derived.Test.YtpoebijgpbaccaaX2
set_option linter.unusedVariables false
set_option linter.unusedSimpArgs false
set_option linter.unnecessarySimpa false
namespace Go.Proofs.H53
open Go Go.Eng
set_option maxRecDepth 20000

def a0 : Avl := ⟨0, 0, 0⟩
def w0 : Wai := ⟨0, 0, []⟩
def sameA (x y : Avl) : Bool := x.acc == y.acc && (x.amt == y.amt && (x.used == y.used && true))
def sameW (x y : Wai) : Bool := x.acc == y.acc && (x.amt == y.amt && (x.key == y.key && true))
theorem sameA_eq (a b : Avl) : sameA a b = decide (a = b) := by
  rw [Bool.eq_iff_iff]; cases a; cases b; simp [sameA]
theorem sameW_eq (a b : Wai) : sameW a b = decide (a = b) := by
  rw [Bool.eq_iff_iff]; cases a; cases b; simp [sameW]
def diffI {α : Type} (s : α → α → Bool) (d : α) (l m : List α) (n : Nat) : Bool := !s (l[n]?.getD d) (m[n]?.getD d)
theorem any_diff {α : Type} [DecidableEq α] {s : α → α → Bool} (hs : ∀ a b, s a b = decide (a = b)) (d : α) {l m : List α} (hlen : l.length = m.length) : (List.range l.length).any (diffI s d l m) = !decide (l = m) := by
  rw [Bool.eq_iff_iff]
  simp only [List.any_eq_true, List.mem_range, diffI, hs, Bool.not_eq_true', decide_eq_false_iff_not]
  constructor
  · rintro ⟨n, hn, hx⟩ rfl; exact hx rfl
  · intro hne
    apply Classical.byContradiction
    intro hall
    apply hne
    apply List.ext_getElem hlen
    intro n h1 h2
    apply Classical.byContradiction
    intro hx
    exact hall ⟨n, h1, by simpa [h1, h2] using hx⟩
theorem l150_val {a b : List Avl} (ha : a.length ≤ big) (hlen : a.length = b.length) (x y : Int) (Q R : List AV) : l15_0 (0, x, EA a, Q, y, EA b, R) = some (seek (diffI sameA a0 a b) (fun _ => 0) 1 (List.range a.length), (((List.range a.length).findIdx (diffI sameA a0 a b) : Nat) : Int), x, EA a, Q, y, EA b, R) := by
  rw [l15_0_eq]
  refine loop_searchI (hd := fun n => ((n : Int), x, EA a, Q, y, EA b, R)) (N := a.length) (jx := fun _ => 0) (diffI sameA a0 a b) 1 (fun n h => ?_) ?_
  · have h' : n < b.length := by omega
    simp only [st15_0, st15_0_0, List.length_map, lt_at h, okA h, okA h', qa0 h, qa1 h, qa2 h, qa0 h', qa1 h', qa2 h', ev_br, ev_at, cond_true, wrap_succ h ha, if_true, diffI, List.getElem?_eq_getElem h, List.getElem?_eq_getElem h', Option.getD_some]
    change (bif !(sameA a[n] b[n]) then _ else _) = _
    cases sameA a[n] b[n] <;> rfl
  · simp [st15_0, st15_0_0]
theorem l151_val {q r : List Wai} (hq : q.length ≤ big) (hlen : q.length = r.length) (x y : Int) (A B : List AV) : l15_1 (0, x, A, EW q, y, B, EW r) = some (seek (diffI sameW w0 q r) (fun _ => 0) 1 (List.range q.length), (((List.range q.length).findIdx (diffI sameW w0 q r) : Nat) : Int), x, A, EW q, y, B, EW r) := by
  rw [l15_1_eq]
  refine loop_searchI (hd := fun n => ((n : Int), x, A, EW q, y, B, EW r)) (N := q.length) (jx := fun _ => 0) (diffI sameW w0 q r) 1 (fun n h => ?_) ?_
  · have h' : n < r.length := by omega
    simp only [st15_1, st15_1_0, List.length_map, lt_at h, okW h, okW h', qw0 h, qw1 h, qw2 h, qw0 h', qw1 h', qw2 h', ev_br, ev_at, cond_true, wrap_succ h hq, if_true, diffI, List.getElem?_eq_getElem h, List.getElem?_eq_getElem h', Option.getD_some]
    change (bif !(sameW q[n] r[n]) then _ else _) = _
    cases sameW q[n] r[n] <;> rfl
  · simp [st15_1, st15_1_0]
theorem f15_val {a b : List Avl} {q r : List Wai} (ha : a.length ≤ big) (hq : q.length ≤ big) (x y : Int) : f15 x (EA a) (EW q) y (EA b) (EW r) = some (decide (x = y) && (decide (a = b) && decide (q = r))) := by
  rw [f15_eq, tr15]
  simp only [List.length_map, br_eq, cond_some, ev_bi_some, ev_br, ev_at]
  by_cases hx : x = y
  · have e1 : (x != y) = false := by simpa using hx
    by_cases h1 : a.length = b.length
    · have e2 : ((a.length : Int) != (b.length : Int)) = false := by simp [h1]
      by_cases h2 : q.length = r.length
      · have e3 : ((q.length : Int) != (r.length : Int)) = false := by simp [h2]
        rw [e1, e2, e3, decide_eq_true hx]
        simp only [cond_false, l150_val ha h1, seek_const, any_diff sameA_eq a0 h1]
        cases decide (a = b)
        · rfl
        · simp only [Bool.not_true, cond_false, pj_some, ev_bi_none, ev_bi_some, if_true, show (1 : Nat) = 0 ↔ False by simp, if_false, l151_val hq h2, seek_const, any_diff sameW_eq w0 h2]
          cases decide (q = r) <;> rfl
      · have e3 : ((q.length : Int) != (r.length : Int)) = true := by simp; omega
        have : decide (q = r) = false := decide_eq_false (fun h => h2 (by rw [h]))
        rw [e1, e2, e3, this]; simp
    · have e2 : ((a.length : Int) != (b.length : Int)) = true := by simp; omega
      have : decide (a = b) = false := decide_eq_false (fun h => h1 (by rw [h]))
      rw [e1, e2, this]; simp
  · have e1 : (x != y) = true := by simpa using hx
    rw [e1, decide_eq_false hx]; simp

theorem f32_val (w : Wai) (k : List UInt8) : f32 w.acc w.amt w.key k = some (keyIs k w) := by rw [f32_eq]; rfl
theorem l46a_val {q : List Wai} (hq : q.length ≤ big) (k : List UInt8) : l46a_0 (EW q, k, (q.length : Int), 0) = some (seek (keyIs k) (fun _ => 0) 1 q, EW q, k, (q.length : Int), ((q.findIdx (keyIs k) : Nat) : Int)) := by
  rw [l46a_0_eq]
  refine loop_search (hd := fun n => (EW q, k, (q.length : Int), (n : Int))) (jx := fun _ => 0) (keyIs k) 1 (fun n h => ?_) ?_
  · simp only [st46a_0, st46a_0_0, lt_at h, okW h, qw0 h, qw1 h, qw2 h, ev_br, ev_at, cond_true, f32_val, ev_bi_some, wrap_succ h hq]
    cases keyIs k q[n] <;> rfl
  · simp [st46a_0, st46a_0_0]
theorem f31a_val {q : List Wai} (hq : q.length ≤ big) (k : List UInt8) : f31a (EW q) k = some (q.any (keyIs k)) := by
  rw [f31a_eq, tr31a, f46a_eq, tr46a, List.length_map, l46a_val hq, seek_const]
  cases q.any (keyIs k)
  · rfl
  · simp

def setUsed (x : Avl) (u : Int) : Avl := { x with used := u }
/-- What Authorize gives. -/
def authS (lm : Int) (a : List Avl) (q : List Wai) (id amt : Int) (key : List UInt8) : Int × List Avl × List Wai × Int :=
  if chk lm a q ≠ 0 ∨ shapedB amt key = false then (0, [], [], 1)
  else if hi : a.findIdx (accB id) < a.length then
    if q.any (keyIs key) = true then (0, [], [], 12)
    else if 64 ≤ q.length then (0, [], [], 5)
    else if amt < 0 then
      if a[a.findIdx (accB id)].used - amt > a[a.findIdx (accB id)].amt ∨ a[a.findIdx (accB id)].used - amt > lm then (0, [], [], 18)
      else (lm, a.set (a.findIdx (accB id)) (setUsed a[a.findIdx (accB id)] (a[a.findIdx (accB id)].used - amt)), q ++ [⟨id, amt, key⟩], 0)
    else (lm, a, q ++ [⟨id, amt, key⟩], 0)
  else (0, [], [], 11)

theorem eA_ok {a : List Avl} (h : eA a = 2) : ∀ n < a.length, wrongA a n = 9 := by
  intro n hn
  have : ∀ x ∈ List.range a.length, (wrongA a x != 9) = false := by
    unfold eA seek at h
    split at h
    · rename_i x hx
      have := List.find?_some hx
      rcases wrongA_cases a x with h' | h' | h' <;> simp [h'] at this h
    · rename_i hx
      intro x hxm
      have := List.find?_eq_none.1 hx x hxm
      simpa using this
  simpa using this n (by simpa using hn)
/-- What Check's consent says. -/
theorem chk_ok {lm : Int} {a : List Avl} {q : List Wai} (h : chk lm a q = 0) : a.length ≤ 64 ∧ q.length ≤ 64 ∧ 0 ≤ lm ∧ lm ≤ 1000000000000 ∧ eA a = 2 ∧ eQ a q = 3 ∧ ∀ x ∈ a, corr lm q x = false := by
  unfold chk at h
  by_cases h1 : (a.length : Int) > 64
  · simp [h1] at h
  by_cases h2 : (q.length : Int) > 64
  · simp [h2] at h
  by_cases h3 : lm < 0
  · simp [h1, h2, h3] at h
  by_cases h4 : lm > 1000000000000
  · simp [h1, h2, h4] at h
  have e1 : (decide ((a.length : Int) > 64) || decide ((q.length : Int) > 64)) = false := by simp; omega
  have e2 : (decide (lm < 0) || decide (lm > 1000000000000)) = false := by simp; omega
  rw [e1, e2] at h
  simp only [cond_false] at h
  refine ⟨by omega, by omega, by omega, by omega, ?_⟩
  rcases eA_cases a with h5 | h5 | h5 <;> rw [h5] at h <;> try (simp [codeA] at h; done)
  rcases eQ_cases a q with h6 | h6 | h6 | h6 <;> rw [h6] at h <;> try (simp [codeA, codeQ] at h; done)
  refine ⟨h5, h6, ?_⟩
  have h7 : (bif a.any (corr lm q) then (25 : Int) else 0) = 0 := h
  cases h8 : a.any (corr lm q)
  · intro x hx
    have := List.any_eq_false.1 h8 x hx
    simpa using this
  · rw [h8] at h7; simp at h7
theorem used_ok {lm : Int} {a : List Avl} {q : List Wai} (h : chk lm a q = 0) {n : Nat} (hn : n < a.length) : 0 ≤ a[n].used ∧ a[n].used ≤ a[n].amt ∧ a[n].used ≤ lm ∧ a[n].used = drawn q a[n].acc ∧ 0 ≤ a[n].amt := by
  obtain ⟨_, _, _, _, h5, _, h7⟩ := chk_ok h
  have h8 := h7 a[n] (List.getElem_mem hn)
  have h9 := eA_ok h5 n hn
  unfold wrongA at h9
  rw [List.getElem?_eq_getElem hn] at h9
  cases hb : (decide (a[n].acc < 1000) || decide (a[n].amt < 0) || decide (a[n].used < 0))
  · simp only [Bool.or_eq_false_iff, decide_eq_false_iff_not] at hb
    simp only [corr, Bool.or_eq_false_iff, decide_eq_false_iff_not, bne_eq_false_iff_eq] at h8
    omega
  · simp [hb] at h9
theorem ew_app (q : List Wai) (id amt : Int) (key : List UInt8) : EW q ++ [AV.agg [AV.int IntKind.i64 id, AV.int IntKind.i64 amt, AV.str key]] = EW (q ++ [⟨id, amt, key⟩]) := by simp [Wai.av]
theorem shaped_or (amt : Int) (key : List UInt8) (b : Bool) : (bif (bif (bif (bif b then true else amt == 0) then true else !amtB amt) then true else !keyB key) then true else false) = (b || !shapedB amt key) := by
  unfold shapedB bne
  cases b <;> cases (amt == 0) <;> cases amtB amt <;> cases keyB key <;> rfl

theorem f14_val {a : List Avl} {q : List Wai} (ha : a.length ≤ big) (hq : okL q) (lm id amt : Int) {key : List UInt8} (hk : key.length ≤ big) :
    f14 lm (EA a) (EW q) id amt key = some ((authS lm a q id amt key).1, EA (authS lm a q id amt key).2.1, EW (authS lm a q id amt key).2.2.1, (authS lm a q id amt key).2.2.2) := by
  rw [f14_eq, tr14, f10_val ha hq, f24_val hk]
  unfold authS
  simp only [sm_some, gv_some, br_eq, cond_true, cond_some, ev_bi_some, ev_br, ev_at]
  by_cases hc : chk lm a q = 0
  · have e1 : (chk lm a q != 0) = false := by simpa using hc
    cases hs : shapedB amt key
    · rw [e1]; simp
    · rw [e1, if_neg (by simp [hc])]
      obtain ⟨k1, k2, k3, k4, _, _, _⟩ := chk_ok hc
      have hamt : -1000000000000 ≤ amt ∧ amt ≤ 1000000000000 := by
        unfold shapedB at hs
        simp only [Bool.and_eq_true] at hs
        simpa [amtB] using hs.2.1
      simp only [Bool.not_true, cond_false, f25_val ha, ev_bi_some, idx_lt, f26_val hq.1, ev_br, ev_at, any_idx (p := accB id)]
      by_cases hi : a.findIdx (accB id) < a.length
      · rw [dif_pos hi, decide_eq_true hi, show idx a id = ((a.findIdx (accB id) : Nat) : Int) from if_pos hi]
        generalize hgi : a.findIdx (accB id) = i at hi
        obtain ⟨u1, u2, u3, u4, u5⟩ := used_ok hc hi
        simp only [Bool.not_true, cond_false]
        cases q.any (keyIs key)
        · simp only [cond_false, Bool.false_eq_true, if_false]
          by_cases h64 : 64 ≤ q.length
          · have : decide (((EW q).length : Int) ≥ 64) = true := by simp; omega
            rw [this, if_pos h64]; rfl
          · have e64 : decide (((EW q).length : Int) ≥ 64) = false := by simp; omega
            rw [e64, if_neg h64]
            have d1 : decide (a.length = 0) = false := decide_eq_false (by omega)
            have d2 : decide (a.length ≠ 0) = true := decide_eq_true (by omega)
            have d3 : room a.length 24 = true := room_of (by simp only [lim]; omega)
            have d4 : room ((EW q).length + 1) 32 = true := by rw [List.length_map]; exact room_of (by simp only [lim]; omega)
            have d5 : room (EW q).length 32 = true := by rw [List.length_map]; exact room_of (by simp only [lim]; omega)
            have happ : ∀ (A : List AV), (bif decide ((EW q).length = 0) && decide (3 = 3) then some ((lm, A, [AV.agg [AV.int IntKind.i64 id, AV.int IntKind.i64 amt, AV.str key]], 0) : Int × List AV × List AV × Int)
                else bif decide ((EW q).length ≠ 0) && room (EW q).length 32 then bif room ((EW q).length + 1) 32 then some (lm, A, EW q ++ [AV.agg [AV.int IntKind.i64 id, AV.int IntKind.i64 amt, AV.str key]], 0) else none else none) = some (lm, A, EW (q ++ [⟨id, amt, key⟩]), 0) := by
              intro A
              rw [d4, d5, ew_app]
              cases q with
              | nil => rfl
              | cons w q => simp
            simp only [ev_br, ev_at, d1, d2, d3, Bool.false_and, Bool.and_self, cond_false, cond_true, ev_no, List.length_map, inB_at hi, Int.toNat_natCast]
            simp only [List.length_map] at happ
            by_cases hneg : amt < 0
            · rw [decide_eq_true hneg, if_pos hneg]
              have p1 : okP [CS.int IntKind.i64] (EA a) i 2 = true := by rw [okP_map hi]; rfl
              have p2 : Go.Eng.okS (EA a) i 2 1 = true := by rw [okS_map hi]; rfl
              have p3 : intOf (cellN (EA a) i 2) = a[i].used := by rw [cellN_map hi]; rfl
              have hw : IntKind.i64.wrap (a[i].used - amt) = a[i].used - amt := wrap64 (by omega) (by omega)
              have p4 : setE (EA a) i 2 [AV.int IntKind.i64 (a[i].used - amt)] = EA (a.set i (setUsed a[i] (a[i].used - amt))) := setE_map hi rfl
              have hi' : i < (a.set i (setUsed a[i] (a[i].used - amt))).length := by simpa using hi
              have p5 : okP [CS.int IntKind.i64] (EA (a.set i (setUsed a[i] (a[i].used - amt)))) i 2 = true := by rw [okP_map hi']; rfl
              have p6 : okP [CS.int IntKind.i64] (EA (a.set i (setUsed a[i] (a[i].used - amt)))) i 1 = true := by rw [okP_map hi']; rfl
              have p7 : intOf (cellN (EA (a.set i (setUsed a[i] (a[i].used - amt)))) i 2) = a[i].used - amt := by rw [cellN_map hi', List.getElem_set_self]; rfl
              have p8 : intOf (cellN (EA (a.set i (setUsed a[i] (a[i].used - amt)))) i 1) = a[i].amt := by rw [cellN_map hi', List.getElem_set_self]; rfl
              simp only [cond_true, p1, p2, p3, hw, p4, List.length_map, inB_at hi', p5, p6, p7, p8, happ]
              by_cases g1 : a[i].used - amt > a[i].amt
              · simp [g1]
              · by_cases g2 : a[i].used - amt > lm
                · simp [g1, g2]
                · rw [if_neg (by omega), decide_eq_false g1, decide_eq_false g2]; rfl
            · rw [decide_eq_false hneg, if_neg hneg]
              simp only [cond_false, happ]
        · simp
      · rw [dif_neg hi, decide_eq_false hi]; rfl
  · have e1 : (chk lm a q != 0) = true := by simpa using hc
    rw [e1, if_pos (.inl hc)]; rfl

end Go.Proofs.H53

/- Sums modulo 2^64, in plain lists. -/
import Derived.Test.YtggaijkihehlmaaG20
set_option linter.unusedVariables false
set_option linter.unusedSimpArgs false
set_option linter.unnecessarySimpa false
namespace Go.Proofs.H22
open Go Go.Eng
set_option maxRecDepth 20000

abbrev W (n : Int) : Int := IntKind.i64.wrap n

theorem W_eq (n : Int) : W n = (n + 9223372036854775808) % 18446744073709551616 - 9223372036854775808 := by
  simp only [W, IntKind.wrap, IntKind.signed, IntKind.bits]
  simp
  split <;> omega

theorem W_l (a b : Int) : W (W a + b) = W (a + b) := by rw [W_eq, W_eq, W_eq]; omega
theorem W_r (a b : Int) : W (a + W b) = W (a + b) := by rw [W_eq, W_eq, W_eq]; omega

def tot (l : List H) : Int := (l.map H.amt).sum

theorem tot_app (l m : List H) : tot (l ++ m) = tot l + tot m := by simp [tot]
theorem tot_cons (x : H) (l : List H) : tot (x :: l) = x.amt + tot l := by simp [tot]

theorem take_succ_gt {l : List H} {i : Nat} (hi : i < l.length) : l.take (i + 1) = l.take i ++ [gt l i] := by
  rw [gt_get hi, List.take_succ_eq_append_getElem hi]

theorem sumN_eq (l : List H) : ∀ i, i ≤ l.length → sumN l i = W (tot (l.take i))
  | 0, _ => by rw [W_eq]; simp [sumN, tot]
  | i + 1, hi => by
    simp only [sumN]
    rw [sumN_eq l i (by omega), take_succ_gt (by omega), tot_app]
    have := W_l (tot (l.take i)) (gt l i).amt
    simp only [W] at this ⊢
    rw [this]; simp [tot]

theorem sum_all (es : List AV) : sumN (es.map toH) es.length = W (tot (es.map toH)) := by
  have := sumN_eq (es.map toH) es.length (by simp)
  rw [this, List.take_of_length_le (by simp)]

theorem tot_erase (l : List H) (j : Nat) (hj : j < l.length) : tot (l.eraseIdx j) = tot l - (gt l j).amt := by
  have h1 : l = l.take j ++ gt l j :: l.drop (j + 1) := by
    rw [gt_get hj]; simp
  have h2 : tot l = tot (l.take j) + ((gt l j).amt + tot (l.drop (j + 1))) := by
    have := congrArg tot h1
    rw [tot_app, tot_cons] at this
    exact this
  rw [erase_eq, tot_app, h2]; omega

theorem tot_set (l : List H) (j : Nat) (hj : j < l.length) (y : H) : tot (l.set j y) = tot l - (gt l j).amt + y.amt := by
  have h1 : l = l.take j ++ gt l j :: l.drop (j + 1) := by
    rw [gt_get hj]; simp
  have h2 : tot l = tot (l.take j) + ((gt l j).amt + tot (l.drop (j + 1))) := by
    have := congrArg tot h1
    rw [tot_app, tot_cons] at this
    exact this
  rw [List.set_eq_take_append_cons_drop, if_pos hj, tot_app, tot_cons, h2]; omega

/-! What ends, what is left. -/
def endB (k : Int) (h : H) : Bool := decide (h.to < k)
theorem gsR_eq (l : List H) (k : Int) : ∀ i, i ≤ l.length → gsR l k i = ((l.take i).filter fun h => !endB k h).map H.av
  | 0, _ => by simp [gsR]
  | i + 1, hi => by
    simp only [gsR]
    rw [gsR_eq l k i (by omega), take_succ_gt (by omega), List.filter_append, List.map_append]
    by_cases h : (gt l i).to < k <;> simp [h, endB]
theorem fsR_eq (l : List H) (k : Int) : ∀ i, i ≤ l.length → fsR l k i = ((l.take i).filter (endB k)).map fun h => AV.int .i64 h.id
  | 0, _ => by simp [fsR]
  | i + 1, hi => by
    simp only [fsR]
    rw [fsR_eq l k i (by omega), take_succ_gt (by omega), List.filter_append, List.map_append]
    by_cases h : (gt l i).to < k <;> simp [h, endB]

theorem gsA_eq (es : List AV) (k : Int) : gsA es k = ((es.map toH).filter fun h => !endB k h).map H.av := by
  have := gsR_eq (es.map toH) k es.length (by simp)
  rw [List.take_of_length_le (by simp)] at this
  exact this
theorem fsA_eq (es : List AV) (k : Int) : fsA es k = ((es.map toH).filter (endB k)).map fun h => AV.int .i64 h.id := by
  have := fsR_eq (es.map toH) k es.length (by simp)
  rw [List.take_of_length_le (by simp)] at this
  exact this

theorem gs_map (es : List AV) (k : Int) : (gsA es k).map toH = (es.map toH).filter fun h => !endB k h := by
  rw [gsA_eq, map_toH]

theorem tot_split (l : List H) (p : H → Bool) : tot (l.filter fun h => !p h) + tot (l.filter p) = tot l := by
  induction l with
  | nil => rfl
  | cons x l ih =>
    cases h : p x
    · simp only [List.filter_cons, h, Bool.not_false, if_true, Bool.false_eq_true, if_false, tot_cons]; omega
    · simp only [List.filter_cons, h, Bool.not_true, if_true, Bool.false_eq_true, if_false, tot_cons]; omega

theorem vld_gs {es : List AV} (v : Vld (es.map toH)) (k : Int) : Vld ((gsA es k).map toH) := by
  rw [gs_map]; exact vld_sub v List.filter_sublist

theorem id_at (E : List H) {k : Nat} (hk : k < E.length) : idAt (E.map fun h => AV.int .i64 h.id) k = (gt E k).id := by
  simp [idAt, cellAt, atIdx, hk, gt, cellsA, intOf]

theorem ended_at {es : List AV} (v : Vld (es.map toH)) (he : es = (es.map toH).map H.av) (u : Int) {k : Nat} (hk : k < ((es.map toH).filter (endB u)).length) :
    inA (isId (idAt (fsA es u) k)) es = true ∧ hA es (ixA (isId (idAt (fsA es u) k)) es) = gt ((es.map toH).filter (endB u)) k ∧ (gt ((es.map toH).filter (endB u)) k).to < u := by
  have hm : gt ((es.map toH).filter (endB u)) k ∈ (es.map toH).filter (endB u) := gt_mem hk
  have hm2 := List.mem_filter.1 hm
  rw [fsA_eq, id_at _ hk]
  have h1 := find_mem v hm2.1
  rw [← he] at h1
  exact ⟨h1.1, h1.2, of_decide_eq_true hm2.2⟩

theorem fsA_len (es : List AV) (u : Int) : (fsA es u).length = ((es.map toH).filter (endB u)).length := by rw [fsA_eq]; simp

theorem okI_true {es : List AV} (v : Vld (es.map toH)) (he : es = (es.map toH).map H.av) (u : Int) : okI es (fsA es u) u (fsA es u).length = true := by
  simp only [okI, List.all_eq_true, List.mem_range, Bool.and_eq_true, decide_eq_true_eq]
  intro k hk
  rw [fsA_len] at hk
  obtain ⟨h1, h2, h3⟩ := ended_at v he u hk
  rw [h2]
  exact ⟨h1, h3⟩

theorem goN_eq {es : List AV} (v : Vld (es.map toH)) (he : es = (es.map toH).map H.av) (u go : Int) : ∀ k, k ≤ ((es.map toH).filter (endB u)).length → ∀ x, W (x + goN es (fsA es u) go k) = W (x + go + tot (((es.map toH).filter (endB u)).take k))
  | 0, _, x => by simp [goN, tot]
  | k + 1, hk, x => by
    obtain ⟨h1, h2, h3⟩ := ended_at v he u (show k < _ from hk)
    have ih := goN_eq v he u go k (by omega) (x + (gt ((es.map toH).filter (endB u)) k).amt)
    simp only [goN, h2]
    rw [show IntKind.i64.wrap (goN es (fsA es u) go k + (gt ((es.map toH).filter (endB u)) k).amt) = W (goN es (fsA es u) go k + (gt ((es.map toH).filter (endB u)) k).amt) from rfl, W_r]
    rw [take_succ_gt hk, tot_app]
    have e1 : x + (goN es (fsA es u) go k + (gt ((es.map toH).filter (endB u)) k).amt) = x + (gt ((es.map toH).filter (endB u)) k).amt + goN es (fsA es u) go k := by omega
    rw [e1, ih]
    congr 1
    simp [tot]; omega

/-- After Expire: the sum is kept. -/
theorem exp_sum {es : List AV} (v : Vld (es.map toH)) (he : es = (es.map toH).map H.av) (u go : Int) : W (tot ((gsA es u).map toH) + goN es (fsA es u) go (fsA es u).length) = W (tot (es.map toH) + go) := by
  rw [fsA_len, goN_eq v he u go _ (Nat.le_refl _), List.take_length, gs_map]
  have := tot_split (es.map toH) (endB u)
  congr 1
  omega

end Go.Proofs.H22

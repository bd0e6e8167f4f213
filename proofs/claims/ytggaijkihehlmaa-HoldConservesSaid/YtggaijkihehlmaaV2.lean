/- Valid lists of holds, in plain lists. -/
import Derived.Test.YtggaijkihehlmaaV1
set_option linter.unusedVariables false
set_option linter.unusedSimpArgs false
set_option linter.unnecessarySimpa false
namespace Go.Proofs.H22
open Go Go.Eng
set_option maxRecDepth 20000

def good (h : H) : Prop := oneB h.id h.acc h.amt h.frm h.to h.key = 0
structure Vld (l : List H) : Prop where
  len : l.length ≤ 64
  all : ∀ h ∈ l, good h
  ids : l.Pairwise fun a b => a.id < b.id
  keys : l.Pairwise fun a b => a.key ≠ b.key

theorem gt_get {l : List H} {i : Nat} (h : i < l.length) : gt l i = l[i] := by simp [gt, h]

theorem pw_iff {R : H → H → Prop} {l : List H} : l.Pairwise R ↔ ∀ i j, i < j → j < l.length → R (gt l i) (gt l j) := by
  rw [List.pairwise_iff_getElem]
  constructor
  · intro h i j hij hj
    rw [gt_get hj, gt_get (Nat.lt_trans hij hj)]
    exact h i j _ hj hij
  · intro h i j hi hj hij
    have := h i j hij hj
    rwa [gt_get hj, gt_get hi] at this

theorem ixA_map (p : H → Bool) (l : List H) : ixA p (l.map H.av) = l.findIdx p := by unfold ixA; rw [map_toH]
theorem inA_map (p : H → Bool) (l : List H) : inA p (l.map H.av) = decide (l.findIdx p < l.length) := by
  unfold inA
  exact decide_eq_decide.2 (by rw [ixA_map, List.length_map])
theorem hA_map (l : List H) (j : Nat) : hA (l.map H.av) j = gt l j := by unfold hA; rw [map_toH]

theorem dup_iff {l : List H} {i : Nat} (hi : i < l.length) : dupB l i = false ↔ ∀ j, j < i → (gt l j).key ≠ (gt l i).key := by
  have e : dupB l i = decide ((l.take i).findIdx (isKey (gt l i).key) < (l.take i).length) := by
    unfold dupB; rw [← List.map_take, inA_map]
  rw [e, decide_eq_false_iff_not]
  constructor
  · intro h j hj hk
    apply h
    rw [List.findIdx_lt_length]
    refine ⟨gt l j, ?_, by simp [isKey, hk]⟩
    rw [gt_get (by omega)]
    exact List.mem_take_iff_getElem.2 ⟨j, by omega, rfl⟩
  · intro h hlt
    rw [List.findIdx_lt_length] at hlt
    obtain ⟨x, hx, hk⟩ := hlt
    obtain ⟨j, hj, rfl⟩ := List.mem_take_iff_getElem.1 hx
    have hj2 : j < i := by omega
    have := h j hj2
    rw [gt_get (show j < l.length by omega)] at this
    simp only [isKey, beq_iff_eq] at hk
    exact this hk

theorem err_iff {l : List H} {i : Nat} (hi : i < l.length) : errAt l i = 0 ↔ good (gt l i) ∧ (0 < i → (gt l (i - 1)).id < (gt l i).id) ∧ ∀ j, j < i → (gt l j).key ≠ (gt l i).key := by
  rw [← dup_iff hi]
  have hg : good (gt l i) ↔ fieldsB (gt l i).id (gt l i).acc (gt l i).amt (gt l i).frm (gt l i).to = true ∧ keyB (gt l i).key = true := by
    simp only [good, oneB]
    cases fieldsB (gt l i).id (gt l i).acc (gt l i).amt (gt l i).frm (gt l i).to <;> cases keyB (gt l i).key <;> simp
  rw [hg]
  have ho : ordB l i = false ↔ (gt l (i - 1)).id < (gt l i).id := by
    simp only [ordB, decide_eq_false_iff_not]; omega
  rw [← ho]
  simp only [errAt]
  by_cases hp : 0 < i
  · simp only [hp, decide_true, br_true, true_imp_iff]
    cases fieldsB (gt l i).id (gt l i).acc (gt l i).amt (gt l i).frm (gt l i).to <;> cases keyB (gt l i).key <;> cases ordB l i <;> cases dupB l i <;> simp
  · simp only [hp, decide_false, br_false]
    cases fieldsB (gt l i).id (gt l i).acc (gt l i).amt (gt l i).frm (gt l i).to <;> cases keyB (gt l i).key <;> cases dupB l i <;> simp

theorem chk_iff (l : List H) : chkS l = 0 ↔ Vld l := by
  have h1 : chkS l = 0 ↔ l.length ≤ 64 ∧ ∀ i, i < l.length → errAt l i = 0 := by
    constructor
    · intro h
      refine ⟨by
        simp only [chkS] at h
        by_cases h1 : (l.length : Int) > 64
        · rw [decide_eq_true h1] at h; cases h
        · omega, ?_⟩
      intro i hi
      have h64 : ¬ (l.length : Int) > 64 := by
        intro h1; simp only [chkS, decide_eq_true h1, br_true] at h; cases h
      simp only [chkS, decide_eq_false h64, br_false] at h
      by_cases hf : firstErr l < l.length
      · rw [decide_eq_true hf, br_true] at h
        exact absurd h (fe_yes hf)
      · exact fe_no (by omega)
    · rintro ⟨h2, h3⟩
      have h64 : ¬ (l.length : Int) > 64 := by omega
      simp only [chkS, decide_eq_false h64, br_false]
      by_cases hf : firstErr l < l.length
      · exact absurd (h3 _ hf) (fe_yes hf)
      · rw [decide_eq_false hf, br_false]
  rw [h1]
  constructor
  · rintro ⟨h2, h3⟩
    have h4 := fun i hi => (err_iff hi).1 (h3 i hi)
    refine ⟨h2, ?_, ?_, ?_⟩
    · intro h hh
      obtain ⟨i, hi, rfl⟩ := List.mem_iff_getElem.1 hh
      have := (h4 i hi).1
      rwa [gt_get hi] at this
    · rw [pw_iff]
      intro i j hij hj
      induction j with
      | zero => omega
      | succ j ih =>
        have h5 := (h4 (j + 1) hj).2.1 (by omega)
        simp only [Nat.add_sub_cancel] at h5
        by_cases h6 : i = j
        · rw [h6]; exact h5
        · have := ih (by omega) (by omega)
          omega
    · rw [pw_iff]
      intro i j hij hj
      exact (h4 j hj).2.2 i hij
  · intro v
    refine ⟨v.len, fun i hi => (err_iff hi).2 ⟨?_, ?_, ?_⟩⟩
    · exact v.all _ (gt_mem hi)
    · intro hp
      exact pw_iff.1 v.ids (i - 1) i (by omega) hi
    · intro j hj
      exact pw_iff.1 v.keys j i hj hi

theorem vld_sub {l m : List H} (v : Vld l) (h : m.Sublist l) : Vld m :=
  ⟨Nat.le_trans h.length_le v.len, fun x hx => v.all x (h.subset hx), v.ids.sublist h, v.keys.sublist h⟩

/-- What is found by the Id of a member is the member. -/
theorem find_mem {l : List H} (v : Vld l) {x : H} (hx : x ∈ l) : inA (isId x.id) (l.map H.av) = true ∧ hA (l.map H.av) (ixA (isId x.id) (l.map H.av)) = x := by
  have h1 : l.findIdx (isId x.id) < l.length := by
    rw [List.findIdx_lt_length]; exact ⟨x, hx, by simp [isId]⟩
  rw [inA_map, ixA_map, hA_map]
  refine ⟨decide_eq_true h1, ?_⟩
  have h2 := findIdx_yes h1
  simp only [isId, beq_iff_eq] at h2
  obtain ⟨i, hi, rfl⟩ := List.mem_iff_getElem.1 hx
  have h3 := pw_iff.1 v.ids
  rw [← gt_get hi] at h2 h1 ⊢
  rcases Nat.lt_trichotomy (l.findIdx (isId (gt l i).id)) i with h | h | h
  · have := h3 _ _ h hi; omega
  · rw [h]
  · have := h3 _ _ h h1; omega

theorem others_of {l m : List H} (vm : Vld m) {t : Int} (h : ∀ x ∈ l, x.id ≠ t → x ∈ m) : othersB l (m.map H.av) t = true := by
  simp only [othersB, List.all_eq_true, List.mem_range]
  intro i hi
  simp only [sameB, Bool.or_eq_true, beq_iff_eq, Bool.and_eq_true, decide_eq_true_eq]
  by_cases ht : (gt l i).id = t
  · exact Or.inl ht
  · exact Or.inr (find_mem vm (h _ (gt_mem hi) ht))

end Go.Proofs.H22

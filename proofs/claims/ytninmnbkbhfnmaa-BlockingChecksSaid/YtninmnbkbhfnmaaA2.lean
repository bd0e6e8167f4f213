/- Names, fields: their summaries. -/
import Derived.Test.YtninmnbkbhfnmaaG2
set_option linter.unusedVariables false
set_option linter.unusedSimpArgs false
set_option linter.unnecessarySimpa false
namespace Go.Proofs.H23
open Go Go.Eng
set_option maxRecDepth 20000

theorem fst_lt {p : Nat → Bool} {n : Nat} : fst p n < n ↔ ∃ i, i < n ∧ p i = true := by
  constructor
  · intro h; exact ⟨_, h, fst_yes h⟩
  · rintro ⟨i, hi, hp⟩
    by_cases h : fst p n < n
    · exact h
    · have h1 := fst_le p n
      have : p i = false := fst_no (n := n) (by omega)
      rw [hp] at this; cases this

def nameB (s : List UInt8) : Bool := decide ((s.length : Int) ≥ 1) && decide ((s.length : Int) ≤ 16) && !decide (j26 s < s.length)

theorem lt_not (a b : Int) : decide (a < b) = !decide (a ≥ b) := by by_cases h : a < b <;> simp [h] <;> omega
theorem gt_not (a b : Int) : decide (a > b) = !decide (a ≤ b) := by by_cases h : a ≤ b <;> simp [h] <;> omega

theorem b26_zero (s : List UInt8) : b26 s 0 = !(decide (byteAt s 0 ≥ 97) && decide (byteAt s 0 ≤ 122)) := by
  have hz : (((0 : Nat) : Int) == 0) = true := rfl
  have h0 : ((0 : Nat) : Int) = 0 := rfl
  unfold b26 k26
  rw [hz, h0]
  cases decide (byteAt s 0 ≥ 97) <;> cases decide (byteAt s 0 ≤ 122) <;> rfl
theorem b26_pos (s : List UInt8) {i : Nat} (h : 0 < i) : b26 s i = b28 s i := by
  have hz : ((i : Int) == 0) = false := by
    have : ¬ (i : Int) = 0 := by omega
    simpa using this
  unfold b26 b28 k26 k28
  rw [hz, lt_not (byteAt s i) 97, gt_not (byteAt s i) 122]
  cases decide (byteAt s i ≥ 97) <;> cases decide (byteAt s i ≤ 122) <;> cases (byteAt s i != 95) <;> cases decide (byteAt s i < 48) <;> cases decide (byteAt s i > 57) <;> rfl
theorem b28_zero (s : List UInt8) (h : b28 s 0 = true) : (decide (byteAt s 0 ≥ 97) && decide (byteAt s 0 ≤ 122)) = false := by
  have h0 : ((0 : Nat) : Int) = 0 := rfl
  unfold b28 k28 at h
  rw [h0, lt_not (byteAt s 0) 97, gt_not (byteAt s 0) 122] at h
  revert h
  cases decide (byteAt s 0 ≥ 97) <;> cases decide (byteAt s 0 ≤ 122) <;> simp

theorem found26 (s : List UInt8) (h : 1 ≤ s.length) : decide (j26 s < s.length) = (!(decide (byteAt s 0 ≥ 97) && decide (byteAt s 0 ≤ 122)) || decide (j28 s < s.length)) := by
  rw [Bool.eq_iff_iff]
  simp only [Bool.or_eq_true, decide_eq_true_eq]
  unfold j26 j28
  rw [fst_lt, fst_lt, ← b26_zero]
  constructor
  · rintro ⟨i, hi, hb⟩
    by_cases h0 : i = 0
    · subst h0; exact Or.inl hb
    · exact Or.inr ⟨i, hi, by rw [← b26_pos s (by omega)]; exact hb⟩
  · rintro (hb | ⟨i, hi, hb⟩)
    · exact ⟨0, h, hb⟩
    · by_cases h0 : i = 0
      · subst h0
        exact ⟨0, h, by rw [b26_zero, b28_zero s hb]; rfl⟩
      · exact ⟨i, hi, by rw [b26_pos s (by omega)]; exact hb⟩

def sName (a : List AV) (h : Heap) : List (Bool × Res × Heap) := match a, h with
  | [.str s], [] => [(decide (s.length ≤ big), .ret (.bool (nameB s)), [])]
  | _, _ => []

theorem s26_ok : ∀ a h r h', (true, r, h') ∈ sName a h → callO IP 26 a h = some (r, h') := by
  intro a h r h' hm
  unfold sName at hm
  split at hm
  · rename_i s
    simp only [List.mem_cons, Prod.mk.injEq, List.not_mem_nil, or_false] at hm
    obtain ⟨hb, rfl, rfl⟩ := hm
    refine callO_by noS_ok (by kernel_rfl) L26_ok (n := 4) ((rd_f26_eq s).trans ?_)
    unfold rd_f26 nameB
    rw [← hb, decide_eq_true (rfl : (s.length : Int) = (s.length : Int))]
    by_cases hf : j26 s < s.length
    · have hk : k26 s (j26 s : Nat) ≠ 9 := by
        have := fst_yes hf
        simp only [b26, bne_iff_ne] at this
        exact this
      rw [decide_eq_true hf]
      rcases k26_cases s (j26 s : Nat) with h | h | h | h | h | h | h
      · rw [h]; simp [br]
      · rw [h]; simp [br]
      · rw [h]; simp [br]
      · rw [h]; simp [br]
      · rw [h]; simp [br]
      · rw [h]; simp [br]
      · exact absurd h hk
    · rw [decide_eq_false hf]
      cases decide ((s.length : Int) ≥ 1) <;> cases decide ((s.length : Int) ≤ 16) <;> rfl
  · cases hm

theorem s28_ok : ∀ a h r h', (true, r, h') ∈ sName a h → callO IP 28 a h = some (r, h') := by
  intro a h r h' hm
  unfold sName at hm
  split at hm
  · rename_i s
    simp only [List.mem_cons, Prod.mk.injEq, List.not_mem_nil, or_false] at hm
    obtain ⟨hb, rfl, rfl⟩ := hm
    refine callO_by noS_ok (by kernel_rfl) L28_ok (n := 4) ((rd_f28_eq s).trans ?_)
    unfold rd_f28 nameB
    rw [← hb, lt_not (s.length : Int) 1, gt_not (s.length : Int) 16, lt_not (byteAt s 0) 97, gt_not (byteAt s 0) 122]
    by_cases h1 : (s.length : Int) ≥ 1
    · have hin : inB s.length 0 = true := by
        simp only [inB, Bool.and_eq_true, decide_eq_true_eq]; omega
      rw [decide_eq_true h1, hin, found26 s (by omega)]
      by_cases hf : j28 s < s.length
      · have hk : k28 s (j28 s : Nat) ≠ 9 := by
          have := fst_yes hf
          simp only [b28, bne_iff_ne] at this
          exact this
        rw [decide_eq_true hf]
        rcases k28_cases s (j28 s : Nat) with h | h | h | h | h
        · rw [h]; cases decide ((s.length : Int) ≤ 16) <;> cases decide (byteAt s 0 ≥ 97) <;> cases decide (byteAt s 0 ≤ 122) <;> rfl
        · rw [h]; cases decide ((s.length : Int) ≤ 16) <;> cases decide (byteAt s 0 ≥ 97) <;> cases decide (byteAt s 0 ≤ 122) <;> rfl
        · rw [h]; cases decide ((s.length : Int) ≤ 16) <;> cases decide (byteAt s 0 ≥ 97) <;> cases decide (byteAt s 0 ≤ 122) <;> rfl
        · rw [h]; cases decide ((s.length : Int) ≤ 16) <;> cases decide (byteAt s 0 ≥ 97) <;> cases decide (byteAt s 0 ≤ 122) <;> rfl
        · exact absurd h hk
      · rw [decide_eq_false hf]
        cases decide ((s.length : Int) ≤ 16) <;> cases decide (byteAt s 0 ≥ 97) <;> cases decide (byteAt s 0 ≤ 122) <;> rfl
    · rw [decide_eq_false h1]; rfl
  · cases hm

def fieldsB (a b c d e f : Int) : Bool :=
  decide (a ≥ 1) && decide (b ≥ 1000) && decide (c ≥ 1) && decide (c ≤ 4) && decide (e ≥ 0) && decide (e ≤ 73048) && decide (f ≥ 0) && decide (f ≤ 73048) && decide (e ≤ f) &&
    br (c == 4) (decide (d ≥ 1) && decide (d ≤ 1000000000000)) (d == 0)
def sFields (a : List AV) (h : Heap) : List (Bool × Res × Heap) := match a, h with
  | [.agg [.int .i64 a, .int .i64 b, .int .i64 c, .int .i64 d, .int .i64 e, .int .i64 f, .str _]], [] => [(true, .ret (.bool (fieldsB a b c d e f)), [])]
  | _, _ => []
theorem bne_not (a b : Int) : (a != b) = !(a == b) := rfl
theorem s25_ok : ∀ a h r h', (true, r, h') ∈ sFields a h → callO IP 25 a h = some (r, h') := by
  intro a h r h' hm
  unfold sFields at hm
  split at hm
  · rename_i a b c d e f t
    simp only [List.mem_cons, Prod.mk.injEq, List.not_mem_nil, or_false] at hm
    obtain ⟨-, rfl, rfl⟩ := hm
    refine callO_by noS_ok (by kernel_rfl) (loops_none (by kernel_rfl)) (n := 4) ((rd_f25_eq a b c d e f t).trans ?_)
    have hef : decide (e > f) = !decide (e ≤ f) := gt_not e f
    simp only [rd_f25, fieldsB, lt_not a, lt_not b, lt_not c, gt_not c, hef, bne_not]
    cases decide (a ≥ 1) <;> try rfl
    cases decide (b ≥ 1000) <;> try rfl
    cases decide (c ≥ 1) <;> try rfl
    cases decide (c ≤ 4) <;> try rfl
    cases decide (e ≥ 0) <;> try rfl
    cases decide (e ≤ 73048) <;> try rfl
    cases decide (f ≥ 0) <;> try rfl
    cases decide (f ≤ 73048) <;> try rfl
    cases decide (e ≤ f) <;> try rfl
    cases (c == 4) <;> cases (d == 0) <;> cases decide (d ≥ 1) <;> cases decide (d ≤ 1000000000000) <;> rfl
  · cases hm
theorem s27_ok : ∀ a h r h', (true, r, h') ∈ sFields a h → callO IP 27 a h = some (r, h') := by
  intro a h r h' hm
  unfold sFields at hm
  split at hm
  · rename_i a b c d e f t
    simp only [List.mem_cons, Prod.mk.injEq, List.not_mem_nil, or_false] at hm
    obtain ⟨-, rfl, rfl⟩ := hm
    refine callO_by noS_ok (by kernel_rfl) (loops_none (by kernel_rfl)) (n := 4) ((rd_f27_eq a b c d e f t).trans ?_)
    simp only [rd_f27, fieldsB, lt_not a, lt_not b, lt_not c, gt_not c, lt_not d, gt_not d, bne_not]
    cases decide (a ≥ 1) <;> try rfl
    cases decide (b ≥ 1000) <;> try rfl
    cases decide (c ≥ 1) <;> try rfl
    cases decide (c ≤ 4) <;> try rfl
    cases decide (e ≥ 0) <;> cases decide (e ≤ 73048) <;> cases decide (f ≥ 0) <;> cases decide (f ≤ 73048) <;> cases decide (e ≤ f) <;> cases (c == 4) <;> cases (d == 0) <;> cases decide (d ≥ 1) <;> cases decide (d ≤ 1000000000000) <;> rfl
  · cases hm

def sA : Summ := addS 26 sName (addS 28 sName (addS 25 sFields (addS 27 sFields noS)))
theorem sA_ok : SummOk IP sA := addS_ok (addS_ok (addS_ok (addS_ok noS_ok s27_ok) s25_ok) s28_ok) s26_ok

end Go.Proofs.H23

/- Bounds of what is read, and of what is joined. -/
import Derived.Test.YtoeknkhpjdomhaaGreatDoorTkF
import Derived.Test.YtoeknkhpjdomhaaGreatDoorJnA
set_option linter.unusedVariables false
set_option linter.unusedSimpArgs false
set_option linter.unnecessarySimpa false
namespace Go.Tk
open Go Go.Eng
def InR (a b x : Int) : Prop := a ≤ x ∧ x ≤ b
theorem qyS : ∀ (k : Nat) (s : Bs) (line : Int), s.length ≤ k → (rdT s line).1.length ≤ s.length ∧ (∀ t ∈ (rdT s line).1, InR line (line + s.length) t.line) ∧ ((rdT s line).2.2 ≠ 0 → InR line (line + s.length) (rdT s line).2.1) := by
 intro k
 induction k with
 | zero =>
  intro s line h
  have : s = [] := List.length_eq_zero_iff.1 (by omega)
  subst this
  exact ⟨Nat.le_refl _, (fun t ht => nomatch ht), fun h => absurd rfl h⟩
 | succ k ih =>
  intro s line h
  rw [qb2]
  have hc : ((s.take (blk false s)).count 10) ≤ (s.take (blk false s)).length := List.count_le_length
  have hsum := congrArg List.length (List.take_append_drop (blk false s) s)
  rw [List.length_append] at hsum
  have h0 : 0 ≤ (((s.take (blk false s)).count 10 : Nat) : Int) := Int.natCast_nonneg _
  generalize ((s.take (blk false s)).count 10) = c10 at hc h0 ⊢
  cases hx : s.drop (blk false s) with
  | nil => exact ⟨Nat.zero_le _, (fun t ht => nomatch ht), fun h => absurd rfl h⟩
  | cons c r =>
   rw [hx] at hsum
   simp only [List.length_cons] at hsum
   simp only [stepT]
   cases he : ((qai (c :: r)).2.2 != 0)
   ·have he0 : (qai (c :: r)).2.2 = 0 := by simpa using he
    have hp := List.length_pos_iff.2 (qbn he0).1
    have hdl : ((c :: r).drop (qai (c :: r)).2.1.length).length + 1 ≤ r.length + 1 := by simp only [List.length_drop, List.length_cons]; omega
    obtain ⟨i1, i2, i3⟩ := ih ((c :: r).drop (qai (c :: r)).2.1.length) (line + (c10 : Int)) (by omega)
    simp only [cond_false, qgh]
    generalize rdT ((c :: r).drop (qai (c :: r)).2.1.length) (line + (c10 : Int)) = q at i1 i2 i3
    cases hz : (q.2.2 != 0)
    ·refine ⟨by simp only [cond_false, List.length_cons]; omega, fun t ht => ?_, fun hq => ?_⟩
     ·simp only [cond_false, List.mem_cons] at ht
      rcases ht with rfl | ht
      ·exact ⟨by show line ≤ line + (c10 : Int); omega, by show line + (c10 : Int) ≤ _; omega⟩
      ·have := i2 t ht
       exact ⟨by have := this.1; omega, by have := this.2; omega⟩
     ·rw [cond_false] at hq
      rw [bne_eq_false_iff_eq] at hz
      exact absurd hz hq
    ·refine ⟨by simp only [cond_true]; omega, fun t ht => ?_, fun hq => ?_⟩
     ·have := i2 t ht
      exact ⟨by have := this.1; omega, by have := this.2; omega⟩
     ·have := i3 hq
      exact ⟨by have := this.1; simp only [cond_true]; omega, by have := this.2; simp only [cond_true]; omega⟩
   ·exact ⟨Nat.zero_le _, (fun t ht => nomatch ht), fun _ => ⟨by show line ≤ line + (c10 : Int); omega, by show line + (c10 : Int) ≤ _; omega⟩⟩
theorem qsH : ∀ {l : List Tok} {i : Nat} {n : Int} {k : Nat}, okJ i n k l = true → k ≤ 2048 → k + (qia i n l).length ≤ 2048
 | [], _, _, _, _, hk => by simpa [qia] using hk
 | t :: l, i, n, k, h, hk => by
  simp only [okJ, Bool.and_eq_true, decide_eq_true_eq] at h
  have := qsH h.2.2 h.2.1
  simp only [qia, List.length_append]
  omega
theorem qf0 {s : Bs} (h : ¬ s.length ≤ 2048) : qa2 s = ([], 0, 5) := by
 unfold qa2
 rw [decide_eq_true (by omega)]; rfl
theorem qwN {V : Tok → Bool} : ∀ {l : List Tok} {n : Int}, qf3 V n l = true → ∀ t ∈ l, V t = true
 | [], _, _, t, ht => by cases ht
 | x :: l, n, h, t, ht => by
  simp only [qf3, Bool.and_eq_true, decide_eq_true_eq] at h
  rcases List.mem_cons.1 ht with rfl | ht
  ·exact h.1
  ·exact qwN h.2.2 t ht
end Go.Tk

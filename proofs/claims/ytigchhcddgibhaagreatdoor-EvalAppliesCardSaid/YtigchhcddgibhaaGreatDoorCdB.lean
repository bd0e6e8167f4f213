/- Laws of code over plain data: compiled code is valid; equal code comes from equal expressions; jumps that are not right. -/
import Derived.Test.YtigchhcddgibhaaGreatDoorCdA
set_option linter.unusedVariables false
set_option linter.unusedSimpArgs false
set_option linter.unnecessarySimpa false
namespace Go.Tk
open Go Go.Eng
set_option maxRecDepth 20000
theorem qcz {o n : Int} {s : Bs} {l : List Ex} (h : qax (.mk o n s l) = true) :
  ((o = 1 \/ o = 2 \/ o = 3) /\ l = [] /\ s = [] /\ 0 <= n /\ n <= qh7 o) \/ (o = 4 /\ l = [] /\ n = 0) \/ ((o = 9 \/ o = 16) /\ l.length = 1 /\ n = 0 /\ s = []) \/ (o = 19 /\ l.length = 3 /\ n = 0 /\ s = []) \/ ((5 <= o /\ o <= 18) /\ o ≠ 9 /\ o ≠ 16 /\ l.length = 2 /\ n = 0 /\ s = []) := by
 replace h : (qaN o == (l.length : Int) && (decide (n >= 0) && (decide (n <= qh7 o) && (s == [] || o == 4)))) = true := h
 simp only [Bool.and_eq_true, beq_iff_eq, decide_eq_true_eq, Bool.or_eq_true] at h
 obtain ⟨h1, h2, h3, h4⟩ := h
 by_cases c1 : o = 1 \/ o = 2 \/ o = 3
 ·left
  rw [qaN, if_pos (by omega)] at h1
  refine ⟨c1, List.length_eq_zero_iff.1 (by omega), ?_, by omega, h3⟩
  rcases h4 with h | h
  ·exact h
  ·omega
 by_cases c2 : o = 4
 ·right; left
  rw [qaN, if_pos (by omega)] at h1
  rw [qh7, if_neg (by omega), if_neg (by omega), if_neg (by omega)] at h3
  exact ⟨c2, List.length_eq_zero_iff.1 (by omega), by omega⟩
 have hs : s = [] := by
  rcases h4 with h | h
  ·exact h
  ·exact absurd h c2
 have hn : n = 0 := by
  rw [qh7, if_neg (by omega), if_neg (by omega), if_neg (by omega)] at h3
  omega
 right; right
 rw [qaN, if_neg (by omega)] at h1
 split at h1
 ·left; exact ⟨by assumption, by omega, hn, hs⟩
 ·split at h1
  ·right; left; exact ⟨by assumption, by omega, hn, hs⟩
  ·split at h1
   ·right; right
    rename_i k1 k2 k3
    exact ⟨by omega, by omega, by omega, by omega, hn, hs⟩
   ·omega
abbrev un : Sk := ⟨false, false, []⟩
abbrev ks (T : List Int) : Sk := ⟨true, false, T⟩
end Go.Tk

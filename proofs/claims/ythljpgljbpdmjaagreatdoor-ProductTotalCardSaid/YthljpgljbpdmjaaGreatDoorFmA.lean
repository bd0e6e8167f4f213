/- The forms of a formed expression. -/
import Derived.Test.YthljpgljbpdmjaaGreatDoorTyA
set_option linter.unusedVariables false
set_option linter.unusedSimpArgs false
set_option linter.unnecessarySimpa false
namespace Go.Tk
open Go Go.Eng
set_option maxRecDepth 20000
theorem qzV {o n:Int} {s:Bs} {l:List Ex} (h:qaF (.mk o n s l) = true) :
  ((o = 1 \/ o = 2 \/ o = 3) /\ l = [] /\ s = [] /\ 0 <= n /\ n <= qgc o) \/ (o = 4 /\ l = [] /\ n = 0) \/ ((o = 9 \/ o = 16) /\ l.length = 1 /\ n = 0 /\ s = []) \/ (o = 19 /\ l.length = 3 /\ n = 0 /\ s = []) \/ ((5 <= o /\ o <= 18) /\ o ≠ 9 /\ o ≠ 16 /\ l.length = 2 /\ n = 0 /\ s = []):=by
 replace h:(qaV o == (l.length:Int) && (decide (n >= 0) && (decide (n <= qgc o) && (s == [] || o == 4)))) = true:=h
 simp only [Bool.and_eq_true,beq_iff_eq,decide_eq_true_eq,Bool.or_eq_true] at h
 obtain ⟨h1,h2,h3,h4⟩:=h
 by_cases c1:o = 1 \/ o = 2 \/ o = 3
 ·left
  rw [qaV,if_pos (by omega)] at h1
  refine ⟨c1,List.length_eq_zero_iff.1 (by omega),?_,by omega,h3⟩
  rcases h4 with h | h
  ·exact h
  ·omega
 by_cases c2:o = 4
 ·right; left
  rw [qaV,if_pos (by omega)] at h1
  rw [qgc,if_neg (by omega),if_neg (by omega),if_neg (by omega)] at h3
  exact ⟨c2,List.length_eq_zero_iff.1 (by omega),by omega⟩
 have hs:s = []:=by
  rcases h4 with h | h
  ·exact h
  ·exact absurd h c2
 have hn:n = 0:=by
  rw [qgc,if_neg (by omega),if_neg (by omega),if_neg (by omega)] at h3
  omega
 right; right
 rw [qaV,if_neg (by omega)] at h1
 split at h1
 ·left; exact ⟨by assumption,by omega,hn,hs⟩
 ·split at h1
  ·right; left; exact ⟨by assumption,by omega,hn,hs⟩
  ·split at h1
   ·right; right
    rename_i k1 k2 k3
    exact ⟨by omega,by omega,by omega,by omega,hn,hs⟩
   ·omega
end Go.Tk

/- Values of expressions are numbers of the machine. -/
import Derived.Test.YtigchhcddgibhaaGreatDoorEvB
set_option linter.unusedVariables false
set_option linter.unusedSimpArgs false
set_option linter.unnecessarySimpa false
namespace Go.Tk
open Go Go.Eng
set_option maxRecDepth 20000
theorem qdF {n : Int} : qa6 n = true ↔ -9223372036854775808 <= n /\ n <= 9223372036854775807 := by
 unfold qa6; rw [Bool.and_eq_true, decide_eq_true_eq, decide_eq_true_eq]
theorem qzo {t w : Int} : qa6 (qrc t w).1.n = true := by
 unfold qrc
 cases h : (qa6 w && qbb ⟨t, w⟩)
 ·rfl
 ·simp only [Bool.and_eq_true] at h
  exact h.1
theorem q95 {b : Bool} : qa6 (bI b) = true := by cases b <;> rfl
theorem q6s {t : Int} {a b : Vl} : qa6 (qTN t a b).1.n = true := by
 unfold qTN
 repeat (split; first | rfl | exact qzo)
 exact qzo
theorem q6K {t : Int} {a b : Vl} : qa6 (qM4 t a b).1.n = true := by
 unfold qM4; split <;> exact qzo
theorem q8v {op t : Int} {a b : Vl} (hr : qa0 op [a.ty, b.ty] = (t, true)) (va : qbb a = true) (vb : qbb b = true) (ha : qa6 a.n = true) (hb : qa6 b.n = true) : qa6 (qmY op t a b).1.n = true := by
 rcases qeg (qd8 hr).2.2 with ⟨q1, q2, _⟩ | ⟨q1, _, _⟩ | ⟨q1, q2, q3, _⟩ | ⟨q1, _⟩
 ·have : op = 5 \/ op = 6 \/ op = 7 \/ op = 8 := by omega
  rcases this with rfl | rfl | rfl | rfl
  ·exact qzo
  ·exact qzo
  ·exact q6K
  ·exact q6s
 ·have : op = 10 \/ op = 11 \/ op = 12 \/ op = 13 := by omega
  rcases this with rfl | rfl | rfl | rfl <;> exact q95
 ·have k0 := (qbA q2).1 va
  have k1 := (qbA q3).1 vb
  rcases q1 with rfl | rfl
  ·show qa6 (a.n * b.n) = true
   rcases k0 with k0 | k0 <;> rcases k1 with k1 | k1 <;> rw [k0, k1] <;> rfl
  ·show qa6 (max a.n b.n) = true
   rcases k0 with k0 | k0 <;> rcases k1 with k1 | k1 <;> rw [k0, k1] <;> rfl
 ·rw [qdF] at ha hb
  rcases q1 with rfl | rfl
  ·show qa6 (min a.n b.n) = true
   rw [qdF]; omega
  ·show qa6 (max a.n b.n) = true
   rw [qdF]; omega
theorem qo3 {op : Int} {l : List Vl} (h : ∀ x ∈ l, qa6 x.n = true) : qa6 (qbc op l).1.n = true := by
 unfold qbc
 cases h1 : (qa0 op (l.map (·.ty))).2
 ·rfl
 cases h2 : l.all qbb
 ·rfl
 have hall := List.all_eq_true.1 h2
 have hr : qa0 op (l.map (·.ty)) = ((qa0 op (l.map (·.ty))).1, true) := by rw [<- h1]
 simp only [Bool.not_true, cond_false]
 generalize (qa0 op (l.map (·.ty))).1 = t at hr
 match l, h, hr, hall with
 | [], _, _, _ => rfl
 | [a], h, hr, hall =>
  rcases qoz (qnm hr).2 with ⟨rfl, ha, rfl⟩ | ⟨rfl, _⟩
  ·have k := (qbA ha).1 (hall a (by simp))
   show qa6 (1 - a.n) = true
   rcases k with k | k <;> rw [k] <;> rfl
  ·exact qzo
 | [a, b], h, hr, hall => exact q8v hr (hall a (by simp)) (hall b (by simp)) (h a (by simp)) (h b (by simp))
 | [a, b, c], h, hr, hall =>
  show qa6 (if a.n = 1 then b.n else c.n) = true
  split
  ·exact h b (by simp)
  ·exact h c (by simp)
 | a :: b :: c :: d :: l, _, _, _ => rfl
end Go.Tk

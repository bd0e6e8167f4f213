/- Evaluation: running code. -/
import Derived.Test.YtigchhcddgibhaaGreatDoorX13Evb
import Derived.Test.YtigchhcddgibhaaGreatDoorX13Cdb
set_option linter.unusedVariables false
set_option linter.unusedSimpArgs false
set_option linter.unnecessarySimpa false
namespace Go.Proofs.H13
open Go Go.Eng Go.Tk
set_option maxRecDepth 20000
theorem qaF {j n : Nat} (h : j <= n) : leB (j : Int) n = true := by unfold leB; rw [decide_eq_true (by omega), decide_eq_true (by omega)]; rfl
theorem qnh {j n : Nat} (h : j < n) : inB n (j : Int) = true := by unfold inB; rw [decide_eq_true (by omega), decide_eq_true (by omega)]; rfl
theorem qbq {es : List AV} {n : Nat} : qf2 es n = es.drop n := by cases n <;> rfl
end Go.Proofs.H13

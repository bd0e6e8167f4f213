/- Code: what the document's examination of code comes to. -/
import Derived.Test.YtigchhcddgibhaaGreatDoorX13Cdb
set_option linter.unusedVariables false
set_option linter.unusedSimpArgs false
set_option linter.unnecessarySimpa false
namespace Go.Proofs.H13
open Go Go.Eng Go.Tk
set_option maxRecDepth 20000
theorem qbq (l : List AV) (n : Nat) : qf2 l n = l.drop n := by cases n <;> rfl
end Go.Proofs.H13

/- Code: what the document's examination of code comes to. -/
import Derived.Test.YtlgbnjnkcoiceaaGreatDoorX12Cdb
set_option linter.unusedVariables false
set_option linter.unusedSimpArgs false
set_option linter.unnecessarySimpa false
namespace Go.Proofs.H12
open Go Go.Eng Go.Tk
set_option maxRecDepth 20000
theorem dropO_eq (l : List AV) (n : Nat) : dropO l n = l.drop n := by cases n <;> rfl
end Go.Proofs.H12

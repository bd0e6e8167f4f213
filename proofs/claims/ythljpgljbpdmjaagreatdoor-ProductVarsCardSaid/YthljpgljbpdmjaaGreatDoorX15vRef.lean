/- The document's expressions (names, Validate): what the printed functions come to. -/
import Derived.Test.YthljpgljbpdmjaaGreatDoorX15vExp
set_option linter.unusedVariables false
set_option linter.unusedSimpArgs false
set_option linter.unnecessarySimpa false
namespace Go.Proofs.H15v
open Go Go.Eng Go.Tk
set_option maxRecDepth 20000
def fOk (f : Nat) (acc : List Bs) : Prop := f ≤ 2 ∧ (f = 1 → acc = [])
end Go.Proofs.H15v

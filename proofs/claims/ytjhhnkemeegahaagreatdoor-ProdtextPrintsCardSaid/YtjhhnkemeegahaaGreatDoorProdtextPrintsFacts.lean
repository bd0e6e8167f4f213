/- What is computed of the program for a row. -/
import Derived.Test.YtjhhnkemeegahaaGreatDoorCards
import Derived.ProofKit
import Derived.OpenShut
import Derived.SevenTiedAt
import Derived.Stop.Joined
import Derived.KernelRfl
set_option linter.all false
namespace Go.Proofs.YtjhhnkemeegahaaGreatDoor
open Go Go.ChangeShapes Go.WideShapes Go.ChangeAt Go.RowKit
theorem zlN:joinedFacts Tryz.pinned.checked.prog 3 Tryz.f3 Rows.prodtextPrintsSpec Rows.prodtextPrintsRow=true:=by kernel_rfl
end Go.Proofs.YtjhhnkemeegahaaGreatDoor

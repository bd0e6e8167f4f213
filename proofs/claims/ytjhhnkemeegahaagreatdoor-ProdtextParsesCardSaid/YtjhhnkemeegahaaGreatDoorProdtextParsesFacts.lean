/- What is computed of the program for a row. -/
import Derived.Test.YtjhhnkemeegahaaGreatDoorCards
import Derived.ProofKit
import Derived.OpenShut
import Derived.SevenTiedAt
import Derived.Stop.Joined
import Derived.KernelRfl
set_option linter.all false
namespace Go.Proofs.YtjhhnkemeegahaaGreatDoor
open Go Go.ChangeShapes Go.WideShapes Go.ChangeAt Go.RowKit
theorem zjk:joinedFacts Tryz.pinned.checked.prog 4 Tryz.f4 Rows.prodtextParsesSpec Rows.prodtextParsesRow=true:=by kernel_rfl
end Go.Proofs.YtjhhnkemeegahaaGreatDoor

/- What is computed of the program for a row. Printed by a program of mine. -/
import Derived.Test.YtbieppilagmdjaaGreatDoorTopPrepaidFactsa
import Derived.ProofKit
import Derived.OpenShut
import Derived.SevenTiedAt
import Derived.Stop.Joined
import Derived.KernelRfl
set_option linter.unusedVariables false
set_option linter.unusedSimpArgs false
set_option linter.unnecessarySimpa false
namespace Go.Proofs.YtbieppilagmdjaaGreatDoor
open Go Go.ChangeShapes Go.WideShapes Go.ChangeAt Go.RowKit
set_option maxRecDepth 100000
theorem qgf {a b:Bool} (ha:a = true) (hb:b = true):(a && b) = true:=by subst ha; exact hb
theorem qSd:joinedFacts Tryz.pinned.checked.prog 3 Tryz.f3 Rows.topPrepaidSpec Rows.topPrepaidRow = true:=by
 unfold joinedFacts
 exact (qgf (qgf (qgf (qgf (qgf (qgf (qgf (qgf (qgf (qgf (qgf (qgf (qgf (qgf (qgf (qgf (qgf (qgf (qgf (qgf (qgf (qgf (qgf (qgf (qgf (qgf (qgf (qgf (qgf (qgf (qgf q40 q41) q42) q43) q44) q45) q46) q47) q48) qY6) qY7) qY8) qY9) qZa) qZb) qZc) qZd) qZe) qZf) qZg) qZh) qZi) qZj) qZk) qZl) qZm) qZn) qZo) qZp) qZq) qZr) qZs)
end Go.Proofs.YtbieppilagmdjaaGreatDoor

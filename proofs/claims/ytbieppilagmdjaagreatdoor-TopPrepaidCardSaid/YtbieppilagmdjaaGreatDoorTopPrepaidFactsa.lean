/- What is computed of the program for a row. Printed by a program of mine. -/
import Derived.Test.YtbieppilagmdjaaGreatDoorCards
import Derived.ProofKit
import Derived.OpenShut
import Derived.SevenTiedAt
import Derived.Stop.Joined
import Derived.KernelRfl
set_option linter.unusedVariables false
set_option linter.unusedSimpArgs false
set_option linter.unnecessarySimpa false
namespace Go.Proofs.YtbieppilagmdjaaGreatDoor
open Go Go.ChangeShapes Go.WideShapes Go.ChangeAt Go.RowKit
theorem q40:(Rows.topPrepaidRow.wf (OpenSpec.ofChange Rows.topPrepaidSpec)) = true:=by kernel_rfl
theorem q41:(laidOutB Tryz.pinned.checked.prog) = true:=by kernel_rfl
theorem q42:(mapsRowed Tryz.pinned.checked.prog) = true:=by kernel_rfl
theorem q43:(Tryz.f3.params.all (Tryz.pinned.checked.prog.readableRec ·)) = true:=by kernel_rfl
theorem q44:(namedTie Tryz.pinned.checked.prog Rows.topPrepaidRow.named Rows.topPrepaidSpec.vars) = true:=by kernel_rfl
theorem q45:((Rows.topPrepaidRow.stops == [])) = true:=by kernel_rfl
theorem q46:((Tryz.pinned.checked.prog.stops == [])) = true:=by kernel_rfl
theorem q47:((Rows.topPrepaidRow.knobs == [])) = true:=by kernel_rfl
theorem q48:((Tryz.pinned.checked.prog.stopKnobs == [])) = true:=by kernel_rfl
theorem qY6:((Rows.topPrepaidRow.inPlace == Tryz.pinned.checked.prog.inPlace 3)) = true:=by kernel_rfl
theorem qY7:((Rows.topPrepaidRow.unfollowed == Tryz.pinned.checked.prog.unfollowed 3)) = true:=by kernel_rfl
theorem qY8:((Rows.topPrepaidRow.recurses == Tryz.pinned.checked.prog.recurses 3)) = true:=by kernel_rfl
theorem qY9:((Rows.topPrepaidRow.named == Tryz.pinned.checked.prog.varsNamed 3)) = true:=by kernel_rfl
theorem qZa:((Rows.topPrepaidRow.maps == (Tryz.f3.params.toList ++ Rows.topPrepaidSpec.plain.varTypes Tryz.pinned.checked.prog).any (Tryz.pinned.checked.prog.mapsRec ·))) = true:=by kernel_rfl
theorem qZb:((Rows.topPrepaidRow.ifaces == (Tryz.f3.params.toList ++ Rows.topPrepaidSpec.plain.varTypes Tryz.pinned.checked.prog).any (Tryz.pinned.checked.prog.ifacesRec ·))) = true:=by kernel_rfl
theorem qZc:((Rows.topPrepaidRow.mapsOut == Tryz.pinned.checked.prog.mapsAmong Tryz.f3.resultTypes.toList)) = true:=by kernel_rfl
theorem qZd:((Rows.topPrepaidRow.loops == (Tryz.f3.params.toList ++ Rows.topPrepaidSpec.plain.varTypes Tryz.pinned.checked.prog).any (Tryz.pinned.checked.prog.loopsFrom ·))) = true:=by kernel_rfl
theorem qZe:((Rows.topPrepaidRow.wideKeys == (Tryz.f3.params.toList ++ Rows.topPrepaidSpec.plain.varTypes Tryz.pinned.checked.prog ++ Tryz.f3.resultTypes.toList).any (Tryz.pinned.checked.prog.wideKeysFrom ·))) = true:=by kernel_rfl
theorem qZf:(Rows.topPrepaidSpec.vars.all (Tryz.pinned.checked.prog.varReadable ·)) = true:=by kernel_rfl
theorem qZg:(Tryz.f3.resultTypes.all (fun t=>Tryz.pinned.checked.prog.readableRec t && decide (t < Tryz.pinned.checked.prog.types.size))) = true:=by kernel_rfl
theorem qZh:((Rows.topPrepaidRow.ifacesOut == Tryz.f3.resultTypes.toList.any (Tryz.pinned.checked.prog.ifacesRec ·))) = true:=by kernel_rfl
theorem qZi:((Rows.topPrepaidRow.loopsOut == Tryz.f3.resultTypes.toList.any (Tryz.pinned.checked.prog.loopsFrom ·))) = true:=by kernel_rfl
theorem qZj:((Rows.topPrepaidRow.plainKeys == Tryz.pinned.checked.prog.plainKeys)) = true:=by kernel_rfl
theorem qZk:(Rows.topPrepaidRow.shortTexts.isNone) = true:=by kernel_rfl
theorem qZl:(Tryz.pinned.checked.prog.stopsHeard) = true:=by kernel_rfl
theorem qZm:(Tryz.pinned.checked.prog.mayEnter) = true:=by kernel_rfl
theorem qZn:((Rows.topPrepaidRow.lifted == Tryz.pinned.checked.prog.liftsFinal)) = true:=by kernel_rfl
theorem qZo:((Tryz.pinned.checked.prog.make == some Rows.topPrepaidRow.make)) = true:=by kernel_rfl
theorem qZp:((Rows.topPrepaidRow.kinds == (if Rows.topPrepaidRow.domain.isEmpty then [] else Tryz.f3.params.toList.map fun t=>match Tryz.pinned.checked.prog.underlying t with | some (.int k)=>some k | _=>none))) = true:=by kernel_rfl
theorem qZq:((Rows.topPrepaidRow.pinned == Rows.topPrepaidRow.pinnedBy)) = true:=by kernel_rfl
theorem qZr:((Rows.topPrepaidRow.veiled == (Tryz.f3.params.toList ++ Rows.topPrepaidSpec.plain.varTypes Tryz.pinned.checked.prog ++ Tryz.f3.resultTypes.toList).any (Tryz.pinned.checked.prog.veiledRec ·))) = true:=by kernel_rfl
theorem qZs:(Rows.topPrepaidRow.veiledFits Tryz.pinned.checked.prog Tryz.f3.params.toList (Tryz.f3.params.toList ++ Rows.topPrepaidSpec.plain.varTypes Tryz.pinned.checked.prog ++ Tryz.f3.resultTypes.toList)) = true:=by kernel_rfl
end Go.Proofs.YtbieppilagmdjaaGreatDoor

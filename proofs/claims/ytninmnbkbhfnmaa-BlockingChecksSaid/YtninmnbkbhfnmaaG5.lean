/- BlockingChecks. Printed by a program of mine. -/
import Derived.Test.YtninmnbkbhfnmaaA4
set_option linter.unusedVariables false
set_option linter.unusedSimpArgs false
set_option linter.unnecessarySimpa false
namespace Go.Proofs.H23
open Go Go.Eng
set_option maxRecDepth 20000
def rd_f3 (es : List AV) : Option (Res × Heap) := br (Decidable.decide ((↑es.length : Int) > 100)) (Option.some (Res.ret (AV.bool Bool.true), [])) (br (Go.Proofs.H23.gd es) (br (!!Go.Proofs.H23.inA Go.Proofs.H23.isBig es) (Option.some (Res.ret (AV.bool Bool.true), [])) (br (Go.Proofs.H23.gd es) (br (Go.Proofs.H23.gd es) (br (Go.Proofs.H23.chkS es == Go.Proofs.H23.chkS es) (Option.some (Res.ret (AV.bool Bool.true), [])) (Option.some (Res.ret (AV.bool Bool.false), []))) Option.none) Option.none)) Option.none)
theorem rd_f3_eq (es : List AV) : BK sB noL 3 F3 [.view 7 es] = rd_f3 es := by kernel_rfl

def rd_f3n  : Option (Res × Heap) := Option.some (Res.ret (AV.bool Bool.true), [])
theorem rd_f3n_eq  : BK sB noL 3 F3 [.nils] = rd_f3n  := by kernel_rfl

end Go.Proofs.H23

/- others as a function. Printed by a program of mine. -/
import Derived.Test.YtggaijkihehlmaaV2
set_option linter.unusedVariables false
set_option linter.unusedSimpArgs false
set_option linter.unnecessarySimpa false
namespace Go.Proofs.H22
open Go Go.Eng
set_option maxRecDepth 20000
def rd_f20v (es fs : List AV) (t : Int) : Option (Res × Heap) := br (Go.Proofs.H22.gd es && Go.Proofs.H22.gd fs && Go.Proofs.H22.othersB (List.map Go.Proofs.H22.toH es) fs t) (Option.some (Res.ret (AV.bool Bool.true), [])) Option.none
theorem rd_f20v_eq (es fs : List AV) (t : Int) : BK sF (oneL 1002000 L20) 20 F20 [.view 6 es, .view 6 fs, .int .i64 t] = rd_f20v es fs t := by kernel_rfl

def rd_f20n (es : List AV) (t : Int) : Option (Res × Heap) := br (Go.Proofs.H22.gd es && Go.Proofs.H22.onlyB (List.map Go.Proofs.H22.toH es) t) (Option.some (Res.ret (AV.bool Bool.true), [])) Option.none
theorem rd_f20n_eq (es : List AV) (t : Int) : BK sF (oneL 1002000 L20) 20 F20 [.view 6 es, .nils, .int .i64 t] = rd_f20n es t := by kernel_rfl

end Go.Proofs.H22

/- HoldConserves as a function. Printed by a program of mine. -/
import Derived.Test.YtggaijkihehlmaaC4
set_option linter.unusedVariables false
set_option linter.unusedSimpArgs false
set_option linter.unnecessarySimpa false
namespace Go.Proofs.H22
open Go Go.Eng
set_option maxRecDepth 20000
def rd_f6vv (es us : List AV) : Option (Res × Heap) := br (Go.Proofs.H22.gd es) (br (Go.Proofs.H22.greatA es) (Option.some (Res.ret (AV.bool Bool.true), [])) (br (Go.Proofs.H22.gdA us) (br (!Go.Proofs.H22.shortA us) (Option.some (Res.ret (AV.bool Bool.true), [])) (br (Go.Proofs.H22.gd es) (br (Go.Proofs.H22.chkS (List.map Go.Proofs.H22.toH es) != 0) (Option.some (Res.ret (AV.bool Bool.true), [])) (br (Go.Proofs.H22.gd es) (br (Go.Proofs.H22.gd es && Go.Proofs.H22.chkS (List.map Go.Proofs.H22.toH es) == 0 && Go.Proofs.H22.gdA us && Go.Proofs.H22.W (Go.Proofs.H22.tot (List.map Go.Proofs.H22.toH es) + 0) == Go.Proofs.H22.sumN (List.map Go.Proofs.H22.toH es) es.length && Go.Proofs.H22.isVw (Go.Proofs.H22.zN (AV.view 6 es) (Go.Proofs.H22.sumN (List.map Go.Proofs.H22.toH es) es.length) 0 us).x) (Option.some (Res.ret (AV.bool Bool.true), [])) (br (Go.Proofs.H22.gd es && Go.Proofs.H22.chkS (List.map Go.Proofs.H22.toH es) == 0 && Go.Proofs.H22.gdA us && Go.Proofs.H22.W (Go.Proofs.H22.tot (List.map Go.Proofs.H22.toH es) + 0) == Go.Proofs.H22.sumN (List.map Go.Proofs.H22.toH es) es.length && !Go.Proofs.H22.isVw (Go.Proofs.H22.zN (AV.view 6 es) (Go.Proofs.H22.sumN (List.map Go.Proofs.H22.toH es) es.length) 0 us).x) (Option.some (Res.ret (AV.bool Bool.true), [])) Option.none)) Option.none)) Option.none)) Option.none)) Option.none
theorem rd_f6vv_eq (es us : List AV) : BK sH (oneL 1000600 L6) 6 F6 [.view 6 es, .view 10 us] = rd_f6vv es us := by kernel_rfl

def rd_f6nv (us : List AV) : Option (Res × Heap) := br (Go.Proofs.H22.gdA us) (br (!Go.Proofs.H22.shortA us) (Option.some (Res.ret (AV.bool Bool.true), [])) (br (Go.Proofs.H22.gdA us && Go.Proofs.H22.W (Go.Proofs.H22.tot [] + 0) == 0 && Go.Proofs.H22.isVw (Go.Proofs.H22.zN AV.nils 0 0 us).x) (Option.some (Res.ret (AV.bool Bool.true), [])) (br (Go.Proofs.H22.gdA us && Go.Proofs.H22.W (Go.Proofs.H22.tot [] + 0) == 0 && !Go.Proofs.H22.isVw (Go.Proofs.H22.zN AV.nils 0 0 us).x) (Option.some (Res.ret (AV.bool Bool.true), [])) Option.none))) Option.none
theorem rd_f6nv_eq (us : List AV) : BK sH (oneL 1000600 L6) 6 F6 [.nils, .view 10 us] = rd_f6nv us := by kernel_rfl

def rd_f6vn (es : List AV) : Option (Res × Heap) := br (Go.Proofs.H22.gd es) (br (Go.Proofs.H22.greatA es) (Option.some (Res.ret (AV.bool Bool.true), [])) (br (Go.Proofs.H22.gd es) (br (Go.Proofs.H22.chkS (List.map Go.Proofs.H22.toH es) != 0) (Option.some (Res.ret (AV.bool Bool.true), [])) (br (Go.Proofs.H22.gd es) (Option.some (Res.ret (AV.bool Bool.true), [])) Option.none)) Option.none)) Option.none
theorem rd_f6vn_eq (es : List AV) : BK sH (oneL 1000600 L6) 6 F6 [.view 6 es, .nils] = rd_f6vn es := by kernel_rfl

end Go.Proofs.H22

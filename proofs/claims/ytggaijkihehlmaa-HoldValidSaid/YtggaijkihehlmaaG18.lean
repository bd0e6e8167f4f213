/- HoldValid as a function. Printed by a program of mine. -/
import Derived.Test.YtggaijkihehlmaaV4
set_option linter.unusedVariables false
set_option linter.unusedSimpArgs false
set_option linter.unnecessarySimpa false
namespace Go.Proofs.H22
open Go Go.Eng
set_option maxRecDepth 20000
def rd_f5vv (es us : List AV) : Option (Res × Heap) := br (Go.Proofs.H22.gd es) (br (Go.Proofs.H22.greatA es) (Option.some (Res.ret (AV.bool Bool.true), [])) (br (Go.Proofs.H22.gdA us) (br (!Go.Proofs.H22.shortA us) (Option.some (Res.ret (AV.bool Bool.true), [])) (br (Go.Proofs.H22.gd es) (br (Go.Proofs.H22.chkS (List.map Go.Proofs.H22.toH es) != 0) (Option.some (Res.ret (AV.bool Bool.true), [])) (br (Go.Proofs.H22.gd es && Go.Proofs.H22.chkS (List.map Go.Proofs.H22.toH es) == 0 && Go.Proofs.H22.gdA us && Go.Proofs.H22.isVw (Go.Proofs.H22.xN5 (AV.view 6 es) us)) (Option.some (Res.ret (AV.bool Bool.true), [])) (br (Go.Proofs.H22.gd es && Go.Proofs.H22.chkS (List.map Go.Proofs.H22.toH es) == 0 && Go.Proofs.H22.gdA us && !Go.Proofs.H22.isVw (Go.Proofs.H22.xN5 (AV.view 6 es) us)) (Option.some (Res.ret (AV.bool Bool.true), [])) Option.none))) Option.none)) Option.none)) Option.none
theorem rd_f5vv_eq (es us : List AV) : BK sG (oneL 1000500 L5) 5 F5 [.view 6 es, .view 10 us] = rd_f5vv es us := by kernel_rfl

def rd_f5nv (us : List AV) : Option (Res × Heap) := br (Go.Proofs.H22.gdA us) (br (!Go.Proofs.H22.shortA us) (Option.some (Res.ret (AV.bool Bool.true), [])) (br (Go.Proofs.H22.gdA us && Go.Proofs.H22.isVw (Go.Proofs.H22.xN5 AV.nils us)) (Option.some (Res.ret (AV.bool Bool.true), [])) (br (Go.Proofs.H22.gdA us && !Go.Proofs.H22.isVw (Go.Proofs.H22.xN5 AV.nils us)) (Option.some (Res.ret (AV.bool Bool.true), [])) Option.none))) Option.none
theorem rd_f5nv_eq (us : List AV) : BK sG (oneL 1000500 L5) 5 F5 [.nils, .view 10 us] = rd_f5nv us := by kernel_rfl

def rd_f5vn (es : List AV) : Option (Res × Heap) := br (Go.Proofs.H22.gd es) (br (Go.Proofs.H22.greatA es) (Option.some (Res.ret (AV.bool Bool.true), [])) (br (Go.Proofs.H22.gd es) (br (Go.Proofs.H22.chkS (List.map Go.Proofs.H22.toH es) != 0) (Option.some (Res.ret (AV.bool Bool.true), [])) (Option.some (Res.ret (AV.bool Bool.true), []))) Option.none)) Option.none
theorem rd_f5vn_eq (es : List AV) : BK sG (oneL 1000500 L5) 5 F5 [.view 6 es, .nils] = rd_f5vn es := by kernel_rfl

end Go.Proofs.H22

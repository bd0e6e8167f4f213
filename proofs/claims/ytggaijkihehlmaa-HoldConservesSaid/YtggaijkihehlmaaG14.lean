/- HoldActs as a function: decision trees. Printed by a program of mine. -/
import Derived.Test.YtggaijkihehlmaaF18
set_option linter.unusedVariables false
set_option linter.unusedSimpArgs false
set_option linter.unnecessarySimpa false
namespace Go.Proofs.H22
open Go Go.Eng
set_option maxRecDepth 20000
def rd_f4vv (es us : List AV) : Option (Res × Heap) := br (Go.Proofs.H22.gd es) (br (Go.Proofs.H22.greatA es) (Option.some (Res.ret (AV.bool Bool.true), [])) (br (Go.Proofs.H22.gdA us) (br (!Go.Proofs.H22.shortA us) (Option.some (Res.ret (AV.bool Bool.true), [])) (br (Go.Proofs.H22.gd es && Decidable.decide (es.length ≤ 100) && Go.Proofs.H22.gdA us && Go.Proofs.H22.isVw (Go.Proofs.H22.xN (AV.view 6 es) us)) (Option.some (Res.ret (AV.bool Bool.true), [])) (br (Go.Proofs.H22.gd es && Decidable.decide (es.length ≤ 100) && Go.Proofs.H22.gdA us && !Go.Proofs.H22.isVw (Go.Proofs.H22.xN (AV.view 6 es) us)) (Option.some (Res.ret (AV.bool Bool.true), [])) Option.none))) Option.none)) Option.none
theorem rd_f4vv_eq (es us : List AV) : BK sF (oneL 1000400 L4) 4 F4 [.view 6 es, .view 10 us] = rd_f4vv es us := by kernel_rfl

def rd_f4nv (us : List AV) : Option (Res × Heap) := br (Go.Proofs.H22.gdA us) (br (!Go.Proofs.H22.shortA us) (Option.some (Res.ret (AV.bool Bool.true), [])) (br (Go.Proofs.H22.gdA us && Go.Proofs.H22.isVw (Go.Proofs.H22.xN AV.nils us)) (Option.some (Res.ret (AV.bool Bool.true), [])) (br (Go.Proofs.H22.gdA us && !Go.Proofs.H22.isVw (Go.Proofs.H22.xN AV.nils us)) (Option.some (Res.ret (AV.bool Bool.true), [])) Option.none))) Option.none
theorem rd_f4nv_eq (us : List AV) : BK sF (oneL 1000400 L4) 4 F4 [.nils, .view 10 us] = rd_f4nv us := by kernel_rfl

def rd_f4vn (es : List AV) : Option (Res × Heap) := br (Go.Proofs.H22.gd es) (br (Go.Proofs.H22.greatA es) (Option.some (Res.ret (AV.bool Bool.true), [])) (Option.some (Res.ret (AV.bool Bool.true), []))) Option.none
theorem rd_f4vn_eq (es : List AV) : BK sF (oneL 1000400 L4) 4 F4 [.view 6 es, .nils] = rd_f4vn es := by kernel_rfl

end Go.Proofs.H22

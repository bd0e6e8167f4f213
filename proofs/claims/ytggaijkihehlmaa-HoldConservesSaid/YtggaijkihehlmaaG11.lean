/- SameAll, SameInts, short: decision trees. Printed by a program of mine. -/
import Derived.Test.YtggaijkihehlmaaF14
set_option linter.unusedVariables false
set_option linter.unusedSimpArgs false
set_option linter.unnecessarySimpa false
namespace Go.Proofs.H22
open Go Go.Eng
set_option maxRecDepth 20000
def rd_f33 (es fs : List AV) : Option (Res × Heap) := br ((↑es.length : Int) != (↑fs.length : Int)) (Option.some (Res.ret (AV.bool Bool.false), [])) (br (Go.Proofs.H22.gd es && Go.Proofs.H22.gd fs && Decidable.decide (List.map Go.Proofs.H22.toH es = List.map Go.Proofs.H22.toH fs)) (Option.some (Res.ret (AV.bool Bool.true), [])) Option.none)
theorem rd_f33_eq (es fs : List AV) : BK noS (oneL 1003300 L33) 33 F33 [.view 6 es, .view 6 fs] = rd_f33 es fs := by kernel_rfl

def rd_f37 (es fs : List AV) : Option (Res × Heap) := br ((↑es.length : Int) != (↑fs.length : Int)) (Option.some (Res.ret (AV.bool Bool.false), [])) (br (Go.Proofs.H22.gdI es && Go.Proofs.H22.gdI fs && Decidable.decide (List.map Go.Proofs.H22.toI es = List.map Go.Proofs.H22.toI fs)) (Option.some (Res.ret (AV.bool Bool.true), [])) Option.none)
theorem rd_f37_eq (es fs : List AV) : BK noS (oneL 1003700 L37) 37 F37 [.view 1 es, .view 1 fs] = rd_f37 es fs := by kernel_rfl

end Go.Proofs.H22

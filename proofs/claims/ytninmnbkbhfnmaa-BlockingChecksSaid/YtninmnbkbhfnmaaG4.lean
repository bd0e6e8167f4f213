/- Check, short as functions. Printed by a program of mine. -/
import Derived.Test.YtninmnbkbhfnmaaA3
set_option linter.unusedVariables false
set_option linter.unusedSimpArgs false
set_option linter.unnecessarySimpa false
namespace Go.Proofs.H23
open Go Go.Eng
set_option maxRecDepth 20000
def rd_f10 (es : List AV) : Option (Res × Heap) := br (Decidable.decide ((↑es.length : Int) > 64)) (Option.some (Res.ret (AV.int IntKind.i64 5), [])) (br (Go.Proofs.H23.gd es && Go.Proofs.H23.gd es && Decidable.decide (List.map Go.Proofs.H23.toH es = List.map Go.Proofs.H23.toH es) && Decidable.decide ((↑es.length : Int) = (↑es.length : Int)) && Go.Proofs.H23.aC es == 9) (Option.some (Res.ret (AV.int IntKind.i64 0), [])) (br (Go.Proofs.H23.gd es && Go.Proofs.H23.gd es && Decidable.decide (List.map Go.Proofs.H23.toH es = List.map Go.Proofs.H23.toH es) && Decidable.decide ((↑es.length : Int) = (↑es.length : Int)) && Go.Proofs.H23.aC es == 0) (Option.some (Res.ret (AV.int IntKind.i64 1), [])) (br (Go.Proofs.H23.gd es && Go.Proofs.H23.gd es && Decidable.decide (List.map Go.Proofs.H23.toH es = List.map Go.Proofs.H23.toH es) && Decidable.decide ((↑es.length : Int) = (↑es.length : Int)) && Go.Proofs.H23.aC es == 1) (Option.some (Res.ret (AV.int IntKind.i64 4), [])) (br (Go.Proofs.H23.gd es && Go.Proofs.H23.gd es && Decidable.decide (List.map Go.Proofs.H23.toH es = List.map Go.Proofs.H23.toH es) && Decidable.decide ((↑es.length : Int) = (↑es.length : Int)) && Go.Proofs.H23.aC es == 2) (Option.some (Res.ret (AV.int IntKind.i64 10), [])) Option.none))))
theorem rd_f10_eq (es : List AV) : BK sA (oneL 1001000 L10) 10 F10 [.view 7 es] = rd_f10 es := by kernel_rfl

def rd_f11 (es : List AV) : Option (Res × Heap) := br (Decidable.decide ((↑es.length : Int) > 64)) (Option.some (Res.ret (AV.int IntKind.i64 5), [])) (br (Go.Proofs.H23.gd es && Go.Proofs.H23.aC es == 9) (Option.some (Res.ret (AV.int IntKind.i64 0), [])) (br (Go.Proofs.H23.gd es && Go.Proofs.H23.aC es == 0) (Option.some (Res.ret (AV.int IntKind.i64 1), [])) (br (Go.Proofs.H23.gd es && Go.Proofs.H23.aC es == 1) (Option.some (Res.ret (AV.int IntKind.i64 4), [])) (br (Go.Proofs.H23.gd es && Go.Proofs.H23.aC es == 2) (Option.some (Res.ret (AV.int IntKind.i64 10), [])) Option.none))))
theorem rd_f11_eq (es : List AV) : BK sA (oneL 1001100 L11) 11 F11 [.view 7 es] = rd_f11 es := by kernel_rfl

def rd_f9 (es : List AV) : Option (Res × Heap) := br (Go.Proofs.H23.gd es && Go.Proofs.H23.inA Go.Proofs.H23.isBig es) (Option.some (Res.ret (AV.bool Bool.false), [])) (br (Go.Proofs.H23.gd es && !Go.Proofs.H23.inA Go.Proofs.H23.isBig es) (Option.some (Res.ret (AV.bool Bool.true), [])) Option.none)
theorem rd_f9_eq (es : List AV) : BK noS (oneL 1000900 L9) 9 F9 [.view 7 es] = rd_f9 es := by kernel_rfl

end Go.Proofs.H23

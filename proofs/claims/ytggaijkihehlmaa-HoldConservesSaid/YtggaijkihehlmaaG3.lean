/- Functions upon the searches: decision trees. Printed by a program of mine. -/
import Derived.Test.YtggaijkihehlmaaF1
set_option linter.unusedVariables false
set_option linter.unusedSimpArgs false
set_option linter.unnecessarySimpa false
namespace Go.Proofs.H22
open Go Go.Eng
set_option maxRecDepth 20000
def rd_f24 (es : List AV) (t : Int) : Option (Res × Heap) := br (Go.Proofs.H22.gd es && Go.Proofs.H22.inA (Go.Proofs.H22.isId t) es) (Option.some (Res.ret (AV.int IntKind.i64 (↑(Go.Proofs.H22.ixA (Go.Proofs.H22.isId t) es) : Int)), [])) (br (Go.Proofs.H22.gd es && !Go.Proofs.H22.inA (Go.Proofs.H22.isId t) es) (Option.some (Res.ret (AV.int IntKind.i64 (-1)), [])) Option.none)
theorem rd_f24_eq (es : List AV) (t : Int) : BK sA noL 24 F24 [.view 6 es, .int .i64 t] = rd_f24 es t := by kernel_rfl

def rd_f24n (t : Int) : Option (Res × Heap) := Option.some (Res.ret (AV.int IntKind.i64 (-1)), [])
theorem rd_f24n_eq (t : Int) : BK sA noL 24 F24 [.nils, .int .i64 t] = rd_f24n t := by kernel_rfl

def rd_f28b (es : List AV) (a b c d e : Int) (t : List UInt8) : Option (Res × Heap) := br (Go.Proofs.H22.gd es && Go.Proofs.H22.inA (Go.Proofs.H22.isKey t) es) (Option.some (Res.ret (AV.bool Bool.true), [])) (br (Go.Proofs.H22.gd es && !Go.Proofs.H22.inA (Go.Proofs.H22.isKey t) es) (Option.some (Res.ret (AV.bool Bool.false), [])) Option.none)
theorem rd_f28b_eq (es : List AV) (a b c d e : Int) (t : List UInt8) : BK sA noL 28 F28 [.view 6 es, .fn 29 [.ptr [.int .i64 a, .int .i64 b, .int .i64 c, .int .i64 d, .int .i64 e, .str t]]] = rd_f28b es a b c d e t := by kernel_rfl

def rd_f28c (es : List AV) (a b c d e : Int) (t : List UInt8) : Option (Res × Heap) := br (Go.Proofs.H22.gd es && Go.Proofs.H22.inA (Go.Proofs.H22.isKey t) es) (Option.some (Res.ret (AV.bool Bool.true), [])) (br (Go.Proofs.H22.gd es && !Go.Proofs.H22.inA (Go.Proofs.H22.isKey t) es) (Option.some (Res.ret (AV.bool Bool.false), [])) Option.none)
theorem rd_f28c_eq (es : List AV) (a b c d e : Int) (t : List UInt8) : BK sA noL 28 F28 [.view 6 es, .fn 38 [.ptr [.int .i64 a, .int .i64 b, .int .i64 c, .int .i64 d, .int .i64 e, .str t]]] = rd_f28c es a b c d e t := by kernel_rfl

def rd_f28n (a b c d e : Int) (t : List UInt8) : Option (Res × Heap) := Option.some (Res.ret (AV.bool Bool.false), [])
theorem rd_f28n_eq (a b c d e : Int) (t : List UInt8) : BK sA noL 28 F28 [.nils, .fn 38 [.ptr [.int .i64 a, .int .i64 b, .int .i64 c, .int .i64 d, .int .i64 e, .str t]]] = rd_f28n a b c d e t := by kernel_rfl

def rd_f45 (s : List UInt8) : Option (Res × Heap) := br (Decidable.decide ((↑s.length : Int) ≥ 1)) (br (Decidable.decide (s.length ≤ Go.Proofs.H22.big)) (Option.some (Res.ret (AV.bool (Decidable.decide ((↑s.length : Int) ≤ 48) && !Go.Proofs.H22.fnd 33 s)), [])) Option.none) (Option.some (Res.ret (AV.bool Bool.false), []))
theorem rd_f45_eq (s : List UInt8) : BK sA noL 45 F45 [.str s] = rd_f45 s := by kernel_rfl

def rd_f26 (a b c d e : Int) (t : List UInt8) : Option (Res × Heap) := br (Decidable.decide (a ≥ 1)) (br (Decidable.decide (b ≥ 1000)) (br (Decidable.decide (c ≥ 1)) (br (Decidable.decide (c ≤ 1000000000000)) (br (Decidable.decide (d ≥ 0)) (br (Decidable.decide (d ≤ 73048)) (br (Decidable.decide (e ≥ 0)) (br (Decidable.decide (e ≤ 73048)) (Option.some (Res.ret (AV.bool (Decidable.decide (d ≤ e))), [])) (Option.some (Res.ret (AV.bool Bool.false), []))) (Option.some (Res.ret (AV.bool Bool.false), []))) (Option.some (Res.ret (AV.bool Bool.false), []))) (Option.some (Res.ret (AV.bool Bool.false), []))) (Option.some (Res.ret (AV.bool Bool.false), []))) (Option.some (Res.ret (AV.bool Bool.false), []))) (Option.some (Res.ret (AV.bool Bool.false), []))) (Option.some (Res.ret (AV.bool Bool.false), []))
theorem rd_f26_eq (a b c d e : Int) (t : List UInt8) : BK sA noL 26 F26 [.agg [.int .i64 a, .int .i64 b, .int .i64 c, .int .i64 d, .int .i64 e, .str t]] = rd_f26 a b c d e t := by kernel_rfl

def rd_f30 (a b c d e : Int) (t : List UInt8) : Option (Res × Heap) := br (Decidable.decide (a < 1)) (Option.some (Res.ret (AV.int IntKind.i64 1), [])) (br (Decidable.decide (b < 1000)) (Option.some (Res.ret (AV.int IntKind.i64 1), [])) (br (Decidable.decide (c < 1)) (Option.some (Res.ret (AV.int IntKind.i64 1), [])) (br (Decidable.decide (c > 1000000000000)) (Option.some (Res.ret (AV.int IntKind.i64 1), [])) (br (Decidable.decide (d ≥ 0)) (br (!Decidable.decide (d ≤ 73048)) (Option.some (Res.ret (AV.int IntKind.i64 1), [])) (br (Decidable.decide (e ≥ 0)) (br (!Decidable.decide (e ≤ 73048)) (Option.some (Res.ret (AV.int IntKind.i64 1), [])) (br (Decidable.decide (e < d)) (Option.some (Res.ret (AV.int IntKind.i64 1), [])) (br (Decidable.decide (t.length ≤ Go.Proofs.H22.big)) (br (!Go.Proofs.H22.keyB t) (Option.some (Res.ret (AV.int IntKind.i64 4), [])) (Option.some (Res.ret (AV.int IntKind.i64 0), []))) Option.none))) (Option.some (Res.ret (AV.int IntKind.i64 1), [])))) (Option.some (Res.ret (AV.int IntKind.i64 1), []))))))
theorem rd_f30_eq (a b c d e : Int) (t : List UInt8) : BK (addS 45 sKey sA) noL 30 F30 [.agg [.int .i64 a, .int .i64 b, .int .i64 c, .int .i64 d, .int .i64 e, .str t]] = rd_f30 a b c d e t := by kernel_rfl

end Go.Proofs.H22

/- Functions with one loop: decision trees. Printed by a program of mine. -/
import Derived.Test.YtggaijkihehlmaaL22b
set_option linter.unusedVariables false
set_option linter.unusedSimpArgs false
set_option linter.unnecessarySimpa false
namespace Go.Proofs.H22
open Go Go.Eng
set_option maxRecDepth 20000
abbrev BK (S : Summ) (L : LSumm) (f : Nat) (F : Fun) (args : List AV) : Option (Res × Heap) := bodyK (R := Res × Heap) IP (callN IP S (inl0 IP) (loopN L) 4) (loopN L) f F args [] (fun r h => some (r, h))
def rd_f25 (es : List AV) (t : Int) : Option (Res × Heap) := br (Go.Proofs.H22.gd es && Go.Proofs.H22.inA (Go.Proofs.H22.isId t) es) (Option.some (Res.ret (AV.int IntKind.i64 (↑(Go.Proofs.H22.ixA (Go.Proofs.H22.isId t) es) : Int)), [])) (br (Go.Proofs.H22.gd es && !Go.Proofs.H22.inA (Go.Proofs.H22.isId t) es) (Option.some (Res.ret (AV.int IntKind.i64 (-1)), [])) Option.none)
theorem rd_f25_eq (es : List AV) (t : Int) : BK noS (oneL 1002500 L25) 25 F25 [.view 6 es, .int .i64 t] = rd_f25 es t := by kernel_rfl

def rd_f31 (es : List AV) (t : List UInt8) : Option (Res × Heap) := br (Go.Proofs.H22.gd es && Go.Proofs.H22.inA (Go.Proofs.H22.isKey t) es) (Option.some (Res.ret (AV.bool Bool.true), [])) (br (Go.Proofs.H22.gd es && !Go.Proofs.H22.inA (Go.Proofs.H22.isKey t) es) (Option.some (Res.ret (AV.bool Bool.false), [])) Option.none)
theorem rd_f31_eq (es : List AV) (t : List UInt8) : BK noS (oneL 1003100 L31) 31 F31 [.view 6 es, .str t] = rd_f31 es t := by kernel_rfl

def rd_f7 (es : List AV) : Option (Res × Heap) := br (Decidable.decide ((↑es.length : Int) > 100)) (Option.some (Res.ret (AV.bool Bool.true), [])) (br (Go.Proofs.H22.gd es && Go.Proofs.H22.inA Go.Proofs.H22.isBig es) (Option.some (Res.ret (AV.bool Bool.true), [])) (br (Go.Proofs.H22.gd es && !Go.Proofs.H22.inA Go.Proofs.H22.isBig es) (Option.some (Res.ret (AV.bool Bool.false), [])) Option.none))
theorem rd_f7_eq (es : List AV) : BK noS (oneL 1000700 L7) 7 F7 [.view 6 es] = rd_f7 es := by kernel_rfl

def rd_f41a (es : List AV) (t : Int) : Option (Res × Heap) := br (Go.Proofs.H22.gd es && Decidable.decide ((↑es.length : Int) = (↑es.length : Int)) && Go.Proofs.H22.inA (Go.Proofs.H22.isId t) es) (Option.some (Res.ret (AV.int IntKind.i64 (↑(Go.Proofs.H22.ixA (Go.Proofs.H22.isId t) es) : Int)), [])) (br (Go.Proofs.H22.gd es && Decidable.decide ((↑es.length : Int) = (↑es.length : Int)) && !Go.Proofs.H22.inA (Go.Proofs.H22.isId t) es) (Option.some (Res.ret (AV.int IntKind.i64 (-1)), [])) Option.none)
theorem rd_f41a_eq (es : List AV) (t : Int) : BK noS (oneL 1004100 L41) 41 F41 [.view 6 es, .fn 42 [.ptr [.int .i64 t]]] = rd_f41a es t := by kernel_rfl

def rd_f41b (es : List AV) (a b c d e : Int) (t : List UInt8) : Option (Res × Heap) := br (Go.Proofs.H22.gd es && Decidable.decide ((↑es.length : Int) = (↑es.length : Int)) && Go.Proofs.H22.inA (Go.Proofs.H22.isKey t) es) (Option.some (Res.ret (AV.int IntKind.i64 (↑(Go.Proofs.H22.ixA (Go.Proofs.H22.isKey t) es) : Int)), [])) (br (Go.Proofs.H22.gd es && Decidable.decide ((↑es.length : Int) = (↑es.length : Int)) && !Go.Proofs.H22.inA (Go.Proofs.H22.isKey t) es) (Option.some (Res.ret (AV.int IntKind.i64 (-1)), [])) Option.none)
theorem rd_f41b_eq (es : List AV) (a b c d e : Int) (t : List UInt8) : BK noS (oneL 1004100 L41) 41 F41 [.view 6 es, .fn 29 [.ptr [.int .i64 a, .int .i64 b, .int .i64 c, .int .i64 d, .int .i64 e, .str t]]] = rd_f41b es a b c d e t := by kernel_rfl

def rd_f41c (es : List AV) (a b c d e : Int) (t : List UInt8) : Option (Res × Heap) := br (Go.Proofs.H22.gd es && Decidable.decide ((↑es.length : Int) = (↑es.length : Int)) && Go.Proofs.H22.inA (Go.Proofs.H22.isKey t) es) (Option.some (Res.ret (AV.int IntKind.i64 (↑(Go.Proofs.H22.ixA (Go.Proofs.H22.isKey t) es) : Int)), [])) (br (Go.Proofs.H22.gd es && Decidable.decide ((↑es.length : Int) = (↑es.length : Int)) && !Go.Proofs.H22.inA (Go.Proofs.H22.isKey t) es) (Option.some (Res.ret (AV.int IntKind.i64 (-1)), [])) Option.none)
theorem rd_f41c_eq (es : List AV) (a b c d e : Int) (t : List UInt8) : BK noS (oneL 1004100 L41) 41 F41 [.view 6 es, .fn 38 [.ptr [.int .i64 a, .int .i64 b, .int .i64 c, .int .i64 d, .int .i64 e, .str t]]] = rd_f41c es a b c d e t := by kernel_rfl

def rd_f27 (s : List UInt8) : Option (Res × Heap) := br (Decidable.decide ((↑s.length : Int) = (↑s.length : Int)) && Decidable.decide (s.length ≤ Go.Proofs.H22.big) && Go.Proofs.H22.fnd 33 s && Go.Proofs.H22.low 33 s) (Option.some (Res.ret (AV.bool Bool.false), [])) (br (Decidable.decide ((↑s.length : Int) = (↑s.length : Int)) && Decidable.decide (s.length ≤ Go.Proofs.H22.big) && Go.Proofs.H22.fnd 33 s && !Go.Proofs.H22.low 33 s) (Option.some (Res.ret (AV.bool Bool.false), [])) (br (Decidable.decide ((↑s.length : Int) = (↑s.length : Int)) && Decidable.decide (s.length ≤ Go.Proofs.H22.big) && !Go.Proofs.H22.fnd 33 s) (br (Decidable.decide ((↑s.length : Int) ≥ 1)) (Option.some (Res.ret (AV.bool (Decidable.decide ((↑s.length : Int) ≤ 48))), [])) (Option.some (Res.ret (AV.bool Bool.false), []))) Option.none))
theorem rd_f27_eq (s : List UInt8) : BK noS (oneL 1002700 L27) 27 F27 [.str s] = rd_f27 s := by kernel_rfl

def rd_f47 (s : List UInt8) (n t : Int) : Option (Res × Heap) := br (Decidable.decide ((↑s.length : Int) > n)) (Option.some (Res.ret (AV.bool Bool.false), [])) (br (Decidable.decide (s.length ≤ Go.Proofs.H22.big) && Go.Proofs.H22.fnd t s && Go.Proofs.H22.low t s) (Option.some (Res.ret (AV.bool Bool.false), [])) (br (Decidable.decide (s.length ≤ Go.Proofs.H22.big) && Go.Proofs.H22.fnd t s && !Go.Proofs.H22.low t s) (Option.some (Res.ret (AV.bool Bool.false), [])) (br (Decidable.decide (s.length ≤ Go.Proofs.H22.big) && !Go.Proofs.H22.fnd t s) (Option.some (Res.ret (AV.bool Bool.true), [])) Option.none)))
theorem rd_f47_eq (s : List UInt8) (n t : Int) : BK noS (oneL 1004700 L47) 47 F47 [.str s, .int .i64 n, .int .u8 t] = rd_f47 s n t := by kernel_rfl

def rd_f13 (es : List AV) (t k : Int) : Option (Res × Heap) := br (Go.Proofs.H22.gd es && Decidable.decide ((↑es.length : Int) = (↑es.length : Int))) (Option.some (Res.ret (AV.int IntKind.i64 (Go.Proofs.H22.totN t k (List.map Go.Proofs.H22.toH es) es.length)), [])) Option.none
theorem rd_f13_eq (es : List AV) (t k : Int) : BK noS (oneL 1001300 L13) 13 F13 [.view 6 es, .int .i64 t, .int .i64 k] = rd_f13 es t k := by kernel_rfl

def rd_f14 (es : List AV) (t k : Int) : Option (Res × Heap) := br (Go.Proofs.H22.gd es) (Option.some (Res.ret (AV.int IntKind.i64 (Go.Proofs.H22.totN t k (List.map Go.Proofs.H22.toH es) es.length)), [])) Option.none
theorem rd_f14_eq (es : List AV) (t k : Int) : BK noS (oneL 1001400 L14) 14 F14 [.view 6 es, .int .i64 t, .int .i64 k] = rd_f14 es t k := by kernel_rfl

end Go.Proofs.H22

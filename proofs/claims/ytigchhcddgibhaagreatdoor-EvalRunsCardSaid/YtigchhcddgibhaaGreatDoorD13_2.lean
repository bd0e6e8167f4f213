/- Functions over plain data. Printed by a program of mine. -/
import Derived.Test.YtigchhcddgibhaaGreatDoorD13_1
import Derived.KernelRfl
namespace Go.Proofs.H13
open Go Go.Eng
set_option maxRecDepth 100000
noncomputable section
abbrev qOH : Type := Int × Int
def qRx : PArgs := ⟨[.int .u64, .int .u64, .int .u64], []⟩
def qSA : List PRes := [⟨false, .tup [.int .u64, .int .u64], []⟩]
def qmM (x0 x1 x2 : Int) : DT qOH :=
 .br (x2 == 0)
 (.no)
 (.br (decide (x2 <= x0))
 (.no)
 (.br (x0 == 0)
 (.br (decide (x2 ≠ 0))
 (.br (decide (x2 ≠ 0)) (.at ((IntKind.u64.wrap (x1.tdiv x2), x1.tmod x2))) (.no))
 (.no))
 (.br (qfs x2)
 (.br (decide (0 <= IntKind.u64.wrap (64 - ((Lib.bitLen x2.toNat) : Int))))
 (.br (decide (0 <= IntKind.u64.wrap (64 - ((Lib.bitLen x2.toNat) : Int))))
 (.br (decide (0 <= IntKind.u64.wrap (64 - IntKind.u64.wrap (64 - ((Lib.bitLen x2.toNat) : Int)))))
 (.br (decide (0 <= IntKind.u64.wrap (64 - ((Lib.bitLen x2.toNat) : Int))))
 (.br (decide ((IntKind.u64.wrap (x2 * 2 ^ min (IntKind.u64.wrap (64 - ((Lib.bitLen x2.toNat) : Int))).toNat 64)).fdiv (2 ^ 32) ≠ 0))
 (.bi (pj 0
 (qrX
 (IntKind.u64.wrap (x2 * 2 ^ min (IntKind.u64.wrap (64 - ((Lib.bitLen x2.toNat) : Int))).toNat 64), IntKind.u64.wrap (64 - ((Lib.bitLen x2.toNat) : Int)),
 (IntKind.u64.wrap (x2 * 2 ^ min (IntKind.u64.wrap (64 - ((Lib.bitLen x2.toNat) : Int))).toNat 64)).fdiv (2 ^ 32),
 IntKind.u64.wrap
 ((BitVec.ofInt 64 (IntKind.u64.wrap (x2 * 2 ^ min (IntKind.u64.wrap (64 - ((Lib.bitLen x2.toNat) : Int))).toNat 64)) &&& BitVec.ofInt 64 4294967295).toNat : Int),
 IntKind.u64.wrap
 ((BitVec.ofInt 64 (IntKind.u64.wrap (x0 * 2 ^ min (IntKind.u64.wrap (64 - ((Lib.bitLen x2.toNat) : Int))).toNat 64)) |||
 BitVec.ofInt 64 (x1.fdiv (2 ^ min (IntKind.u64.wrap (64 - IntKind.u64.wrap (64 - ((Lib.bitLen x2.toNat) : Int)))).toNat 64))).toNat :
 Int),
 (IntKind.u64.wrap (x1 * 2 ^ min (IntKind.u64.wrap (64 - ((Lib.bitLen x2.toNat) : Int))).toNat 64)).fdiv (2 ^ 32),
 IntKind.u64.wrap
 ((BitVec.ofInt 64 (IntKind.u64.wrap (x1 * 2 ^ min (IntKind.u64.wrap (64 - ((Lib.bitLen x2.toNat) : Int))).toNat 64)) &&& BitVec.ofInt 64 4294967295).toNat : Int),
 IntKind.u64.wrap
 ((IntKind.u64.wrap
 ((BitVec.ofInt 64 (IntKind.u64.wrap (x0 * 2 ^ min (IntKind.u64.wrap (64 - ((Lib.bitLen x2.toNat) : Int))).toNat 64)) |||
 BitVec.ofInt 64 (x1.fdiv (2 ^ min (IntKind.u64.wrap (64 - IntKind.u64.wrap (64 - ((Lib.bitLen x2.toNat) : Int)))).toNat 64))).toNat :
 Int)).tdiv
 ((IntKind.u64.wrap (x2 * 2 ^ min (IntKind.u64.wrap (64 - ((Lib.bitLen x2.toNat) : Int))).toNat 64)).fdiv (2 ^ 32))),
 IntKind.u64.wrap
 (IntKind.u64.wrap
 ((BitVec.ofInt 64 (IntKind.u64.wrap (x0 * 2 ^ min (IntKind.u64.wrap (64 - ((Lib.bitLen x2.toNat) : Int))).toNat 64)) |||
 BitVec.ofInt 64 (x1.fdiv (2 ^ min (IntKind.u64.wrap (64 - IntKind.u64.wrap (64 - ((Lib.bitLen x2.toNat) : Int)))).toNat 64))).toNat :
 Int) -
 IntKind.u64.wrap
 (IntKind.u64.wrap
 ((IntKind.u64.wrap
 ((BitVec.ofInt 64 (IntKind.u64.wrap (x0 * 2 ^ min (IntKind.u64.wrap (64 - ((Lib.bitLen x2.toNat) : Int))).toNat 64)) |||
 BitVec.ofInt 64 (x1.fdiv (2 ^ min (IntKind.u64.wrap (64 - IntKind.u64.wrap (64 - ((Lib.bitLen x2.toNat) : Int)))).toNat 64))).toNat :
 Int)).tdiv
 ((IntKind.u64.wrap (x2 * 2 ^ min (IntKind.u64.wrap (64 - ((Lib.bitLen x2.toNat) : Int))).toNat 64)).fdiv (2 ^ 32))) *
 (IntKind.u64.wrap (x2 * 2 ^ min (IntKind.u64.wrap (64 - ((Lib.bitLen x2.toNat) : Int))).toNat 64)).fdiv (2 ^ 32)))))) (fun y0 =>
 .br (decide (y0.2.2.1 ≠ 0))
 (.bi (pj 0
 (qlE
 (y0.1, y0.2.1, y0.2.2.1, y0.2.2.2.1, y0.2.2.2.2.2.2.1, IntKind.u64.wrap (y0.2.2.2.2.2.2.2.1 - 1),
 IntKind.u64.wrap
 (IntKind.u64.wrap
 (IntKind.u64.wrap (IntKind.u64.wrap (y0.2.2.2.2.1 * 4294967296) + y0.2.2.2.2.2.1) -
 IntKind.u64.wrap (IntKind.u64.wrap (y0.2.2.2.2.2.2.2.1 - 1) * y0.1)) -
 IntKind.u64.wrap
 (IntKind.u64.wrap
 ((IntKind.u64.wrap
 (IntKind.u64.wrap (IntKind.u64.wrap (y0.2.2.2.2.1 * 4294967296) + y0.2.2.2.2.2.1) -
 IntKind.u64.wrap (IntKind.u64.wrap (y0.2.2.2.2.2.2.2.1 - 1) * y0.1))).tdiv
 y0.2.2.1) *
 y0.2.2.1)),
 IntKind.u64.wrap
 (IntKind.u64.wrap (IntKind.u64.wrap (y0.2.2.2.2.1 * 4294967296) + y0.2.2.2.2.2.1) -
 IntKind.u64.wrap (IntKind.u64.wrap (y0.2.2.2.2.2.2.2.1 - 1) * y0.1)),
 IntKind.u64.wrap
 ((IntKind.u64.wrap
 (IntKind.u64.wrap (IntKind.u64.wrap (y0.2.2.2.2.1 * 4294967296) + y0.2.2.2.2.2.1) -
 IntKind.u64.wrap (IntKind.u64.wrap (y0.2.2.2.2.2.2.2.1 - 1) * y0.1))).tdiv
 y0.2.2.1)))) (fun y1 =>
 .br (decide (0 <= y1.2.1))
 (.at ((IntKind.u64.wrap (IntKind.u64.wrap (y1.2.2.2.2.2.1 * 4294967296) + IntKind.u64.wrap (y1.2.2.2.2.2.2.2.2 - 1)), (IntKind.u64.wrap
 (IntKind.u64.wrap (IntKind.u64.wrap (y1.2.2.2.2.2.2.2.1 * 4294967296) + y1.2.2.2.2.1) -
 IntKind.u64.wrap (IntKind.u64.wrap (y1.2.2.2.2.2.2.2.2 - 1) * y1.1))).fdiv
 (2 ^ min y1.2.1.toNat 64))))
 (.no))
 (.bi (pj 1
 (qlE
 (y0.1, y0.2.1, y0.2.2.1, y0.2.2.2.1, y0.2.2.2.2.2.2.1, IntKind.u64.wrap (y0.2.2.2.2.2.2.2.1 - 1),
 IntKind.u64.wrap
 (IntKind.u64.wrap
 (IntKind.u64.wrap (IntKind.u64.wrap (y0.2.2.2.2.1 * 4294967296) + y0.2.2.2.2.2.1) -
 IntKind.u64.wrap (IntKind.u64.wrap (y0.2.2.2.2.2.2.2.1 - 1) * y0.1)) -
 IntKind.u64.wrap
 (IntKind.u64.wrap
 ((IntKind.u64.wrap
 (IntKind.u64.wrap (IntKind.u64.wrap (y0.2.2.2.2.1 * 4294967296) + y0.2.2.2.2.2.1) -
 IntKind.u64.wrap (IntKind.u64.wrap (y0.2.2.2.2.2.2.2.1 - 1) * y0.1))).tdiv
 y0.2.2.1) *
 y0.2.2.1)),
 IntKind.u64.wrap
 (IntKind.u64.wrap (IntKind.u64.wrap (y0.2.2.2.2.1 * 4294967296) + y0.2.2.2.2.2.1) -
 IntKind.u64.wrap (IntKind.u64.wrap (y0.2.2.2.2.2.2.2.1 - 1) * y0.1)),
 IntKind.u64.wrap
 ((IntKind.u64.wrap
 (IntKind.u64.wrap (IntKind.u64.wrap (y0.2.2.2.2.1 * 4294967296) + y0.2.2.2.2.2.1) -
 IntKind.u64.wrap (IntKind.u64.wrap (y0.2.2.2.2.2.2.2.1 - 1) * y0.1))).tdiv
 y0.2.2.1)))) (fun y1 =>
 .br (decide (0 <= y1.2.1))
 (.at ((IntKind.u64.wrap (IntKind.u64.wrap (y1.2.2.2.2.2.1 * 4294967296) + y1.2.2.2.2.2.2.2.2), (IntKind.u64.wrap
 (IntKind.u64.wrap (IntKind.u64.wrap (y1.2.2.2.2.2.2.2.1 * 4294967296) + y1.2.2.2.2.1) -
 IntKind.u64.wrap (y1.2.2.2.2.2.2.2.2 * y1.1))).fdiv
 (2 ^ min y1.2.1.toNat 64))))
 (.no))
 (.no)))
 (.no))
 (.bi (pj 1
 (qrX
 (IntKind.u64.wrap (x2 * 2 ^ min (IntKind.u64.wrap (64 - ((Lib.bitLen x2.toNat) : Int))).toNat 64), IntKind.u64.wrap (64 - ((Lib.bitLen x2.toNat) : Int)),
 (IntKind.u64.wrap (x2 * 2 ^ min (IntKind.u64.wrap (64 - ((Lib.bitLen x2.toNat) : Int))).toNat 64)).fdiv (2 ^ 32),
 IntKind.u64.wrap
 ((BitVec.ofInt 64 (IntKind.u64.wrap (x2 * 2 ^ min (IntKind.u64.wrap (64 - ((Lib.bitLen x2.toNat) : Int))).toNat 64)) &&& BitVec.ofInt 64 4294967295).toNat : Int),
 IntKind.u64.wrap
 ((BitVec.ofInt 64 (IntKind.u64.wrap (x0 * 2 ^ min (IntKind.u64.wrap (64 - ((Lib.bitLen x2.toNat) : Int))).toNat 64)) |||
 BitVec.ofInt 64 (x1.fdiv (2 ^ min (IntKind.u64.wrap (64 - IntKind.u64.wrap (64 - ((Lib.bitLen x2.toNat) : Int)))).toNat 64))).toNat :
 Int),
 (IntKind.u64.wrap (x1 * 2 ^ min (IntKind.u64.wrap (64 - ((Lib.bitLen x2.toNat) : Int))).toNat 64)).fdiv (2 ^ 32),
 IntKind.u64.wrap
 ((BitVec.ofInt 64 (IntKind.u64.wrap (x1 * 2 ^ min (IntKind.u64.wrap (64 - ((Lib.bitLen x2.toNat) : Int))).toNat 64)) &&& BitVec.ofInt 64 4294967295).toNat : Int),
 IntKind.u64.wrap
 ((IntKind.u64.wrap
 ((BitVec.ofInt 64 (IntKind.u64.wrap (x0 * 2 ^ min (IntKind.u64.wrap (64 - ((Lib.bitLen x2.toNat) : Int))).toNat 64)) |||
 BitVec.ofInt 64 (x1.fdiv (2 ^ min (IntKind.u64.wrap (64 - IntKind.u64.wrap (64 - ((Lib.bitLen x2.toNat) : Int)))).toNat 64))).toNat :
 Int)).tdiv
 ((IntKind.u64.wrap (x2 * 2 ^ min (IntKind.u64.wrap (64 - ((Lib.bitLen x2.toNat) : Int))).toNat 64)).fdiv (2 ^ 32))),
 IntKind.u64.wrap
 (IntKind.u64.wrap
 ((BitVec.ofInt 64 (IntKind.u64.wrap (x0 * 2 ^ min (IntKind.u64.wrap (64 - ((Lib.bitLen x2.toNat) : Int))).toNat 64)) |||
 BitVec.ofInt 64 (x1.fdiv (2 ^ min (IntKind.u64.wrap (64 - IntKind.u64.wrap (64 - ((Lib.bitLen x2.toNat) : Int)))).toNat 64))).toNat :
 Int) -
 IntKind.u64.wrap
 (IntKind.u64.wrap
 ((IntKind.u64.wrap
 ((BitVec.ofInt 64 (IntKind.u64.wrap (x0 * 2 ^ min (IntKind.u64.wrap (64 - ((Lib.bitLen x2.toNat) : Int))).toNat 64)) |||
 BitVec.ofInt 64 (x1.fdiv (2 ^ min (IntKind.u64.wrap (64 - IntKind.u64.wrap (64 - ((Lib.bitLen x2.toNat) : Int)))).toNat 64))).toNat :
 Int)).tdiv
 ((IntKind.u64.wrap (x2 * 2 ^ min (IntKind.u64.wrap (64 - ((Lib.bitLen x2.toNat) : Int))).toNat 64)).fdiv (2 ^ 32))) *
 (IntKind.u64.wrap (x2 * 2 ^ min (IntKind.u64.wrap (64 - ((Lib.bitLen x2.toNat) : Int))).toNat 64)).fdiv (2 ^ 32)))))) (fun y0 =>
 .br (decide (y0.2.2.1 ≠ 0))
 (.bi (pj 0
 (qlE
 (y0.1, y0.2.1, y0.2.2.1, y0.2.2.2.1, y0.2.2.2.2.2.2.1, y0.2.2.2.2.2.2.2.1,
 IntKind.u64.wrap
 (IntKind.u64.wrap
 (IntKind.u64.wrap (IntKind.u64.wrap (y0.2.2.2.2.1 * 4294967296) + y0.2.2.2.2.2.1) -
 IntKind.u64.wrap (y0.2.2.2.2.2.2.2.1 * y0.1)) -
 IntKind.u64.wrap
 (IntKind.u64.wrap
 ((IntKind.u64.wrap
 (IntKind.u64.wrap (IntKind.u64.wrap (y0.2.2.2.2.1 * 4294967296) + y0.2.2.2.2.2.1) -
 IntKind.u64.wrap (y0.2.2.2.2.2.2.2.1 * y0.1))).tdiv
 y0.2.2.1) *
 y0.2.2.1)),
 IntKind.u64.wrap
 (IntKind.u64.wrap (IntKind.u64.wrap (y0.2.2.2.2.1 * 4294967296) + y0.2.2.2.2.2.1) - IntKind.u64.wrap (y0.2.2.2.2.2.2.2.1 * y0.1)),
 IntKind.u64.wrap
 ((IntKind.u64.wrap
 (IntKind.u64.wrap (IntKind.u64.wrap (y0.2.2.2.2.1 * 4294967296) + y0.2.2.2.2.2.1) -
 IntKind.u64.wrap (y0.2.2.2.2.2.2.2.1 * y0.1))).tdiv
 y0.2.2.1)))) (fun y1 =>
 .br (decide (0 <= y1.2.1))
 (.at ((IntKind.u64.wrap (IntKind.u64.wrap (y1.2.2.2.2.2.1 * 4294967296) + IntKind.u64.wrap (y1.2.2.2.2.2.2.2.2 - 1)), (IntKind.u64.wrap
 (IntKind.u64.wrap (IntKind.u64.wrap (y1.2.2.2.2.2.2.2.1 * 4294967296) + y1.2.2.2.2.1) -
 IntKind.u64.wrap (IntKind.u64.wrap (y1.2.2.2.2.2.2.2.2 - 1) * y1.1))).fdiv
 (2 ^ min y1.2.1.toNat 64))))
 (.no))
 (.bi (pj 1
 (qlE
 (y0.1, y0.2.1, y0.2.2.1, y0.2.2.2.1, y0.2.2.2.2.2.2.1, y0.2.2.2.2.2.2.2.1,
 IntKind.u64.wrap
 (IntKind.u64.wrap
 (IntKind.u64.wrap (IntKind.u64.wrap (y0.2.2.2.2.1 * 4294967296) + y0.2.2.2.2.2.1) -
 IntKind.u64.wrap (y0.2.2.2.2.2.2.2.1 * y0.1)) -
 IntKind.u64.wrap
 (IntKind.u64.wrap
 ((IntKind.u64.wrap
 (IntKind.u64.wrap (IntKind.u64.wrap (y0.2.2.2.2.1 * 4294967296) + y0.2.2.2.2.2.1) -
 IntKind.u64.wrap (y0.2.2.2.2.2.2.2.1 * y0.1))).tdiv
 y0.2.2.1) *
 y0.2.2.1)),
 IntKind.u64.wrap
 (IntKind.u64.wrap (IntKind.u64.wrap (y0.2.2.2.2.1 * 4294967296) + y0.2.2.2.2.2.1) - IntKind.u64.wrap (y0.2.2.2.2.2.2.2.1 * y0.1)),
 IntKind.u64.wrap
 ((IntKind.u64.wrap
 (IntKind.u64.wrap (IntKind.u64.wrap (y0.2.2.2.2.1 * 4294967296) + y0.2.2.2.2.2.1) -
 IntKind.u64.wrap (y0.2.2.2.2.2.2.2.1 * y0.1))).tdiv
 y0.2.2.1)))) (fun y1 =>
 .br (decide (0 <= y1.2.1))
 (.at ((IntKind.u64.wrap (IntKind.u64.wrap (y1.2.2.2.2.2.1 * 4294967296) + y1.2.2.2.2.2.2.2.2), (IntKind.u64.wrap
 (IntKind.u64.wrap (IntKind.u64.wrap (y1.2.2.2.2.2.2.2.1 * 4294967296) + y1.2.2.2.2.1) -
 IntKind.u64.wrap (y1.2.2.2.2.2.2.2.2 * y1.1))).fdiv
 (2 ^ min y1.2.1.toNat 64))))
 (.no))
 (.no)))
 (.no))
 (.no)))
 (.no))
 (.no))
 (.no))
 (.no))
 (.no))
 (.no))))
def qnR (x0 x1 x2 : Int) : Option qOH := qav (qmM x0 x1 x2).ev
theorem qrB (x0 x1 x2) : qnR x0 x1 x2 = (qmM x0 x1 x2).ev := qaa _
theorem q0a : FH IP 145 qRx qSA (k3 qnR) := qae (F := qMc) (L := [(1014500, qFy), (1014501, qFz)]) (t := (k3 qmM)) qvk (qab (l := [qaf qMc 0, qaf qMc 1]) (by kernel_rfl) ⟨qau (by kernel_rfl) q2Y, qau (by kernel_rfl) q2Z, trivial⟩) (by kernel_rfl) (fun v => by kernel_rfl) (fun _ => qaa _)
def T20 : Tab := (145, FE qRx qSA (k3 qnR)) :: T19
theorem qPw : qai IP T20 := ⟨qah q0a, qvk⟩
abbrev qOE : Type := Int × Int × Int
def qRu : PArgs := ⟨[.agg [.int .u64, .int .u64], .int .u64], []⟩
def qSx : List PRes := [⟨false, .tup [.agg [.int .u64, .int .u64], .int .u64], []⟩]
def qqj (x0 x1 x2 : Int) : DT qOE :=
 .br (decide (x2 ≠ 0))
 (.bi (qnR (x0.tmod x2) x1 x2) (fun y0 =>
 .br (decide (x2 ≠ 0)) (.at ((IntKind.u64.wrap (x0.tdiv x2), y0.1, y0.2))) (.no))
 (.no))
 (.no)
def qrA (x0 x1 x2 : Int) : Option qOE := qav (qqj x0 x1 x2).ev
theorem qD4 (x0 x1 x2) : qrA x0 x1 x2 = (qqj x0 x1 x2).ev := qaa _
theorem qZ8 : FH IP 134 qRu qSx (k3 qrA) := fh q5z (k3 qqj) qPw
def T21 : Tab := (134, FE qRu qSx (k3 qrA)) :: T20
theorem qPx : qai IP T21 := ⟨qah qZ8, qPw⟩
abbrev qOK : Type := Int × Int × Bool
def qRA : PArgs := ⟨[.agg [.int .u64, .int .u64], .int .u64, .int .u64], []⟩
def qSD : List PRes := [⟨false, .tup [.agg [.int .u64, .int .u64], .bool], []⟩]
def qqo (x0 x1 : Int) (x2 x3 : Int) : DT qOK :=
 .br (qfs x1 && qfs x2)
 (.br (qfs x0 && qfs x2)
 (.br (qfs (x1 * x2 % 18446744073709551616) && qfs x3 && decide (0 <= 1))
 (.br (qfs (x0 * x2 % 18446744073709551616) && qfs (IntKind.u64.wrap (x1 * x2 / 18446744073709551616 + (x1 * x2 % 18446744073709551616 + x3 + 0) / 18446744073709551616)) &&
 decide (0 <= 1))
 (.bi (br (x0 * x2 / 18446744073709551616 == 0)
 (some
 ((x0 * x2 % 18446744073709551616 + IntKind.u64.wrap (x1 * x2 / 18446744073709551616 + (x1 * x2 % 18446744073709551616 + x3 + 0) / 18446744073709551616) + 0) /
 18446744073709551616 ==
 0))
 (some false)) (fun y0 =>
 .at (((x0 * x2 % 18446744073709551616 + IntKind.u64.wrap (x1 * x2 / 18446744073709551616 + (x1 * x2 % 18446744073709551616 + x3 + 0) / 18446744073709551616) + 0) % 18446744073709551616, (x1 * x2 % 18446744073709551616 + x3 + 0) % 18446744073709551616, y0)))
 (.no))
 (.no))
 (.no))
 (.no))
 (.no)
def qrC (x0 x1 : Int) (x2 x3 : Int) : Option qOK := qav (qqo x0 x1 x2 x3).ev
theorem qD9 (x0 x1 x2 x3) : qrC x0 x1 x2 x3 = (qqo x0 x1 x2 x3).ev := qaa _
theorem q0d : FH IP 135 qRA qSD (k4 qrC) := fh q5A (k4 qqo) qPx
def T22 : Tab := (135, FE qRA qSD (k4 qrC)) :: T21
theorem qPy : qai IP T22 := ⟨qah q0d, qPx⟩
abbrev qOF : Type := Int × Int × Int
def qRv : PArgs := ⟨[.agg [.int .u64, .int .u64], .bool], []⟩
def qSy : List PRes := [⟨false, .tup [.agg [.int .i64, .int .u64], .int .i64], []⟩]
def qqk (x0 x1 : Int) (x2 : Bool) : DT qOF :=
 .bi (br (decide (x0 > 9223372036854775808)) (some true) (br (x0 == 9223372036854775808) (br (!x2) (some true) (some (decide (x1 > 0)))) (some false))) (fun y0 =>
 .br (y0)
 (.at ((0, 0, 6)))
 (.br (x2)
 (.bi (qgm (IntKind.i64.wrap x0) x1) (fun y1 =>
 .at ((y1.1, y1.2, 0)))
 (.no))
 (.at ((IntKind.i64.wrap x0, x1, 0)))))
 (.no)
def qiD (x0 x1 : Int) (x2 : Bool) : Option qOF := qav (qqk x0 x1 x2).ev
theorem qD5 (x0 x1 x2) : qiD x0 x1 x2 = (qqk x0 x1 x2).ev := qaa _
theorem qZ9 : FH IP 136 qRv qSy (k3 qiD) := fh q5B (k3 qqk) qPy
def T23 : Tab := (136, FE qRv qSy (k3 qiD)) :: T22
theorem qPz : qai IP T23 := ⟨qah qZ9, qPy⟩
abbrev qBK : Type := Int × Int × Int × Int
def qHe : PArgs := ⟨[.agg [.int .i64, .int .u64], .int .i64], []⟩
def qIP : List PRes := [⟨false, .tup [.agg [.int .i64, .int .u64], .int .i64, .int .i64], []⟩]
def qj1 (x0 x1 x2 : Int) : DT qBK :=
 .br (decide (x2 < 1))
 (.at ((0, 0, 0, 1)))
 (.bi (qrJ x0 x1) (fun y0 =>
 .bi (qrA y0.1 y0.2 (IntKind.u64.wrap x2)) (fun y1 =>
 .bi (br (decide (x0 < 0)) (some (decide (y1.2.2 > 0))) (some false)) (fun y2 =>
 .br (y2)
 (.bi (qrC y1.1 y1.2.1 1 1) (fun y3 =>
 .br (decide (x0 < 0))
 (.bi (qiD y3.1 y3.2.1 (if true = true then !(y3.1 == 0 && (y3.2.1 == 0 && true)) else y3.1 == 0 && (y3.2.1 == 0 && true))) (fun y4 =>
 .at ((y4.1, y4.2.1, IntKind.i64.wrap (IntKind.u64.wrap (IntKind.u64.wrap x2 - y1.2.2)), 0)))
 (.no))
 (.bi (qiD y3.1 y3.2.1 false) (fun y4 =>
 .at ((y4.1, y4.2.1, IntKind.i64.wrap (IntKind.u64.wrap (IntKind.u64.wrap x2 - y1.2.2)), 0)))
 (.no)))
 (.no))
 (.br (decide (x0 < 0))
 (.bi (qiD y1.1 y1.2.1 (if true = true then !(y1.1 == 0 && (y1.2.1 == 0 && true)) else y1.1 == 0 && (y1.2.1 == 0 && true))) (fun y3 =>
 .at ((y3.1, y3.2.1, IntKind.i64.wrap y1.2.2, 0)))
 (.no))
 (.bi (qiD y1.1 y1.2.1 false) (fun y3 =>
 .at ((y3.1, y3.2.1, IntKind.i64.wrap y1.2.2, 0)))
 (.no))))
 (.no))
 (.no))
 (.no))
def qlb (x0 x1 x2 : Int) : Option qBK := qav (qj1 x0 x1 x2).ev
theorem qyJ (x0 x1 x2) : qlb x0 x1 x2 = (qj1 x0 x1 x2).ev := qaa _
theorem qVv : FH IP 119 qHe qIP (k3 qlb) := fh q5p (k3 qj1) qPz
def T24 : Tab := (119, FE qHe qIP (k3 qlb)) :: T23
theorem qPA : qai IP T24 := ⟨qah qVv, qPz⟩
abbrev qO6 : Type := Int
def qRZ : PArgs := ⟨[.agg [.int .i64, .int .u64], .int .i64, .int .i64, .int .i64], []⟩
def qS2 : List PRes := [⟨false, .int .i64, []⟩]
def qqM (x0 x1 : Int) (x2 x3 x4 : Int) : DT qO6 :=
 .br (decide (x4 < 5))
 (.br (decide (x0 < 0)) (.no) (.no))
 (.br (decide (x2 > IntKind.i64.wrap (x3 - x2)))
 (.at (1))
 (.br (decide (x2 < IntKind.i64.wrap (x3 - x2)))
 (.at (0))
 (.br (x4 == 6)
 (.at (IntKind.i64.wrap (IntKind.u64.wrap ((BitVec.ofInt 64 x1 &&& BitVec.ofInt 64 1).toNat : Int))))
 (.br (decide (x0 < 0)) (.at (0)) (.at (1))))))
def qrG (x0 x1 : Int) (x2 x3 x4 : Int) : Option qO6 := qav (qqM x0 x1 x2 x3 x4).ev
theorem qEx (x0 x1 x2 x3 x4) : qrG x0 x1 x2 x3 x4 = (qqM x0 x1 x2 x3 x4).ev := qaa _
theorem q0A : FH IP 120 qRZ qS2 (k5 qrG) := fh q5q (k5 qqM) qPA
def T25 : Tab := (120, FE qRZ qS2 (k5 qrG)) :: T24
theorem qPB : qai IP T25 := ⟨qah q0A, qPA⟩
abbrev qOI : Type := Int × Int
def qRy : PArgs := ⟨[.agg [.int .i64, .int .u64], .int .i64, .int .i64], []⟩
def qSB : List PRes := [⟨false, .tup [.int .i64, .int .i64], []⟩]
def qqm (x0 x1 : Int) (x2 x3 : Int) : DT qOI :=
 .bi (br (decide (x2 < 1)) (some true) (br (sm (qnT x3)) (some !gv (qnT x3)) none)) (fun y0 =>
 .br (y0)
 (.at ((0, 1)))
 (.bi (qlb x0 x1 x2) (fun y1 =>
 .br (decide (y1.2.2.1 > 0))
 (.bi (qrG y1.1 y1.2.1 y1.2.2.1 x2 x3) (fun y2 =>
 .bi (qbW y2) (fun y3 =>
 .bi (qhS y1.1 y1.2.1 y3.1 y3.2) (fun y4 =>
 .bi (qgv y4.1 y4.2.1) (fun y5 =>
 .br (!y5.2) (.at ((0, 6))) (.at ((y5.1, 0))))
 (.no))
 (.no))
 (.no))
 (.no))
 (.bi (qgv y1.1 y1.2.1) (fun y2 =>
 .br (!y2.2) (.at ((0, 6))) (.at ((y2.1, 0))))
 (.no)))
 (.no)))
 (.no)
def qlm (x0 x1 : Int) (x2 x3 : Int) : Option qOI := qav (qqm x0 x1 x2 x3).ev
theorem qD7 (x0 x1 x2 x3) : qlm x0 x1 x2 x3 = (qqm x0 x1 x2 x3).ev := qaa _
theorem q0b : FH IP 91 qRy qSB (k4 qlm) := fh F91 (k4 qqm) qPB
def T26 : Tab := (91, FE qRy qSB (k4 qlm)) :: T25
theorem qPC : qai IP T26 := ⟨qah q0b, qPB⟩
abbrev qAF : Type := Int × Int
def qF6 : PArgs := ⟨[.agg [.int .i64, .int .i64], .agg [.int .i64, .int .i64]], []⟩
def qHH : List PRes := [⟨false, .tup [.int .i64, .int .i64], []⟩]
def qi2 (x0 x1 : Int) (x2 x3 : Int) : DT qAF :=
 .bi (qlc x1 x3) (fun y0 =>
 .bi (br (x0 != x2) (some (x0 != 1)) (some false)) (fun y1 =>
 .bi (br y1 (some (x2 != 1)) (some false)) (fun y2 =>
 .br (y2)
 (.bi (qlm y0.1 y0.2 1000000 6) (fun y3 =>
 .at ((y3.1, y3.2)))
 (.no))
 (.bi (qeF y0.1 y0.2 0) (fun y3 =>
 .at ((y3.1, y3.2)))
 (.no)))
 (.no))
 (.no))
 (.no)
def qkH (x0 x1 : Int) (x2 x3 : Int) : Option qAF := qav (qi2 x0 x1 x2 x3).ev
theorem qxE (x0 x1 x2 x3) : qkH x0 x1 x2 x3 = (qi2 x0 x1 x2 x3).ev := qaa _
theorem qUb : FH IP 58 qF6 qHH (k4 qkH) := fh F58 (k4 qi2) qPC
def T27 : Tab := (58, FE qF6 qHH (k4 qkH)) :: T26
theorem qPD : qai IP T27 := ⟨qah qUb, qPC⟩
abbrev qO0 : Type := Int × Int
def qRT : PArgs := ⟨[.agg [.int .i64, .int .i64], .agg [.int .i64, .int .i64]], []⟩
def qSW : List PRes := [⟨false, .tup [.int .i64, .int .i64], []⟩]
def qqG (x0 x1 : Int) (x2 x3 : Int) : DT qO0 :=
 .br (x0 == x2)
 (.bi (br (x1 == -9223372036854775808) (some (x3 == -1)) (some false)) (fun y0 =>
 .br (y0)
 (.at ((0, 6)))
 (.br (decide (x3 ≠ 0)) (.at ((IntKind.i64.wrap (x1.tdiv x3), 0))) (.no)))
 (.no))
 (.br (x3 == -9223372036854775808)
 (.at ((0, 0)))
 (.br (decide (x3 < 0))
 (.bi (qbW (IntKind.i64.wrap (0 - x1))) (fun y0 =>
 .bi (qlm y0.1 y0.2 (IntKind.i64.wrap (0 - x3)) 6) (fun y1 =>
 .at ((y1.1, y1.2)))
 (.no))
 (.no))
 (.bi (qbW x1) (fun y0 =>
 .bi (qlm y0.1 y0.2 x3 6) (fun y1 =>
 .at ((y1.1, y1.2)))
 (.no))
 (.no))))
def qrF (x0 x1 : Int) (x2 x3 : Int) : Option qO0 := qav (qqG x0 x1 x2 x3).ev
theorem qEr (x0 x1 x2 x3) : qrF x0 x1 x2 x3 = (qqG x0 x1 x2 x3).ev := qaa _
theorem q0t : FH IP 59 qRT qSW (k4 qrF) := fh F59 (k4 qqG) qPD
def T28 : Tab := (59, FE qRT qSW (k4 qrF)) :: T27
theorem qPE : qai IP T28 := ⟨qah q0t, qPD⟩
abbrev qOM : Type := Int × Int
def qRC : PArgs := ⟨[.int .i64, .view 2], []⟩
def qSF : List PRes := [⟨false, .tup [.int .i64, .int .i64], []⟩]
def qmN (x0 : Int) (x1 : List AV) : DT qOM :=
 .br (qay [.int .i64, .int .i64] x1 0)
 (.br (x0 == 9)
 (.bi (qbW 0) (fun y0 =>
 .bi (qbW (intOf (cellAt x1 0 1))) (fun y1 =>
 .bi (qhT y0.1 y0.2 y1.1 y1.2) (fun y2 =>
 .bi (qeF y2.1 y2.2.1 y2.2.2) (fun y3 =>
 .at ((y3.1, y3.2)))
 (.no))
 (.no))
 (.no))
 (.no))
 (.br (qay [.int .i64, .int .i64] x1 1)
 (.br (x0 == 5)
 (.bi (qbW (intOf (cellAt x1 0 1))) (fun y0 =>
 .bi (qbW (intOf (cellAt x1 1 1))) (fun y1 =>
 .bi (qhS y0.1 y0.2 y1.1 y1.2) (fun y2 =>
 .bi (qeF y2.1 y2.2.1 y2.2.2) (fun y3 =>
 .at ((y3.1, y3.2)))
 (.no))
 (.no))
 (.no))
 (.no))
 (.br (x0 == 6)
 (.bi (qbW (intOf (cellAt x1 0 1))) (fun y0 =>
 .bi (qbW (intOf (cellAt x1 1 1))) (fun y1 =>
 .bi (qhT y0.1 y0.2 y1.1 y1.2) (fun y2 =>
 .bi (qeF y2.1 y2.2.1 y2.2.2) (fun y3 =>
 .at ((y3.1, y3.2)))
 (.no))
 (.no))
 (.no))
 (.no))
 (.br (x0 == 7)
 (.bi (qkH (intOf (cellAt x1 0 0)) (intOf (cellAt x1 0 1)) (intOf (cellAt x1 1 0)) (intOf (cellAt x1 1 1))) (fun y0 =>
 .at ((y0.1, y0.2)))
 (.no))
 (.br (intOf (cellAt x1 1 1) == 0)
 (.at ((0, 7)))
 (.bi (qrF (intOf (cellAt x1 0 0)) (intOf (cellAt x1 0 1)) (intOf (cellAt x1 1 0)) (intOf (cellAt x1 1 1))) (fun y0 =>
 .at ((y0.1, y0.2)))
 (.no))))))
 (.no)))
 (.no)
def qdD (x0 : Int) (x1 : List AV) : Option qOM := qav (qmN x0 x1).ev
theorem qrD (x0 x1) : qdD x0 x1 = (qmN x0 x1).ev := qaa _
theorem q0e : FH IP 25 qRC qSF (k2 qdD) := fh F25 (k2 qmN) qPE
def T29 : Tab := (25, FE qRC qSF (k2 qdD)) :: T28
theorem qPF : qai IP T29 := ⟨qah q0e, qPE⟩
abbrev qA7 : Type := Int × Int × Int
def qGy : PArgs := ⟨[.int .i64, .view 2], []⟩
def qH9 : List PRes := [⟨false, .tup [.agg [.int .i64, .int .i64], .int .i64], []⟩]
def qhs (x0 : Int) (x1 : List AV) : DT qA7 :=
 .bi (pj 0 (qgB (Sum.inl (x0, x1, x1, (x1.length : Int), 0, 0, 0)))) (fun y0 =>
 .bi (qb4 (sl y0).1 []) (fun y1 =>
 .br (!y1.2)
 (.at ((0, 0, 3)))
 (.bi (pj 0 (qgC ((sl y0).1, (sl y0).2.1, y1.1, (sl y0).2.1, ((sl y0).2.1.length : Int), 0, (sl y0).2.2.2.2.2.1, (sl y0).2.2.2.2.2.2))) (fun y2 =>
 .at ((0, 0, 1)))
 (.bi (pj 1 (qgC ((sl y0).1, (sl y0).2.1, y1.1, (sl y0).2.1, ((sl y0).2.1.length : Int), 0, (sl y0).2.2.2.2.2.1, (sl y0).2.2.2.2.2.2))) (fun y2 =>
 .bi (br (decide (y2.1 < 5)) (some true) (some (decide (y2.1 > 9)))) (fun y3 =>
 .br (y3)
 (.bi (qde y2.1 y2.2.1) (fun y4 =>
 .at ((y2.2.2.1, y4, 0)))
 (.no))
 (.bi (qdD y2.1 y2.2.1) (fun y4 =>
 .bi (br (y4.2 == 0) (br (sm (qdS y2.2.2.1 y4.1)) (some !gv (qdS y2.2.2.1 y4.1)) none) (some false)) (fun y5 =>
 .br (y5)
 (.at ((0, 0, 6)))
 (.br (y4.2 != 0) (.at ((0, 0, y4.2))) (.at ((y2.2.2.1, y4.1, 0)))))
 (.no))
 (.no)))
 (.no))
 (.no))))
 (.no))
 (.bi (pj 1 (qgB (Sum.inl (x0, x1, x1, (x1.length : Int), 0, 0, 0)))) (fun y0 =>
 .bi (qb4 (sr y0).1 (sr y0).2.2.2.2.2.2.2) (fun y1 =>
 .br (!y1.2)
 (.at ((0, 0, 3)))
 (.bi (pj 0
 (qgC ((sr y0).1, (sr y0).2.1, y1.1, (sr y0).2.1, ((sr y0).2.1.length : Int), 0, (sr y0).2.2.2.2.2.1, (sr y0).2.2.2.2.2.2.1))) (fun y2 =>
 .at ((0, 0, 1)))
 (.bi (pj 1
 (qgC ((sr y0).1, (sr y0).2.1, y1.1, (sr y0).2.1, ((sr y0).2.1.length : Int), 0, (sr y0).2.2.2.2.2.1, (sr y0).2.2.2.2.2.2.1))) (fun y2 =>
 .bi (br (decide (y2.1 < 5)) (some true) (some (decide (y2.1 > 9)))) (fun y3 =>
 .br (y3)
 (.bi (qde y2.1 y2.2.1) (fun y4 =>
 .at ((y2.2.2.1, y4, 0)))
 (.no))
 (.bi (qdD y2.1 y2.2.1) (fun y4 =>
 .bi (br (y4.2 == 0) (br (sm (qdS y2.2.2.1 y4.1)) (some !gv (qdS y2.2.2.1 y4.1)) none) (some false)) (fun y5 =>
 .br (y5)
 (.at ((0, 0, 6)))
 (.br (y4.2 != 0) (.at ((0, 0, y4.2))) (.at ((y2.2.2.1, y4.1, 0)))))
 (.no))
 (.no)))
 (.no))
 (.no))))
 (.no))
 (.no))
def qaH (x0 : Int) (x1 : List AV) : Option qA7 := qav (qhs x0 x1).ev
theorem qnJ (x0 x1) : qaH x0 x1 = (qhs x0 x1).ev := qaa _
theorem qUF : FH IP 10 qGy qH9 (k2 qaH) := qae (F := F10) (L := [(1001000, qwp), (1001001, qwq)]) (t := (k2 qhs)) qPF (qab (l := [qaf F10 0, qaf F10 1]) (by kernel_rfl) ⟨qau (by kernel_rfl) qWu, qau (by kernel_rfl) qWv, trivial⟩) (by kernel_rfl) (fun v => by kernel_rfl) (fun _ => qaa _)
def T30 : Tab := (10, FE qGy qH9 (k2 qaH)) :: T29
theorem qPG : qai IP T30 := ⟨qah qUF, qPF⟩
abbrev qtq : Type := Int
def qlL : PArgs := ⟨[.agg [.int .i64, .int .i64, .str, .view 4]], []⟩
def qlY : List PRes := [⟨false, .int .i64, []⟩]
abbrev qbK : Type := Int -> Int -> (List UInt8) -> (List AV) -> Option qtq
def qoN (G_u162q : qbK) : Prop := FH IP 80 qlL qlY (k4 G_u162q)
def qMj (G_u162q : qbK) : Tab := (80, FE qlL qlY (k4 G_u162q)) :: T30
theorem qkp (G_u162q : qbK) (hG : qoN G_u162q) : qai IP (qMj G_u162q) := ⟨qah (hG), qPG⟩
abbrev qcQ : Type := Int × List AV × Int × Int
def qvM : List PSt := [⟨[(1008000, .junk), (3, .int .i64), (7, .view 4), (8, .int .i64), (9, .int .i64)], [], 0, 0⟩]
def qJP (x0 : Int) (x1 : List AV) (x2 x3 : Int) : X × St := (.exit 0, ⟨[(3, .int .i64 x0)], [], 0, 0⟩)
def qW8 : List (qcQ -> X × St) := [(k4 qJP)]
def qid (G_u162q : qbK) (x0 : Int) (x1 : List AV) (x2 x3 : Int) : DT (Rd qcQ) :=
 .br (decide (x3 < x2))
 (.br (qay [.int .i64, .int .i64, .str, .slice 4] x1 x3)
 (.bi (G_u162q (intOf (cellAt x1 x3 0)) (intOf (cellAt x1 x3 1)) (strOf (cellAt x1 x3 2)) (qaj (cellAt x1 x3 3))) (fun y0 =>
 .at (.next ((IntKind.i64.wrap (x0 + y0), x1, x2, IntKind.i64.wrap (x3 + 1)))))
 (.no))
 (.no))
 (.at (.done 0))
def qg5 (G_u162q : qbK) : qcQ -> DT (Rd qcQ) := (fun v => qid G_u162q v.1 v.2.1 v.2.2.1 v.2.2.2)
def qpB (G_u162q : qbK) (v : qcQ) : Option (Nat × qcQ) := qav (qaq (fun v => (qg5 G_u162q v).ev) v)
theorem qod (G_u162q v) : qpB G_u162q v = qaq (fun v => (qg5 G_u162q v).ev) v := qaa _
def qws (G_u162q : qbK) : qb3 := LE (τ := qcQ) (hD qvM) (qpB G_u162q) qW8
theorem qWx (G_u162q : qbK) (hG : qoN G_u162q) : Go.Eng.Told IP (qaf F80 0).1 (qaf F80 0).2 (qws G_u162q) := qat (inferInstance : Inhabited qcQ) (hs := qvM) (st := qg5 G_u162q) (L := []) (qkp G_u162q hG) (qab (l := []) (by kernel_rfl) trivial) (qod G_u162q) (fun v => by kernel_rfl) (fun v => by kernel_rfl)
def qp1 (G_u162q : qbK) (x0 x1 : Int) (x2 : List UInt8) (x3 : List AV) : DT qtq :=
 .bi (pj 0 (qpB G_u162q (1, x3, (x3.length : Int), 0))) (fun y0 =>
 .at (y0.1))
 (.no)
def qdJ : Nat -> qbK
 | 0 => fun _ _ _ _ => none
 | n + 1 => fun x0 x1 x2 x3 => (qp1 ((qdJ n)) x0 x1 x2 x3).ev
def qph (x0 x1 : Int) (x2 : List UInt8) (x3 : List AV) : Option qtq := qmX fun n => (qdJ n) x0 x1 x2 x3
theorem qno : ∀ n, qoN ((qdJ n))
 | 0 => (fun v y h => nomatch h)
 | n + 1 => have hG := qno n
 qae (F := F80) (L := [(1008000, qws ((qdJ n)))]) (t := (k4 (qp1 ((qdJ n))))) (qkp ((qdJ n)) hG) (qab (l := [qaf F80 0]) (by kernel_rfl) ⟨qau (by kernel_rfl) (qWx ((qdJ n)) hG), trivial⟩) (by kernel_rfl) (fun v => by kernel_rfl) (fun v => rfl)
theorem qUJ : FH IP 80 qlL qlY (k4 qph) := qbI (p := qlL) (rs := qlY) (s := fun n => (k4 ((qdJ n)))) fun n => (qno n)
def T31 : Tab := (80, FE qlL qlY (k4 qph)) :: T30
theorem qPH : qai IP T31 := ⟨qah qUJ, qPG⟩
abbrev qtr : Type := Int
def qlM : PArgs := ⟨[.agg [.int .i64, .int .i64, .str, .view 4]], []⟩
def qlZ : List PRes := [⟨false, .int .i64, []⟩]
abbrev qbL : Type := Int -> Int -> (List UInt8) -> (List AV) -> Option qtr
def qoO (G_u163q : qbL) : Prop := FH IP 81 qlM qlZ (k4 G_u163q)
def qMk (G_u163q : qbL) : Tab := (81, FE qlM qlZ (k4 G_u163q)) :: T31
theorem qkq (G_u163q : qbL) (hG : qoO G_u163q) : qai IP (qMk G_u163q) := ⟨qah (hG), qPH⟩
abbrev qcR : Type := Int × List AV × Int × Int
def qvN : List PSt := [⟨[(1008100, .junk), (3, .int .i64), (7, .view 4), (8, .int .i64), (9, .int .i64)], [], 0, 0⟩]
def qJQ (x0 : Int) (x1 : List AV) (x2 x3 : Int) : X × St := (.exit 0, ⟨[(3, .int .i64 x0)], [], 0, 0⟩)
def qW9 : List (qcR -> X × St) := [(k4 qJQ)]
def qie (G_u163q : qbL) (x0 : Int) (x1 : List AV) (x2 x3 : Int) : DT (Rd qcR) :=
 .br (decide (x3 < x2))
 (.br (qay [.int .i64, .int .i64, .str, .slice 4] x1 x3)
 (.bi (G_u163q (intOf (cellAt x1 x3 0)) (intOf (cellAt x1 x3 1)) (strOf (cellAt x1 x3 2)) (qaj (cellAt x1 x3 3))) (fun y0 =>
 .at (.next ((if y0 > x0 then y0 else x0, x1, x2, IntKind.i64.wrap (x3 + 1)))))
 (.no))
 (.no))
 (.at (.done 0))
def qg6 (G_u163q : qbL) : qcR -> DT (Rd qcR) := (fun v => qie G_u163q v.1 v.2.1 v.2.2.1 v.2.2.2)
def qpC (G_u163q : qbL) (v : qcR) : Option (Nat × qcR) := qav (qaq (fun v => (qg6 G_u163q v).ev) v)
theorem qoe (G_u163q v) : qpC G_u163q v = qaq (fun v => (qg6 G_u163q v).ev) v := qaa _
def qwt (G_u163q : qbL) : qb3 := LE (τ := qcR) (hD qvN) (qpC G_u163q) qW9
theorem qWy (G_u163q : qbL) (hG : qoO G_u163q) : Go.Eng.Told IP (qaf F81 0).1 (qaf F81 0).2 (qwt G_u163q) := qat (inferInstance : Inhabited qcR) (hs := qvN) (st := qg6 G_u163q) (L := []) (qkq G_u163q hG) (qab (l := []) (by kernel_rfl) trivial) (qoe G_u163q) (fun v => by kernel_rfl) (fun v => by kernel_rfl)
def qp2 (G_u163q : qbL) (x0 x1 : Int) (x2 : List UInt8) (x3 : List AV) : DT qtr :=
 .bi (pj 0 (qpC G_u163q (0, x3, (x3.length : Int), 0))) (fun y0 =>
 .at (IntKind.i64.wrap (y0.1 + 1)))
 (.no)
def qdK : Nat -> qbL
 | 0 => fun _ _ _ _ => none
 | n + 1 => fun x0 x1 x2 x3 => (qp2 ((qdK n)) x0 x1 x2 x3).ev
def qkR (x0 x1 : Int) (x2 : List UInt8) (x3 : List AV) : Option qtr := qmX fun n => (qdK n) x0 x1 x2 x3
theorem qnp : ∀ n, qoO ((qdK n))
 | 0 => (fun v y h => nomatch h)
 | n + 1 => have hG := qnp n
 qae (F := F81) (L := [(1008100, qwt ((qdK n)))]) (t := (k4 (qp2 ((qdK n))))) (qkq ((qdK n)) hG) (qab (l := [qaf F81 0]) (by kernel_rfl) ⟨qau (by kernel_rfl) (qWy ((qdK n)) hG), trivial⟩) (by kernel_rfl) (fun v => by kernel_rfl) (fun v => rfl)
theorem qUK : FH IP 81 qlM qlZ (k4 qkR) := qbI (p := qlM) (rs := qlZ) (s := fun n => (k4 ((qdK n)))) fun n => (qnp n)
def T32 : Tab := (81, FE qlM qlZ (k4 qkR)) :: T31
theorem qPI : qai IP T32 := ⟨qah qUK, qPH⟩
abbrev qO4 : Type := Int
def qRX : PArgs := ⟨[.int .i64], []⟩
def qS0 : List PRes := [⟨false, .int .i64, []⟩]
def qqK (x0 : Int) : DT qO4 :=
 .br (x0 == 1)
 (.br (x0 == 1)
 (.at (0))
 (.br (x0 == 9)
 (.br (x0 == 9)
 (.at (1))
 (.br (x0 == 19)
 (.at (3))
 (.bi (br (decide (x0 >= 5)) (some (decide (x0 <= 18))) (some false)) (fun y0 =>
 .br (y0) (.at (2)) (.at (-1)))
 (.no))))
 (.br (x0 == 16)
 (.at (1))
 (.br (x0 == 19)
 (.at (3))
 (.bi (br (decide (x0 >= 5)) (some (decide (x0 <= 18))) (some false)) (fun y0 =>
 .br (y0) (.at (2)) (.at (-1)))
 (.no))))))
 (.br (x0 == 2)
 (.br (x0 == 2)
 (.at (0))
 (.br (x0 == 9)
 (.br (x0 == 9)
 (.at (1))
 (.br (x0 == 19)
 (.at (3))
 (.bi (br (decide (x0 >= 5)) (some (decide (x0 <= 18))) (some false)) (fun y0 =>
 .br (y0) (.at (2)) (.at (-1)))
 (.no))))
 (.br (x0 == 16)
 (.at (1))
 (.br (x0 == 19)
 (.at (3))
 (.bi (br (decide (x0 >= 5)) (some (decide (x0 <= 18))) (some false)) (fun y0 =>
 .br (y0) (.at (2)) (.at (-1)))
 (.no))))))
 (.br (x0 == 3)
 (.br (x0 == 3)
 (.at (0))
 (.br (x0 == 9)
 (.br (x0 == 9)
 (.at (1))
 (.br (x0 == 19)
 (.at (3))
 (.bi (br (decide (x0 >= 5)) (some (decide (x0 <= 18))) (some false)) (fun y0 =>
 .br (y0) (.at (2)) (.at (-1)))
 (.no))))
 (.br (x0 == 16)
 (.at (1))
 (.br (x0 == 19)
 (.at (3))
 (.bi (br (decide (x0 >= 5)) (some (decide (x0 <= 18))) (some false)) (fun y0 =>
 .br (y0) (.at (2)) (.at (-1)))
 (.no))))))
 (.br (x0 == 4)
 (.at (0))
 (.br (x0 == 9)
 (.br (x0 == 9)
 (.at (1))
 (.br (x0 == 19)
 (.at (3))
 (.bi (br (decide (x0 >= 5)) (some (decide (x0 <= 18))) (some false)) (fun y0 =>
 .br (y0) (.at (2)) (.at (-1)))
 (.no))))
 (.br (x0 == 16)
 (.at (1))
 (.br (x0 == 19)
 (.at (3))
 (.bi (br (decide (x0 >= 5)) (some (decide (x0 <= 18))) (some false)) (fun y0 =>
 .br (y0) (.at (2)) (.at (-1)))
 (.no))))))))
def qiE (x0 : Int) : Option qO4 := qav (qqK x0).ev
theorem qEv (x0) : qiE x0 = (qqK x0).ev := qaa _
theorem q0y : FH IP 113 qRX qS0 qiE := fh q5k qqK qPI
def T33 : Tab := (113, FE qRX qS0 qiE) :: T32
theorem qPJ : qai IP T33 := ⟨qah q0y, qPI⟩
abbrev qAT : Type := Bool
def qGk : PArgs := ⟨[.agg [.int .i64, .int .i64, .str, .view 4]], []⟩
def qHV : List PRes := [⟨false, .bool, []⟩]
def qje (x0 x1 : Int) (x2 : List UInt8) (x3 : List AV) : DT qAT :=
 .br (x0 == 1)
 (.bi (qiE x0) (fun y0 =>
 .br (y0 == (x3.length : Int))
 (.br (decide (x1 >= 0))
 (.br (decide (x1 <= 9223372036854775807))
 (.br (x2 == []) (.at (true)) (.at (x0 == 4)))
 (.at (false)))
 (.at (false)))
 (.at (false)))
 (.no))
 (.br (x0 == 2)
 (.bi (qiE x0) (fun y0 =>
 .br (y0 == (x3.length : Int))
 (.br (decide (x1 >= 0))
 (.br (decide (x1 <= 1000000000000))
 (.br (x2 == []) (.at (true)) (.at (x0 == 4)))
 (.at (false)))
 (.at (false)))
 (.at (false)))
 (.no))
 (.br (x0 == 3)
 (.bi (qiE x0) (fun y0 =>
 .br (y0 == (x3.length : Int))
 (.br (decide (x1 >= 0))
 (.br (decide (x1 <= 1000000))
 (.br (x2 == []) (.at (true)) (.at (x0 == 4)))
 (.at (false)))
 (.at (false)))
 (.at (false)))
 (.no))
 (.bi (qiE x0) (fun y0 =>
 .br (y0 == (x3.length : Int))
 (.br (decide (x1 >= 0))
 (.br (decide (x1 <= 0))
 (.br (x2 == []) (.at (true)) (.at (x0 == 4)))
 (.at (false)))
 (.at (false)))
 (.at (false)))
 (.no))))
def qkM (x0 x1 : Int) (x2 : List UInt8) (x3 : List AV) : Option qAT := qav (qje x0 x1 x2 x3).ev
theorem qxR (x0 x1 x2 x3) : qkM x0 x1 x2 x3 = (qje x0 x1 x2 x3).ev := qaa _
theorem qUr : FH IP 83 qGk qHV (k4 qkM) := fh F83 (k4 qje) qPJ
def T34 : Tab := (83, FE qGk qHV (k4 qkM)) :: T33
theorem qPK : qai IP T34 := ⟨qah qUr, qPJ⟩
abbrev qts : Type := Bool
def qlN : PArgs := ⟨[.agg [.int .i64, .int .i64, .str, .view 4], .fn (.func 83) []], []⟩
def ql2 : List PRes := [⟨false, .bool, []⟩]
abbrev qbi : Type := Int -> Int -> (List UInt8) -> (List AV) -> Option qts
abbrev qTU : Type := Bool
def qG1 : PArgs := ⟨[.view 4, .fn (.func 112) [.ptr [.fn (.func 83) []]]], []⟩
def qIC : List PRes := [⟨false, .bool, []⟩]
abbrev qdy : Type := (List AV) -> Option qTU
abbrev qTW : Type := Int
def qHA : PArgs := ⟨[.view 4, .fn (.func 112) [.ptr [.fn (.func 83) []]]], []⟩
def qJb : List PRes := [⟨false, .int .i64, []⟩]
abbrev qdA : Type := (List AV) -> Option qTW
abbrev qto : Type := Bool
def qlJ : PArgs := ⟨[.agg [.int .i64, .int .i64, .str, .view 4], .ptr [.fn (.func 83) []]], []⟩
def qlW : List PRes := [⟨false, .bool, []⟩]
abbrev qbg : Type := Int -> Int -> (List UInt8) -> (List AV) -> Option qto
def qoP (G_u164q : qbi) (G_u1q : qdy) (G_u5q : qdA) (G_u109q : qbg) : Prop := FH IP 82 qlN ql2 (k4 G_u164q) /\ FH IP 111 qG1 qIC G_u1q /\ FH IP 131 qHA qJb G_u5q /\ FH IP 112 qlJ qlW (k4 G_u109q)
def qMl (G_u164q : qbi) (G_u1q : qdy) (G_u5q : qdA) (G_u109q : qbg) : Tab := (82, FE qlN ql2 (k4 G_u164q)) :: (111, FE qG1 qIC G_u1q) :: (131, FE qHA qJb G_u5q) :: (112, FE qlJ qlW (k4 G_u109q)) :: T34
theorem qdb (G_u164q : qbi) (G_u1q : qdy) (G_u5q : qdA) (G_u109q : qbg) (hG : qoP G_u164q G_u1q G_u5q G_u109q) : qai IP (qMl G_u164q G_u1q G_u5q G_u109q) := ⟨qah (hG.1), qah (hG.2.1), qah (hG.2.2.1), qah (hG.2.2.2), qPK⟩
abbrev qgP : Type := List AV × Int × Int
def qQR : List PSt := [⟨[(1013100, .junk), (0, .view 4), (1, .fn (.func 112) [.ptr [.fn (.func 83) []]]), (7, .int .i64), (8, .int .i64)], [], 0, 0⟩]
def qXB (x0 : List AV) (x1 x2 : Int) : X × St := (.ret, ⟨[(4, .int .i64 x2)], [], 0, 0⟩)
def qXC (x0 : List AV) (x1 x2 : Int) : X × St := (.exit 0, ⟨[(4, .junk)], [], 0, 0⟩)
def q8y : List (qgP -> X × St) := [(k3 qXB), (k3 qXC)]
def qpQ (G_u164q : qbi) (G_u1q : qdy) (G_u5q : qdA) (G_u109q : qbg) (x0 : List AV) (x1 x2 : Int) : DT (Rd qgP) :=
 .br (decide (x2 < x1))
 (.br (qay [.int .i64, .int .i64, .str, .slice 4] x0 x2)
 (.bi (G_u109q (intOf (cellAt x0 x2 0)) (intOf (cellAt x0 x2 1)) (strOf (cellAt x0 x2 2)) (qaj (cellAt x0 x2 3))) (fun y0 =>
 .br (y0) (.at (.done 0)) (.at (.next ((x0, x1, IntKind.i64.wrap (x2 + 1))))))
 (.no))
 (.no))
 (.at (.done 1))
def qsB (G_u164q : qbi) (G_u1q : qdy) (G_u5q : qdA) (G_u109q : qbg) : qgP -> DT (Rd qgP) := (fun v => qpQ G_u164q G_u1q G_u5q G_u109q v.1 v.2.1 v.2.2)
def qFr (G_u164q : qbi) (G_u1q : qdy) (G_u5q : qdA) (G_u109q : qbg) (v : qgP) : Option (Nat × qgP) := qav (qaq (fun v => (qsB G_u164q G_u1q G_u5q G_u109q v).ev) v)
theorem qwg (G_u164q G_u1q G_u5q G_u109q v) : qFr G_u164q G_u1q G_u5q G_u109q v = qaq (fun v => (qsB G_u164q G_u1q G_u5q G_u109q v).ev) v := qaa _
def qQ0 (G_u164q : qbi) (G_u1q : qdy) (G_u5q : qdA) (G_u109q : qbg) : qb3 := LE (τ := qgP) (hD qQR) (qFr G_u164q G_u1q G_u5q G_u109q) q8y
theorem q8r (G_u164q : qbi) (G_u1q : qdy) (G_u5q : qdA) (G_u109q : qbg) (hG : qoP G_u164q G_u1q G_u5q G_u109q) : Go.Eng.Told IP (qaf qK9 0).1 (qaf qK9 0).2 (qQ0 G_u164q G_u1q G_u5q G_u109q) := qat (inferInstance : Inhabited qgP) (hs := qQR) (st := qsB G_u164q G_u1q G_u5q G_u109q) (L := []) (qdb G_u164q G_u1q G_u5q G_u109q hG) (qab (l := []) (by kernel_rfl) trivial) (qwg G_u164q G_u1q G_u5q G_u109q) (fun v => by kernel_rfl) (fun v => by kernel_rfl)
def qp3 (G_u164q : qbi) (G_u1q : qdy) (G_u5q : qdA) (G_u109q : qbg) (x0 x1 : Int) (x2 : List UInt8) (x3 : List AV) : DT qts :=
 .bi (qkM x0 x1 x2 x3) (fun y0 =>
 .bi (br y0 (br (sm (G_u1q x3)) (some !gv (G_u1q x3)) none) (some false)) (fun y1 =>
 .at (y1))
 (.no))
 (.no)
end
end Go.Proofs.H13

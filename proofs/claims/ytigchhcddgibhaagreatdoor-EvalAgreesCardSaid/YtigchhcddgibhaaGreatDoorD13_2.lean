/- Functions over plain data. Printed by a program of mine. -/
import Derived.Test.YtigchhcddgibhaaGreatDoorD13_1
import Derived.KernelRfl
set_option linter.unusedVariables false
set_option linter.unusedSimpArgs false
set_option linter.unnecessarySimpa false
namespace Go.Proofs.H13
open Go Go.Eng
set_option maxRecDepth 100000
noncomputable section
abbrev qTF : Type := Int × Int
def qWh : PArgs := ⟨[.int .u64, .int .u64, .int .u64], []⟩
def qXl : List PRes := [⟨false, .tup [.int .u64, .int .u64], []⟩]
def qqP (x0 x1 x2 : Int) : DT qTF :=
 .br (x2 == 0)
 (.no)
 (.br (decide (x2 ≤ x0))
 (.no)
 (.br (x0 == 0)
 (.br (decide (x2 ≠ 0))
 (.br (decide (x2 ≠ 0)) (.at ((IntKind.u64.wrap (x1.tdiv x2), x1.tmod x2))) (.no))
 (.no))
 (.br (qfH x2)
 (.br (decide (0 ≤ IntKind.u64.wrap (64 - ((Lib.bitLen x2.toNat) : Int))))
 (.br (decide (0 ≤ IntKind.u64.wrap (64 - ((Lib.bitLen x2.toNat) : Int))))
 (.br (decide (0 ≤ IntKind.u64.wrap (64 - IntKind.u64.wrap (64 - ((Lib.bitLen x2.toNat) : Int)))))
 (.br (decide (0 ≤ IntKind.u64.wrap (64 - ((Lib.bitLen x2.toNat) : Int))))
 (.br (decide ((IntKind.u64.wrap (x2 * 2 ^ min (IntKind.u64.wrap (64 - ((Lib.bitLen x2.toNat) : Int))).toNat 64)).fdiv (2 ^ 32) ≠ 0))
 (.bi (pj 0
 (qwJ
 (IntKind.u64.wrap (x2 * 2 ^ min (IntKind.u64.wrap (64 - ((Lib.bitLen x2.toNat) : Int))).toNat 64), IntKind.u64.wrap (64 - ((Lib.bitLen x2.toNat) : Int)),
 (IntKind.u64.wrap (x2 * 2 ^ min (IntKind.u64.wrap (64 - ((Lib.bitLen x2.toNat) : Int))).toNat 64)).fdiv (2 ^ 32),
 IntKind.u64.wrap
 ((BitVec.ofInt 64 (IntKind.u64.wrap (x2 * 2 ^ min (IntKind.u64.wrap (64 - ((Lib.bitLen x2.toNat) : Int))).toNat 64)) &&& BitVec.ofInt 64 4294967295).toNat : Int),
 IntKind.u64.wrap
 ((BitVec.ofInt 64 (IntKind.u64.wrap (x0 * 2 ^ min (IntKind.u64.wrap (64 - ((Lib.bitLen x2.toNat) : Int))).toNat 64)) |||
 BitVec.ofInt 64 (x1.fdiv (2 ^ min (IntKind.u64.wrap (64 - IntKind.u64.wrap (64 - ((Lib.bitLen x2.toNat) : Int)))).toNat 64))).toNat :
 Int),
 (IntKind.u64.wrap (x1 * 2 ^ min (IntKind.u64.wrap (64 - ((Lib.bitLen x2.toNat) : Int))).toNat 64)).fdiv (2 ^ 32),
 IntKind.u64.wrap
 ((BitVec.ofInt 64 (IntKind.u64.wrap (x1 * 2 ^ min (IntKind.u64.wrap (64 - ((Lib.bitLen x2.toNat) : Int))).toNat 64)) &&& BitVec.ofInt 64 4294967295).toNat : Int),
 IntKind.u64.wrap
 ((IntKind.u64.wrap
 ((BitVec.ofInt 64 (IntKind.u64.wrap (x0 * 2 ^ min (IntKind.u64.wrap (64 - ((Lib.bitLen x2.toNat) : Int))).toNat 64)) |||
 BitVec.ofInt 64 (x1.fdiv (2 ^ min (IntKind.u64.wrap (64 - IntKind.u64.wrap (64 - ((Lib.bitLen x2.toNat) : Int)))).toNat 64))).toNat :
 Int)).tdiv
 ((IntKind.u64.wrap (x2 * 2 ^ min (IntKind.u64.wrap (64 - ((Lib.bitLen x2.toNat) : Int))).toNat 64)).fdiv (2 ^ 32))),
 IntKind.u64.wrap
 (IntKind.u64.wrap
 ((BitVec.ofInt 64 (IntKind.u64.wrap (x0 * 2 ^ min (IntKind.u64.wrap (64 - ((Lib.bitLen x2.toNat) : Int))).toNat 64)) |||
 BitVec.ofInt 64 (x1.fdiv (2 ^ min (IntKind.u64.wrap (64 - IntKind.u64.wrap (64 - ((Lib.bitLen x2.toNat) : Int)))).toNat 64))).toNat :
 Int) -
 IntKind.u64.wrap
 (IntKind.u64.wrap
 ((IntKind.u64.wrap
 ((BitVec.ofInt 64 (IntKind.u64.wrap (x0 * 2 ^ min (IntKind.u64.wrap (64 - ((Lib.bitLen x2.toNat) : Int))).toNat 64)) |||
 BitVec.ofInt 64 (x1.fdiv (2 ^ min (IntKind.u64.wrap (64 - IntKind.u64.wrap (64 - ((Lib.bitLen x2.toNat) : Int)))).toNat 64))).toNat :
 Int)).tdiv
 ((IntKind.u64.wrap (x2 * 2 ^ min (IntKind.u64.wrap (64 - ((Lib.bitLen x2.toNat) : Int))).toNat 64)).fdiv (2 ^ 32))) *
 (IntKind.u64.wrap (x2 * 2 ^ min (IntKind.u64.wrap (64 - ((Lib.bitLen x2.toNat) : Int))).toNat 64)).fdiv (2 ^ 32)))))) (fun y0 =>
 .br (decide (y0.2.2.1 ≠ 0))
 (.bi (pj 0
 (qpj
 (y0.1, y0.2.1, y0.2.2.1, y0.2.2.2.1, y0.2.2.2.2.2.2.1, IntKind.u64.wrap (y0.2.2.2.2.2.2.2.1 - 1),
 IntKind.u64.wrap
 (IntKind.u64.wrap
 (IntKind.u64.wrap (IntKind.u64.wrap (y0.2.2.2.2.1 * 4294967296) + y0.2.2.2.2.2.1) -
 IntKind.u64.wrap (IntKind.u64.wrap (y0.2.2.2.2.2.2.2.1 - 1) * y0.1)) -
 IntKind.u64.wrap
 (IntKind.u64.wrap
 ((IntKind.u64.wrap
 (IntKind.u64.wrap (IntKind.u64.wrap (y0.2.2.2.2.1 * 4294967296) + y0.2.2.2.2.2.1) -
 IntKind.u64.wrap (IntKind.u64.wrap (y0.2.2.2.2.2.2.2.1 - 1) * y0.1))).tdiv
 y0.2.2.1) *
 y0.2.2.1)),
 IntKind.u64.wrap
 (IntKind.u64.wrap (IntKind.u64.wrap (y0.2.2.2.2.1 * 4294967296) + y0.2.2.2.2.2.1) -
 IntKind.u64.wrap (IntKind.u64.wrap (y0.2.2.2.2.2.2.2.1 - 1) * y0.1)),
 IntKind.u64.wrap
 ((IntKind.u64.wrap
 (IntKind.u64.wrap (IntKind.u64.wrap (y0.2.2.2.2.1 * 4294967296) + y0.2.2.2.2.2.1) -
 IntKind.u64.wrap (IntKind.u64.wrap (y0.2.2.2.2.2.2.2.1 - 1) * y0.1))).tdiv
 y0.2.2.1)))) (fun y1 =>
 .br (decide (0 ≤ y1.2.1))
 (.at ((IntKind.u64.wrap (IntKind.u64.wrap (y1.2.2.2.2.2.1 * 4294967296) + IntKind.u64.wrap (y1.2.2.2.2.2.2.2.2 - 1)), (IntKind.u64.wrap
 (IntKind.u64.wrap (IntKind.u64.wrap (y1.2.2.2.2.2.2.2.1 * 4294967296) + y1.2.2.2.2.1) -
 IntKind.u64.wrap (IntKind.u64.wrap (y1.2.2.2.2.2.2.2.2 - 1) * y1.1))).fdiv
 (2 ^ min y1.2.1.toNat 64))))
 (.no))
 (.bi (pj 1
 (qpj
 (y0.1, y0.2.1, y0.2.2.1, y0.2.2.2.1, y0.2.2.2.2.2.2.1, IntKind.u64.wrap (y0.2.2.2.2.2.2.2.1 - 1),
 IntKind.u64.wrap
 (IntKind.u64.wrap
 (IntKind.u64.wrap (IntKind.u64.wrap (y0.2.2.2.2.1 * 4294967296) + y0.2.2.2.2.2.1) -
 IntKind.u64.wrap (IntKind.u64.wrap (y0.2.2.2.2.2.2.2.1 - 1) * y0.1)) -
 IntKind.u64.wrap
 (IntKind.u64.wrap
 ((IntKind.u64.wrap
 (IntKind.u64.wrap (IntKind.u64.wrap (y0.2.2.2.2.1 * 4294967296) + y0.2.2.2.2.2.1) -
 IntKind.u64.wrap (IntKind.u64.wrap (y0.2.2.2.2.2.2.2.1 - 1) * y0.1))).tdiv
 y0.2.2.1) *
 y0.2.2.1)),
 IntKind.u64.wrap
 (IntKind.u64.wrap (IntKind.u64.wrap (y0.2.2.2.2.1 * 4294967296) + y0.2.2.2.2.2.1) -
 IntKind.u64.wrap (IntKind.u64.wrap (y0.2.2.2.2.2.2.2.1 - 1) * y0.1)),
 IntKind.u64.wrap
 ((IntKind.u64.wrap
 (IntKind.u64.wrap (IntKind.u64.wrap (y0.2.2.2.2.1 * 4294967296) + y0.2.2.2.2.2.1) -
 IntKind.u64.wrap (IntKind.u64.wrap (y0.2.2.2.2.2.2.2.1 - 1) * y0.1))).tdiv
 y0.2.2.1)))) (fun y1 =>
 .br (decide (0 ≤ y1.2.1))
 (.at ((IntKind.u64.wrap (IntKind.u64.wrap (y1.2.2.2.2.2.1 * 4294967296) + y1.2.2.2.2.2.2.2.2), (IntKind.u64.wrap
 (IntKind.u64.wrap (IntKind.u64.wrap (y1.2.2.2.2.2.2.2.1 * 4294967296) + y1.2.2.2.2.1) -
 IntKind.u64.wrap (y1.2.2.2.2.2.2.2.2 * y1.1))).fdiv
 (2 ^ min y1.2.1.toNat 64))))
 (.no))
 (.no)))
 (.no))
 (.bi (pj 1
 (qwJ
 (IntKind.u64.wrap (x2 * 2 ^ min (IntKind.u64.wrap (64 - ((Lib.bitLen x2.toNat) : Int))).toNat 64), IntKind.u64.wrap (64 - ((Lib.bitLen x2.toNat) : Int)),
 (IntKind.u64.wrap (x2 * 2 ^ min (IntKind.u64.wrap (64 - ((Lib.bitLen x2.toNat) : Int))).toNat 64)).fdiv (2 ^ 32),
 IntKind.u64.wrap
 ((BitVec.ofInt 64 (IntKind.u64.wrap (x2 * 2 ^ min (IntKind.u64.wrap (64 - ((Lib.bitLen x2.toNat) : Int))).toNat 64)) &&& BitVec.ofInt 64 4294967295).toNat : Int),
 IntKind.u64.wrap
 ((BitVec.ofInt 64 (IntKind.u64.wrap (x0 * 2 ^ min (IntKind.u64.wrap (64 - ((Lib.bitLen x2.toNat) : Int))).toNat 64)) |||
 BitVec.ofInt 64 (x1.fdiv (2 ^ min (IntKind.u64.wrap (64 - IntKind.u64.wrap (64 - ((Lib.bitLen x2.toNat) : Int)))).toNat 64))).toNat :
 Int),
 (IntKind.u64.wrap (x1 * 2 ^ min (IntKind.u64.wrap (64 - ((Lib.bitLen x2.toNat) : Int))).toNat 64)).fdiv (2 ^ 32),
 IntKind.u64.wrap
 ((BitVec.ofInt 64 (IntKind.u64.wrap (x1 * 2 ^ min (IntKind.u64.wrap (64 - ((Lib.bitLen x2.toNat) : Int))).toNat 64)) &&& BitVec.ofInt 64 4294967295).toNat : Int),
 IntKind.u64.wrap
 ((IntKind.u64.wrap
 ((BitVec.ofInt 64 (IntKind.u64.wrap (x0 * 2 ^ min (IntKind.u64.wrap (64 - ((Lib.bitLen x2.toNat) : Int))).toNat 64)) |||
 BitVec.ofInt 64 (x1.fdiv (2 ^ min (IntKind.u64.wrap (64 - IntKind.u64.wrap (64 - ((Lib.bitLen x2.toNat) : Int)))).toNat 64))).toNat :
 Int)).tdiv
 ((IntKind.u64.wrap (x2 * 2 ^ min (IntKind.u64.wrap (64 - ((Lib.bitLen x2.toNat) : Int))).toNat 64)).fdiv (2 ^ 32))),
 IntKind.u64.wrap
 (IntKind.u64.wrap
 ((BitVec.ofInt 64 (IntKind.u64.wrap (x0 * 2 ^ min (IntKind.u64.wrap (64 - ((Lib.bitLen x2.toNat) : Int))).toNat 64)) |||
 BitVec.ofInt 64 (x1.fdiv (2 ^ min (IntKind.u64.wrap (64 - IntKind.u64.wrap (64 - ((Lib.bitLen x2.toNat) : Int)))).toNat 64))).toNat :
 Int) -
 IntKind.u64.wrap
 (IntKind.u64.wrap
 ((IntKind.u64.wrap
 ((BitVec.ofInt 64 (IntKind.u64.wrap (x0 * 2 ^ min (IntKind.u64.wrap (64 - ((Lib.bitLen x2.toNat) : Int))).toNat 64)) |||
 BitVec.ofInt 64 (x1.fdiv (2 ^ min (IntKind.u64.wrap (64 - IntKind.u64.wrap (64 - ((Lib.bitLen x2.toNat) : Int)))).toNat 64))).toNat :
 Int)).tdiv
 ((IntKind.u64.wrap (x2 * 2 ^ min (IntKind.u64.wrap (64 - ((Lib.bitLen x2.toNat) : Int))).toNat 64)).fdiv (2 ^ 32))) *
 (IntKind.u64.wrap (x2 * 2 ^ min (IntKind.u64.wrap (64 - ((Lib.bitLen x2.toNat) : Int))).toNat 64)).fdiv (2 ^ 32)))))) (fun y0 =>
 .br (decide (y0.2.2.1 ≠ 0))
 (.bi (pj 0
 (qpj
 (y0.1, y0.2.1, y0.2.2.1, y0.2.2.2.1, y0.2.2.2.2.2.2.1, y0.2.2.2.2.2.2.2.1,
 IntKind.u64.wrap
 (IntKind.u64.wrap
 (IntKind.u64.wrap (IntKind.u64.wrap (y0.2.2.2.2.1 * 4294967296) + y0.2.2.2.2.2.1) -
 IntKind.u64.wrap (y0.2.2.2.2.2.2.2.1 * y0.1)) -
 IntKind.u64.wrap
 (IntKind.u64.wrap
 ((IntKind.u64.wrap
 (IntKind.u64.wrap (IntKind.u64.wrap (y0.2.2.2.2.1 * 4294967296) + y0.2.2.2.2.2.1) -
 IntKind.u64.wrap (y0.2.2.2.2.2.2.2.1 * y0.1))).tdiv
 y0.2.2.1) *
 y0.2.2.1)),
 IntKind.u64.wrap
 (IntKind.u64.wrap (IntKind.u64.wrap (y0.2.2.2.2.1 * 4294967296) + y0.2.2.2.2.2.1) - IntKind.u64.wrap (y0.2.2.2.2.2.2.2.1 * y0.1)),
 IntKind.u64.wrap
 ((IntKind.u64.wrap
 (IntKind.u64.wrap (IntKind.u64.wrap (y0.2.2.2.2.1 * 4294967296) + y0.2.2.2.2.2.1) -
 IntKind.u64.wrap (y0.2.2.2.2.2.2.2.1 * y0.1))).tdiv
 y0.2.2.1)))) (fun y1 =>
 .br (decide (0 ≤ y1.2.1))
 (.at ((IntKind.u64.wrap (IntKind.u64.wrap (y1.2.2.2.2.2.1 * 4294967296) + IntKind.u64.wrap (y1.2.2.2.2.2.2.2.2 - 1)), (IntKind.u64.wrap
 (IntKind.u64.wrap (IntKind.u64.wrap (y1.2.2.2.2.2.2.2.1 * 4294967296) + y1.2.2.2.2.1) -
 IntKind.u64.wrap (IntKind.u64.wrap (y1.2.2.2.2.2.2.2.2 - 1) * y1.1))).fdiv
 (2 ^ min y1.2.1.toNat 64))))
 (.no))
 (.bi (pj 1
 (qpj
 (y0.1, y0.2.1, y0.2.2.1, y0.2.2.2.1, y0.2.2.2.2.2.2.1, y0.2.2.2.2.2.2.2.1,
 IntKind.u64.wrap
 (IntKind.u64.wrap
 (IntKind.u64.wrap (IntKind.u64.wrap (y0.2.2.2.2.1 * 4294967296) + y0.2.2.2.2.2.1) -
 IntKind.u64.wrap (y0.2.2.2.2.2.2.2.1 * y0.1)) -
 IntKind.u64.wrap
 (IntKind.u64.wrap
 ((IntKind.u64.wrap
 (IntKind.u64.wrap (IntKind.u64.wrap (y0.2.2.2.2.1 * 4294967296) + y0.2.2.2.2.2.1) -
 IntKind.u64.wrap (y0.2.2.2.2.2.2.2.1 * y0.1))).tdiv
 y0.2.2.1) *
 y0.2.2.1)),
 IntKind.u64.wrap
 (IntKind.u64.wrap (IntKind.u64.wrap (y0.2.2.2.2.1 * 4294967296) + y0.2.2.2.2.2.1) - IntKind.u64.wrap (y0.2.2.2.2.2.2.2.1 * y0.1)),
 IntKind.u64.wrap
 ((IntKind.u64.wrap
 (IntKind.u64.wrap (IntKind.u64.wrap (y0.2.2.2.2.1 * 4294967296) + y0.2.2.2.2.2.1) -
 IntKind.u64.wrap (y0.2.2.2.2.2.2.2.1 * y0.1))).tdiv
 y0.2.2.1)))) (fun y1 =>
 .br (decide (0 ≤ y1.2.1))
 (.at ((IntKind.u64.wrap (IntKind.u64.wrap (y1.2.2.2.2.2.1 * 4294967296) + y1.2.2.2.2.2.2.2.2), (IntKind.u64.wrap
 (IntKind.u64.wrap (IntKind.u64.wrap (y1.2.2.2.2.2.2.2.1 * 4294967296) + y1.2.2.2.2.1) -
 IntKind.u64.wrap (y1.2.2.2.2.2.2.2.2 * y1.1))).fdiv
 (2 ^ min y1.2.1.toNat 64))))
 (.no))
 (.no)))
 (.no))
 (.no)))
 (.no))
 (.no))
 (.no))
 (.no))
 (.no))
 (.no))))
def qrM (x0 x1 x2 : Int) : Option qTF := qaz (qqP x0 x1 x2).ev
theorem qwn (x0 x1 x2 : Int) : qrM x0 x1 x2 = (qqP x0 x1 x2).ev := qaa _
theorem q3Q : FH IP 145 qWh qXl (k3 qrM) := qaf (F := qRe) (L := [(1014500, qK9), (1014501, qLa)]) (t := (k3 qqP)) qAv (qab (l := [qah qRe 0, qah qRe 1]) (by kernel_rfl) ⟨qay (by kernel_rfl) q51, qay (by kernel_rfl) q52, trivial⟩) (by kernel_rfl) (fun v => by kernel_rfl) (fun _ => qaa _)
def T20 : Tab := (145, FE qWh qXl (k3 qrM)) :: T19
theorem qUu : qaj IP T20 := ⟨qak q3Q, qAv⟩
abbrev qTC : Type := Int × Int × Int
def qWe : PArgs := ⟨[.agg [.int .u64, .int .u64], .int .u64], []⟩
def qXi : List PRes := [⟨false, .tup [.agg [.int .u64, .int .u64], .int .u64], []⟩]
def quZ (x0 x1 x2 : Int) : DT qTC :=
 .br (decide (x2 ≠ 0))
 (.bi (qrM (x0.tmod x2) x1 x2) (fun y0 =>
 .br (decide (x2 ≠ 0)) (.at ((IntKind.u64.wrap (x0.tdiv x2), y0.1, y0.2))) (.no))
 (.no))
 (.no)
def qwm (x0 x1 x2 : Int) : Option qTC := qaz (quZ x0 x1 x2).ev
theorem qJC (x0 x1 x2 : Int) : qwm x0 x1 x2 = (quZ x0 x1 x2).ev := qaa _
theorem q3O : FH IP 134 qWe qXi (k3 qwm) := qaf (F := q7x) (L := []) (t := (k3 quZ)) qUu (qab (l := []) (by kernel_rfl) trivial) (by kernel_rfl) (fun v => by kernel_rfl) (fun _ => qaa _)
def T21 : Tab := (134, FE qWe qXi (k3 qwm)) :: T20
theorem qUv : qaj IP T21 := ⟨qak q3O, qUu⟩
abbrev qTI : Type := Int × Int × Bool
def qWk : PArgs := ⟨[.agg [.int .u64, .int .u64], .int .u64, .int .u64], []⟩
def qXo : List PRes := [⟨false, .tup [.agg [.int .u64, .int .u64], .bool], []⟩]
def qu4 (x0 x1 : Int) (x2 x3 : Int) : DT qTI :=
 .br (qfH x1 && qfH x2)
 (.br (qfH x0 && qfH x2)
 (.br (qfH (x1 * x2 % 18446744073709551616) && qfH x3 && decide (0 ≤ 1))
 (.br (qfH (x0 * x2 % 18446744073709551616) && qfH (IntKind.u64.wrap (x1 * x2 / 18446744073709551616 + (x1 * x2 % 18446744073709551616 + x3 + 0) / 18446744073709551616)) &&
 decide (0 ≤ 1))
 (.bi (br (x0 * x2 / 18446744073709551616 == 0)
 (some
 ((x0 * x2 % 18446744073709551616 + IntKind.u64.wrap (x1 * x2 / 18446744073709551616 + (x1 * x2 % 18446744073709551616 + x3 + 0) / 18446744073709551616) + 0) /
 18446744073709551616 ==
 0))
 (some false)) (fun y0 =>
 .at (((x0 * x2 % 18446744073709551616 + IntKind.u64.wrap (x1 * x2 / 18446744073709551616 + (x1 * x2 % 18446744073709551616 + x3 + 0) / 18446744073709551616) + 0) % 18446744073709551616, (x1 * x2 % 18446744073709551616 + x3 + 0) % 18446744073709551616, y0)))
 (.no))
 (.no))
 (.no))
 (.no))
 (.no)
def qwo (x0 x1 : Int) (x2 x3 : Int) : Option qTI := qaz (qu4 x0 x1 x2 x3).ev
theorem qJH (x0 x1 : Int) (x2 x3 : Int) : qwo x0 x1 x2 x3 = (qu4 x0 x1 x2 x3).ev := qaa _
theorem q3T : FH IP 135 qWk qXo (k4 qwo) := qaf (F := q7y) (L := []) (t := (k4 qu4)) qUv (qab (l := []) (by kernel_rfl) trivial) (by kernel_rfl) (fun v => by kernel_rfl) (fun _ => qaa _)
def T22 : Tab := (135, FE qWk qXo (k4 qwo)) :: T21
theorem qUw : qaj IP T22 := ⟨qak q3T, qUv⟩
abbrev qTD : Type := Int × Int × Int
def qWf : PArgs := ⟨[.agg [.int .u64, .int .u64], .bool], []⟩
def qXj : List PRes := [⟨false, .tup [.agg [.int .i64, .int .u64], .int .i64], []⟩]
def qu0 (x0 x1 : Int) (x2 : Bool) : DT qTD :=
 .bi (br (decide (x0 > 9223372036854775808)) (some true) (br (x0 == 9223372036854775808) (br (!x2) (some true) (some (decide (x1 > 0)))) (some false))) (fun y0 =>
 .br (y0)
 (.at ((0, 0, 6)))
 (.br (x2)
 (.bi (qiz (IntKind.i64.wrap x0) x1) (fun y1 =>
 .at ((y1.1, y1.2, 0)))
 (.no))
 (.at ((IntKind.i64.wrap x0, x1, 0)))))
 (.no)
def qlw (x0 x1 : Int) (x2 : Bool) : Option qTD := qaz (qu0 x0 x1 x2).ev
theorem qJD (x0 x1 : Int) (x2 : Bool) : qlw x0 x1 x2 = (qu0 x0 x1 x2).ev := qaa _
theorem q3P : FH IP 136 qWf qXj (k3 qlw) := qaf (F := q7z) (L := []) (t := (k3 qu0)) qUw (qab (l := []) (by kernel_rfl) trivial) (by kernel_rfl) (fun v => by kernel_rfl) (fun _ => qaa _)
def T23 : Tab := (136, FE qWf qXj (k3 qlw)) :: T22
theorem qUx : qaj IP T23 := ⟨qak q3P, qUw⟩
abbrev qG2 : Type := Int × Int × Int × Int
def qM5 : PArgs := ⟨[.agg [.int .i64, .int .u64], .int .i64], []⟩
def qOH : List PRes := [⟨false, .tup [.agg [.int .i64, .int .u64], .int .i64, .int .i64], []⟩]
def qm9 (x0 x1 x2 : Int) : DT qG2 :=
 .br (decide (x2 < 1))
 (.at ((0, 0, 0, 1)))
 (.bi (qwv x0 x1) (fun y0 =>
 .bi (qwm y0.1 y0.2 (IntKind.u64.wrap x2)) (fun y1 =>
 .bi (br (decide (x0 < 0)) (some (decide (y1.2.2 > 0))) (some false)) (fun y2 =>
 .br (y2)
 (.bi (qwo y1.1 y1.2.1 1 1) (fun y3 =>
 .br (decide (x0 < 0))
 (.bi (qlw y3.1 y3.2.1 (if true = true then !(y3.1 == 0 && (y3.2.1 == 0 && true)) else y3.1 == 0 && (y3.2.1 == 0 && true))) (fun y4 =>
 .at ((y4.1, y4.2.1, IntKind.i64.wrap (IntKind.u64.wrap (IntKind.u64.wrap x2 - y1.2.2)), 0)))
 (.no))
 (.bi (qlw y3.1 y3.2.1 false) (fun y4 =>
 .at ((y4.1, y4.2.1, IntKind.i64.wrap (IntKind.u64.wrap (IntKind.u64.wrap x2 - y1.2.2)), 0)))
 (.no)))
 (.no))
 (.br (decide (x0 < 0))
 (.bi (qlw y1.1 y1.2.1 (if true = true then !(y1.1 == 0 && (y1.2.1 == 0 && true)) else y1.1 == 0 && (y1.2.1 == 0 && true))) (fun y3 =>
 .at ((y3.1, y3.2.1, IntKind.i64.wrap y1.2.2, 0)))
 (.no))
 (.bi (qlw y1.1 y1.2.1 false) (fun y3 =>
 .at ((y3.1, y3.2.1, IntKind.i64.wrap y1.2.2, 0)))
 (.no))))
 (.no))
 (.no))
 (.no))
def qoC (x0 x1 x2 : Int) : Option qG2 := qaz (qm9 x0 x1 x2).ev
theorem qEf (x0 x1 x2 : Int) : qoC x0 x1 x2 = (qm9 x0 x1 x2).ev := qaa _
theorem qZP : FH IP 119 qM5 qOH (k3 qoC) := qaf (F := q7n) (L := []) (t := (k3 qm9)) qUx (qab (l := []) (by kernel_rfl) trivial) (by kernel_rfl) (fun v => by kernel_rfl) (fun _ => qaa _)
def T24 : Tab := (119, FE qM5 qOH (k3 qoC)) :: T23
theorem qUy : qaj IP T24 := ⟨qak qZP, qUx⟩
abbrev qT4 : Type := Int
def qWJ : PArgs := ⟨[.agg [.int .i64, .int .u64], .int .i64, .int .i64, .int .i64], []⟩
def qXN : List PRes := [⟨false, .int .i64, []⟩]
def qvs (x0 x1 : Int) (x2 x3 x4 : Int) : DT qT4 :=
 .br (decide (x4 < 5))
 (.br (decide (x0 < 0)) (.no) (.no))
 (.br (decide (x2 > IntKind.i64.wrap (x3 - x2)))
 (.at (1))
 (.br (decide (x2 < IntKind.i64.wrap (x3 - x2)))
 (.at (0))
 (.br (x4 == 6)
 (.at (IntKind.i64.wrap (IntKind.u64.wrap ((BitVec.ofInt 64 x1 &&& BitVec.ofInt 64 1).toNat : Int))))
 (.br (decide (x0 < 0)) (.at (0)) (.at (1))))))
def qws (x0 x1 : Int) (x2 x3 x4 : Int) : Option qT4 := qaz (qvs x0 x1 x2 x3 x4).ev
theorem qJ5 (x0 x1 : Int) (x2 x3 x4 : Int) : qws x0 x1 x2 x3 x4 = (qvs x0 x1 x2 x3 x4).ev := qaa _
theorem q4g : FH IP 120 qWJ qXN (k5 qws) := qaf (F := q7o) (L := []) (t := (k5 qvs)) qUy (qab (l := []) (by kernel_rfl) trivial) (by kernel_rfl) (fun v => by kernel_rfl) (fun _ => qaa _)
def T25 : Tab := (120, FE qWJ qXN (k5 qws)) :: T24
theorem qUz : qaj IP T25 := ⟨qak q4g, qUy⟩
abbrev qTG : Type := Int × Int
def qWi : PArgs := ⟨[.agg [.int .i64, .int .u64], .int .i64, .int .i64], []⟩
def qXm : List PRes := [⟨false, .tup [.int .i64, .int .i64], []⟩]
def qu2 (x0 x1 : Int) (x2 x3 : Int) : DT qTG :=
 .bi (br (decide (x2 < 1)) (some true) (br (sm (qrO x3)) (some !gv (qrO x3)) none)) (fun y0 =>
 .br (y0)
 (.at ((0, 1)))
 (.bi (qoC x0 x1 x2) (fun y1 =>
 .br (decide (y1.2.2.1 > 0))
 (.bi (qws y1.1 y1.2.1 y1.2.2.1 x2 x3) (fun y2 =>
 .bi (qcP y2) (fun y3 =>
 .bi (qkx y1.1 y1.2.1 y3.1 y3.2) (fun y4 =>
 .bi (qiJ y4.1 y4.2.1) (fun y5 =>
 .br (!y5.2) (.at ((0, 6))) (.at ((y5.1, 0))))
 (.no))
 (.no))
 (.no))
 (.no))
 (.bi (qiJ y1.1 y1.2.1) (fun y2 =>
 .br (!y2.2) (.at ((0, 6))) (.at ((y2.1, 0))))
 (.no)))
 (.no)))
 (.no)
def qoN (x0 x1 : Int) (x2 x3 : Int) : Option qTG := qaz (qu2 x0 x1 x2 x3).ev
theorem qJF (x0 x1 : Int) (x2 x3 : Int) : qoN x0 x1 x2 x3 = (qu2 x0 x1 x2 x3).ev := qaa _
theorem q3R : FH IP 91 qWi qXm (k4 qoN) := qaf (F := F91) (L := []) (t := (k4 qu2)) qUz (qab (l := []) (by kernel_rfl) trivial) (by kernel_rfl) (fun v => by kernel_rfl) (fun _ => qaa _)
def T26 : Tab := (91, FE qWi qXm (k4 qoN)) :: T25
theorem qUA : qaj IP T26 := ⟨qak q3R, qUz⟩
abbrev qFW : Type := Int × Int
def qLW : PArgs := ⟨[.agg [.int .i64, .int .i64], .agg [.int .i64, .int .i64]], []⟩
def qNx : List PRes := [⟨false, .tup [.int .i64, .int .i64], []⟩]
def ql9 (x0 x1 : Int) (x2 x3 : Int) : DT qFW :=
 .bi (qoD x1 x3) (fun y0 =>
 .bi (br (x0 != x2) (some (x0 != 1)) (some false)) (fun y1 =>
 .bi (br y1 (some (x2 != 1)) (some false)) (fun y2 =>
 .br (y2)
 (.bi (qoN y0.1 y0.2 1000000 6) (fun y3 =>
 .at ((y3.1, y3.2)))
 (.no))
 (.bi (qgc y0.1 y0.2 0) (fun y3 =>
 .at ((y3.1, y3.2)))
 (.no)))
 (.no))
 (.no))
 (.no)
def qn8 (x0 x1 : Int) (x2 x3 : Int) : Option qFW := qaz (ql9 x0 x1 x2 x3).ev
theorem qDd (x0 x1 : Int) (x2 x3 : Int) : qn8 x0 x1 x2 x3 = (ql9 x0 x1 x2 x3).ev := qaa _
theorem qYv : FH IP 58 qLW qNx (k4 qn8) := qaf (F := F58) (L := []) (t := (k4 ql9)) qUA (qab (l := []) (by kernel_rfl) trivial) (by kernel_rfl) (fun v => by kernel_rfl) (fun _ => qaa _)
def T27 : Tab := (58, FE qLW qNx (k4 qn8)) :: T26
theorem qUB : qaj IP T27 := ⟨qak qYv, qUA⟩
abbrev qTY : Type := Int × Int
def qWD : PArgs := ⟨[.agg [.int .i64, .int .i64], .agg [.int .i64, .int .i64]], []⟩
def qXH : List PRes := [⟨false, .tup [.int .i64, .int .i64], []⟩]
def qvm (x0 x1 : Int) (x2 x3 : Int) : DT qTY :=
 .br (x0 == x2)
 (.bi (br (x1 == -9223372036854775808) (some (x3 == -1)) (some false)) (fun y0 =>
 .br (y0)
 (.at ((0, 6)))
 (.br (decide (x3 ≠ 0)) (.at ((IntKind.i64.wrap (x1.tdiv x3), 0))) (.no)))
 (.no))
 (.br (x3 == -9223372036854775808)
 (.at ((0, 0)))
 (.br (decide (x3 < 0))
 (.bi (qcP (IntKind.i64.wrap (0 - x1))) (fun y0 =>
 .bi (qoN y0.1 y0.2 (IntKind.i64.wrap (0 - x3)) 6) (fun y1 =>
 .at ((y1.1, y1.2)))
 (.no))
 (.no))
 (.bi (qcP x1) (fun y0 =>
 .bi (qoN y0.1 y0.2 x3 6) (fun y1 =>
 .at ((y1.1, y1.2)))
 (.no))
 (.no))))
def qwr (x0 x1 : Int) (x2 x3 : Int) : Option qTY := qaz (qvm x0 x1 x2 x3).ev
theorem qJZ (x0 x1 : Int) (x2 x3 : Int) : qwr x0 x1 x2 x3 = (qvm x0 x1 x2 x3).ev := qaa _
theorem q39 : FH IP 59 qWD qXH (k4 qwr) := qaf (F := F59) (L := []) (t := (k4 qvm)) qUB (qab (l := []) (by kernel_rfl) trivial) (by kernel_rfl) (fun v => by kernel_rfl) (fun _ => qaa _)
def T28 : Tab := (59, FE qWD qXH (k4 qwr)) :: T27
theorem qUC : qaj IP T28 := ⟨qak q39, qUB⟩
abbrev qTK : Type := Int × Int
def qWm : PArgs := ⟨[.int .i64, .view 2], []⟩
def qXq : List PRes := [⟨false, .tup [.int .i64, .int .i64], []⟩]
def qqQ (x0 : Int) (x1 : List AV) : DT qTK :=
 .br (qaB [CS.int IntKind.i64, CS.int IntKind.i64] x1 0)
 (.br (x0 == 9)
 (.bi (qcP 0) (fun y0 =>
 .bi (qcP (intOf (cellAt x1 0 1))) (fun y1 =>
 .bi (qky y0.1 y0.2 y1.1 y1.2) (fun y2 =>
 .bi (qgc y2.1 y2.2.1 y2.2.2) (fun y3 =>
 .at ((y3.1, y3.2)))
 (.no))
 (.no))
 (.no))
 (.no))
 (.br (qaB [CS.int IntKind.i64, CS.int IntKind.i64] x1 1)
 (.br (x0 == 5)
 (.bi (qcP (intOf (cellAt x1 0 1))) (fun y0 =>
 .bi (qcP (intOf (cellAt x1 1 1))) (fun y1 =>
 .bi (qkx y0.1 y0.2 y1.1 y1.2) (fun y2 =>
 .bi (qgc y2.1 y2.2.1 y2.2.2) (fun y3 =>
 .at ((y3.1, y3.2)))
 (.no))
 (.no))
 (.no))
 (.no))
 (.br (x0 == 6)
 (.bi (qcP (intOf (cellAt x1 0 1))) (fun y0 =>
 .bi (qcP (intOf (cellAt x1 1 1))) (fun y1 =>
 .bi (qky y0.1 y0.2 y1.1 y1.2) (fun y2 =>
 .bi (qgc y2.1 y2.2.1 y2.2.2) (fun y3 =>
 .at ((y3.1, y3.2)))
 (.no))
 (.no))
 (.no))
 (.no))
 (.br (x0 == 7)
 (.bi (qn8 (intOf (cellAt x1 0 0)) (intOf (cellAt x1 0 1)) (intOf (cellAt x1 1 0)) (intOf (cellAt x1 1 1))) (fun y0 =>
 .at ((y0.1, y0.2)))
 (.no))
 (.br (intOf (cellAt x1 1 1) == 0)
 (.at ((0, 7)))
 (.bi (qwr (intOf (cellAt x1 0 0)) (intOf (cellAt x1 0 1)) (intOf (cellAt x1 1 0)) (intOf (cellAt x1 1 1))) (fun y0 =>
 .at ((y0.1, y0.2)))
 (.no))))))
 (.no)))
 (.no)
def qeR (x0 : Int) (x1 : List AV) : Option qTK := qaz (qqQ x0 x1).ev
theorem qwp (x0 : Int) (x1 : List AV) : qeR x0 x1 = (qqQ x0 x1).ev := qaa _
theorem q3U : FH IP 25 qWm qXq (k2 qeR) := qaf (F := F25) (L := []) (t := (k2 qqQ)) qUC (qab (l := []) (by kernel_rfl) trivial) (by kernel_rfl) (fun v => by kernel_rfl) (fun _ => qaa _)
def T29 : Tab := (25, FE qWm qXq (k2 qeR)) :: T28
theorem qUD : qaj IP T29 := ⟨qak q3U, qUC⟩
abbrev qGo : Type := Int × Int × Int
def qMo : PArgs := ⟨[.int .i64, .view 2], []⟩
def qNZ : List PRes := [⟨false, .tup [.agg [.int .i64, .int .i64], .int .i64], []⟩]
def qj1 (x0 : Int) (x1 : List AV) : DT qGo :=
 .bi (pj 0 (qiU (Sum.inl (x0, x1, x1, (x1.length : Int), 0, 0, 0)))) (fun y0 =>
 .bi (qcZ (sl y0).1 []) (fun y1 =>
 .br (!y1.2)
 (.at ((0, 0, 3)))
 (.bi (pj 0 (qiV ((sl y0).1, (sl y0).2.1, y1.1, (sl y0).2.1, ((sl y0).2.1.length : Int), 0, (sl y0).2.2.2.2.2.1, (sl y0).2.2.2.2.2.2))) (fun y2 =>
 .at ((0, 0, 1)))
 (.bi (pj 1 (qiV ((sl y0).1, (sl y0).2.1, y1.1, (sl y0).2.1, ((sl y0).2.1.length : Int), 0, (sl y0).2.2.2.2.2.1, (sl y0).2.2.2.2.2.2))) (fun y2 =>
 .bi (br (decide (y2.1 < 5)) (some true) (some (decide (y2.1 > 9)))) (fun y3 =>
 .br (y3)
 (.bi (qek y2.1 y2.2.1) (fun y4 =>
 .at ((y2.2.2.1, y4, 0)))
 (.no))
 (.bi (qeR y2.1 y2.2.1) (fun y4 =>
 .bi (br (y4.2 == 0) (br (sm (qfc y2.2.2.1 y4.1)) (some !gv (qfc y2.2.2.1 y4.1)) none) (some false)) (fun y5 =>
 .br (y5)
 (.at ((0, 0, 6)))
 (.br (y4.2 != 0) (.at ((0, 0, y4.2))) (.at ((y2.2.2.1, y4.1, 0)))))
 (.no))
 (.no)))
 (.no))
 (.no))))
 (.no))
 (.bi (pj 1 (qiU (Sum.inl (x0, x1, x1, (x1.length : Int), 0, 0, 0)))) (fun y0 =>
 .bi (qcZ (sr y0).1 (sr y0).2.2.2.2.2.2.2) (fun y1 =>
 .br (!y1.2)
 (.at ((0, 0, 3)))
 (.bi (pj 0
 (qiV ((sr y0).1, (sr y0).2.1, y1.1, (sr y0).2.1, ((sr y0).2.1.length : Int), 0, (sr y0).2.2.2.2.2.1, (sr y0).2.2.2.2.2.2.1))) (fun y2 =>
 .at ((0, 0, 1)))
 (.bi (pj 1
 (qiV ((sr y0).1, (sr y0).2.1, y1.1, (sr y0).2.1, ((sr y0).2.1.length : Int), 0, (sr y0).2.2.2.2.2.1, (sr y0).2.2.2.2.2.2.1))) (fun y2 =>
 .bi (br (decide (y2.1 < 5)) (some true) (some (decide (y2.1 > 9)))) (fun y3 =>
 .br (y3)
 (.bi (qek y2.1 y2.2.1) (fun y4 =>
 .at ((y2.2.2.1, y4, 0)))
 (.no))
 (.bi (qeR y2.1 y2.2.1) (fun y4 =>
 .bi (br (y4.2 == 0) (br (sm (qfc y2.2.2.1 y4.1)) (some !gv (qfc y2.2.2.1 y4.1)) none) (some false)) (fun y5 =>
 .br (y5)
 (.at ((0, 0, 6)))
 (.br (y4.2 != 0) (.at ((0, 0, y4.2))) (.at ((y2.2.2.1, y4.1, 0)))))
 (.no))
 (.no)))
 (.no))
 (.no))))
 (.no))
 (.no))
def qaW (x0 : Int) (x1 : List AV) : Option qGo := qaz (qj1 x0 x1).ev
theorem qrE (x0 : Int) (x1 : List AV) : qaW x0 x1 = (qj1 x0 x1).ev := qaa _
theorem qYZ : FH IP 10 qMo qNZ (k2 qaW) := qaf (F := F10) (L := [(1001000, qBG), (1001001, qBH)]) (t := (k2 qj1)) qUD (qab (l := [qah F10 0, qah F10 1]) (by kernel_rfl) ⟨qay (by kernel_rfl) q08, qay (by kernel_rfl) q09, trivial⟩) (by kernel_rfl) (fun v => by kernel_rfl) (fun _ => qaa _)
def T30 : Tab := (10, FE qMo qNZ (k2 qaW)) :: T29
theorem qUE : qaj IP T30 := ⟨qak qYZ, qUD⟩
abbrev qyf : Type := Int
def qpA : PArgs := ⟨[.agg [.int .i64, .int .i64, .str, .view 4]], []⟩
def qpP : List PRes := [⟨false, .int .i64, []⟩]
abbrev qcD : Type := Int → Int → (List UInt8) → (List AV) → Option qyf
def qs1 (G_u162q : qcD) : Prop := FH IP 80 qpA qpP (k4 G_u162q)
def qRi (G_u162q : qcD) : Tab := (80, FE qpA qpP (k4 G_u162q)) :: T30
theorem qnx (G_u162q : qcD) (hG : qs1 G_u162q) : qaj IP (qRi G_u162q) := ⟨qak (hG), qUE⟩
abbrev qdW : Type := Int × List AV × Int × Int
def qA0 : List PSt := [⟨[(1008000, .junk), (3, .int .i64), (7, .view 4), (8, .int .i64), (9, .int .i64)], [], 0, 0⟩]
def qPQ (x0 : Int) (x1 : List AV) (x2 x3 : Int) : X × St := (X.exit 0, ⟨[(3, AV.int IntKind.i64 x0)], [], 0, 0⟩)
def q1L : List (qdW → X × St) := [(k4 qPQ)]
def qk5 (G_u162q : qcD) (x0 : Int) (x1 : List AV) (x2 x3 : Int) : DT (Rd qdW) :=
 .br (decide (x3 < x2))
 (.br (qaB [CS.int IntKind.i64, CS.int IntKind.i64, CS.str, CS.slice 4] x1 x3)
 (.bi (G_u162q (intOf (cellAt x1 x3 0)) (intOf (cellAt x1 x3 1)) (strOf (cellAt x1 x3 2)) (qal (cellAt x1 x3 3))) (fun y0 =>
 .at (.next ((IntKind.i64.wrap (x0 + y0), x1, x2, IntKind.i64.wrap (x3 + 1)))))
 (.no))
 (.no))
 (.at (.done 0))
def qjD (G_u162q : qcD) : qdW → DT (Rd qdW) := (fun v => qk5 G_u162q v.1 v.2.1 v.2.2.1 v.2.2.2)
def qtQ (G_u162q : qcD) (v : qdW) : Option (Nat × qdW) := qaz (qar (fun v => (qjD G_u162q v).ev) v)
theorem qsc (G_u162q : qcD) (v : qdW) : qtQ G_u162q v = qar (fun v => (qjD G_u162q v).ev) v := qaa _
def qBJ (G_u162q : qcD) : qcJ := LE (τ := qdW) (hD qA0) (qtQ G_u162q) q1L
theorem q1b (G_u162q : qcD) (hG : qs1 G_u162q) : Go.Eng.Told IP (qah F80 0).1 (qah F80 0).2 (qBJ G_u162q) := qax (inferInstance : Inhabited qdW) (hs := qA0) (st := qjD G_u162q) (L := []) (qnx G_u162q hG) (qab (l := []) (by kernel_rfl) trivial) (qsc G_u162q) (fun v => by kernel_rfl) (fun v => by kernel_rfl)
def quH (G_u162q : qcD) (x0 x1 : Int) (x2 : List UInt8) (x3 : List AV) : DT qyf :=
 .bi (pj 0 (qtQ G_u162q (1, x3, (x3.length : Int), 0))) (fun y0 =>
 .at (y0.1))
 (.no)
def qe2 : Nat → qcD
 | 0 => fun _ _ _ _ => none
 | n + 1 => fun x0 x1 x2 x3 => (quH ((qe2 n)) x0 x1 x2 x3).ev
def qtx (x0 x1 : Int) (x2 : List UInt8) (x3 : List AV) : Option qyf := qlO fun n => (qe2 n) x0 x1 x2 x3
theorem qrg : ∀ n, qs1 ((qe2 n))
 | 0 => (fun v y h => nomatch h)
 | n + 1 => have hG := qrg n
 qaf (F := F80) (L := [(1008000, qBJ ((qe2 n)))]) (t := (k4 (quH ((qe2 n))))) (qnx ((qe2 n)) hG) (qab (l := [qah F80 0]) (by kernel_rfl) ⟨qay (by kernel_rfl) (q1b ((qe2 n)) hG), trivial⟩) (by kernel_rfl) (fun v => by kernel_rfl) (fun v => rfl)
theorem qY3 : FH IP 80 qpA qpP (k4 qtx) := qcz (p := qpA) (rs := qpP) (s := fun n => (k4 ((qe2 n)))) fun n => (qrg n)
def T31 : Tab := (80, FE qpA qpP (k4 qtx)) :: T30
theorem qUF : qaj IP T31 := ⟨qak qY3, qUE⟩
abbrev qyg : Type := Int
def qpB : PArgs := ⟨[.agg [.int .i64, .int .i64, .str, .view 4]], []⟩
def qpQ : List PRes := [⟨false, .int .i64, []⟩]
abbrev qcE : Type := Int → Int → (List UInt8) → (List AV) → Option qyg
def qs2 (G_u163q : qcE) : Prop := FH IP 81 qpB qpQ (k4 G_u163q)
def qRj (G_u163q : qcE) : Tab := (81, FE qpB qpQ (k4 G_u163q)) :: T31
theorem qny (G_u163q : qcE) (hG : qs2 G_u163q) : qaj IP (qRj G_u163q) := ⟨qak (hG), qUF⟩
abbrev qdX : Type := Int × List AV × Int × Int
def qA1 : List PSt := [⟨[(1008100, .junk), (3, .int .i64), (7, .view 4), (8, .int .i64), (9, .int .i64)], [], 0, 0⟩]
def qPR (x0 : Int) (x1 : List AV) (x2 x3 : Int) : X × St := (X.exit 0, ⟨[(3, AV.int IntKind.i64 x0)], [], 0, 0⟩)
def q1M : List (qdX → X × St) := [(k4 qPR)]
def qk6 (G_u163q : qcE) (x0 : Int) (x1 : List AV) (x2 x3 : Int) : DT (Rd qdX) :=
 .br (decide (x3 < x2))
 (.br (qaB [CS.int IntKind.i64, CS.int IntKind.i64, CS.str, CS.slice 4] x1 x3)
 (.bi (G_u163q (intOf (cellAt x1 x3 0)) (intOf (cellAt x1 x3 1)) (strOf (cellAt x1 x3 2)) (qal (cellAt x1 x3 3))) (fun y0 =>
 .at (.next ((if y0 > x0 then y0 else x0, x1, x2, IntKind.i64.wrap (x3 + 1)))))
 (.no))
 (.no))
 (.at (.done 0))
def qjE (G_u163q : qcE) : qdX → DT (Rd qdX) := (fun v => qk6 G_u163q v.1 v.2.1 v.2.2.1 v.2.2.2)
def qtR (G_u163q : qcE) (v : qdX) : Option (Nat × qdX) := qaz (qar (fun v => (qjE G_u163q v).ev) v)
theorem qsd (G_u163q : qcE) (v : qdX) : qtR G_u163q v = qar (fun v => (qjE G_u163q v).ev) v := qaa _
def qBK (G_u163q : qcE) : qcJ := LE (τ := qdX) (hD qA1) (qtR G_u163q) q1M
theorem q1c (G_u163q : qcE) (hG : qs2 G_u163q) : Go.Eng.Told IP (qah F81 0).1 (qah F81 0).2 (qBK G_u163q) := qax (inferInstance : Inhabited qdX) (hs := qA1) (st := qjE G_u163q) (L := []) (qny G_u163q hG) (qab (l := []) (by kernel_rfl) trivial) (qsd G_u163q) (fun v => by kernel_rfl) (fun v => by kernel_rfl)
def quI (G_u163q : qcE) (x0 x1 : Int) (x2 : List UInt8) (x3 : List AV) : DT qyg :=
 .bi (pj 0 (qtR G_u163q (0, x3, (x3.length : Int), 0))) (fun y0 =>
 .at (IntKind.i64.wrap (y0.1 + 1)))
 (.no)
def qe3 : Nat → qcE
 | 0 => fun _ _ _ _ => none
 | n + 1 => fun x0 x1 x2 x3 => (quI ((qe3 n)) x0 x1 x2 x3).ev
def qoi (x0 x1 : Int) (x2 : List UInt8) (x3 : List AV) : Option qyg := qlO fun n => (qe3 n) x0 x1 x2 x3
theorem qrh : ∀ n, qs2 ((qe3 n))
 | 0 => (fun v y h => nomatch h)
 | n + 1 => have hG := qrh n
 qaf (F := F81) (L := [(1008100, qBK ((qe3 n)))]) (t := (k4 (quI ((qe3 n))))) (qny ((qe3 n)) hG) (qab (l := [qah F81 0]) (by kernel_rfl) ⟨qay (by kernel_rfl) (q1c ((qe3 n)) hG), trivial⟩) (by kernel_rfl) (fun v => by kernel_rfl) (fun v => rfl)
theorem qY4 : FH IP 81 qpB qpQ (k4 qoi) := qcz (p := qpB) (rs := qpQ) (s := fun n => (k4 ((qe3 n)))) fun n => (qrh n)
def T32 : Tab := (81, FE qpB qpQ (k4 qoi)) :: T31
theorem qUG : qaj IP T32 := ⟨qak qY4, qUF⟩
abbrev qT2 : Type := Int
def qWH : PArgs := ⟨[.int .i64], []⟩
def qXL : List PRes := [⟨false, .int .i64, []⟩]
def qvq (x0 : Int) : DT qT2 :=
 .br (x0 == 1)
 (.br (x0 == 1)
 (.at (0))
 (.br (x0 == 9)
 (.br (x0 == 9)
 (.at (1))
 (.br (x0 == 19)
 (.at (3))
 (.bi (br (decide (x0 ≥ 5)) (some (decide (x0 ≤ 18))) (some false)) (fun y0 =>
 .br (y0) (.at (2)) (.at (-1)))
 (.no))))
 (.br (x0 == 16)
 (.at (1))
 (.br (x0 == 19)
 (.at (3))
 (.bi (br (decide (x0 ≥ 5)) (some (decide (x0 ≤ 18))) (some false)) (fun y0 =>
 .br (y0) (.at (2)) (.at (-1)))
 (.no))))))
 (.br (x0 == 2)
 (.br (x0 == 2)
 (.at (0))
 (.br (x0 == 9)
 (.br (x0 == 9)
 (.at (1))
 (.br (x0 == 19)
 (.at (3))
 (.bi (br (decide (x0 ≥ 5)) (some (decide (x0 ≤ 18))) (some false)) (fun y0 =>
 .br (y0) (.at (2)) (.at (-1)))
 (.no))))
 (.br (x0 == 16)
 (.at (1))
 (.br (x0 == 19)
 (.at (3))
 (.bi (br (decide (x0 ≥ 5)) (some (decide (x0 ≤ 18))) (some false)) (fun y0 =>
 .br (y0) (.at (2)) (.at (-1)))
 (.no))))))
 (.br (x0 == 3)
 (.br (x0 == 3)
 (.at (0))
 (.br (x0 == 9)
 (.br (x0 == 9)
 (.at (1))
 (.br (x0 == 19)
 (.at (3))
 (.bi (br (decide (x0 ≥ 5)) (some (decide (x0 ≤ 18))) (some false)) (fun y0 =>
 .br (y0) (.at (2)) (.at (-1)))
 (.no))))
 (.br (x0 == 16)
 (.at (1))
 (.br (x0 == 19)
 (.at (3))
 (.bi (br (decide (x0 ≥ 5)) (some (decide (x0 ≤ 18))) (some false)) (fun y0 =>
 .br (y0) (.at (2)) (.at (-1)))
 (.no))))))
 (.br (x0 == 4)
 (.at (0))
 (.br (x0 == 9)
 (.br (x0 == 9)
 (.at (1))
 (.br (x0 == 19)
 (.at (3))
 (.bi (br (decide (x0 ≥ 5)) (some (decide (x0 ≤ 18))) (some false)) (fun y0 =>
 .br (y0) (.at (2)) (.at (-1)))
 (.no))))
 (.br (x0 == 16)
 (.at (1))
 (.br (x0 == 19)
 (.at (3))
 (.bi (br (decide (x0 ≥ 5)) (some (decide (x0 ≤ 18))) (some false)) (fun y0 =>
 .br (y0) (.at (2)) (.at (-1)))
 (.no))))))))
def qlx (x0 : Int) : Option qT2 := qaz (qvq x0).ev
theorem qJ3 (x0 : Int) : qlx x0 = (qvq x0).ev := qaa _
theorem q4e : FH IP 113 qWH qXL qlx := qaf (F := q7i) (L := []) (t := qvq) qUG (qab (l := []) (by kernel_rfl) trivial) (by kernel_rfl) (fun v => by kernel_rfl) (fun _ => qaa _)
def T33 : Tab := (113, FE qWH qXL qlx) :: T32
theorem qUH : qaj IP T33 := ⟨qak q4e, qUG⟩
abbrev qGa : Type := Bool
def qMa : PArgs := ⟨[.agg [.int .i64, .int .i64, .str, .view 4]], []⟩
def qNL : List PRes := [⟨false, .bool, []⟩]
def qml (x0 x1 : Int) (x2 : List UInt8) (x3 : List AV) : DT qGa :=
 .br (x0 == 1)
 (.bi (qlx x0) (fun y0 =>
 .br (y0 == (x3.length : Int))
 (.br (decide (x1 ≥ 0))
 (.br (decide (x1 ≤ 9223372036854775807))
 (.br (x2 == []) (.at (true)) (.at (x0 == 4)))
 (.at (false)))
 (.at (false)))
 (.at (false)))
 (.no))
 (.br (x0 == 2)
 (.bi (qlx x0) (fun y0 =>
 .br (y0 == (x3.length : Int))
 (.br (decide (x1 ≥ 0))
 (.br (decide (x1 ≤ 1000000000000))
 (.br (x2 == []) (.at (true)) (.at (x0 == 4)))
 (.at (false)))
 (.at (false)))
 (.at (false)))
 (.no))
 (.br (x0 == 3)
 (.bi (qlx x0) (fun y0 =>
 .br (y0 == (x3.length : Int))
 (.br (decide (x1 ≥ 0))
 (.br (decide (x1 ≤ 1000000))
 (.br (x2 == []) (.at (true)) (.at (x0 == 4)))
 (.at (false)))
 (.at (false)))
 (.at (false)))
 (.no))
 (.bi (qlx x0) (fun y0 =>
 .br (y0 == (x3.length : Int))
 (.br (decide (x1 ≥ 0))
 (.br (decide (x1 ≤ 0))
 (.br (x2 == []) (.at (true)) (.at (x0 == 4)))
 (.at (false)))
 (.at (false)))
 (.at (false)))
 (.no))))
def qod (x0 x1 : Int) (x2 : List UInt8) (x3 : List AV) : Option qGa := qaz (qml x0 x1 x2 x3).ev
theorem qDq (x0 x1 : Int) (x2 : List UInt8) (x3 : List AV) : qod x0 x1 x2 x3 = (qml x0 x1 x2 x3).ev := qaa _
theorem qYL : FH IP 83 qMa qNL (k4 qod) := qaf (F := F83) (L := []) (t := (k4 qml)) qUH (qab (l := []) (by kernel_rfl) trivial) (by kernel_rfl) (fun v => by kernel_rfl) (fun _ => qaa _)
def T34 : Tab := (83, FE qMa qNL (k4 qod)) :: T33
theorem qUI : qaj IP T34 := ⟨qak qYL, qUH⟩
abbrev qyh : Type := Bool
def qpC : PArgs := ⟨[.agg [.int .i64, .int .i64, .str, .view 4], .fn (.func 83) []], []⟩
def qpR : List PRes := [⟨false, .bool, []⟩]
abbrev qbS : Type := Int → Int → (List UInt8) → (List AV) → Option qyh
abbrev qYd : Type := Bool
def qMS : PArgs := ⟨[.view 4, .fn (.func 112) [.ptr [.fn (.func 83) []]]], []⟩
def qOu : List PRes := [⟨false, .bool, []⟩]
abbrev qeL : Type := (List AV) → Option qYd
abbrev qYf : Type := Int
def qNr : PArgs := ⟨[.view 4, .fn (.func 112) [.ptr [.fn (.func 83) []]]], []⟩
def qO3 : List PRes := [⟨false, .int .i64, []⟩]
abbrev qeN : Type := (List AV) → Option qYf
abbrev qyd : Type := Bool
def qpy : PArgs := ⟨[.agg [.int .i64, .int .i64, .str, .view 4], .ptr [.fn (.func 83) []]], []⟩
def qpN : List PRes := [⟨false, .bool, []⟩]
abbrev qbQ : Type := Int → Int → (List UInt8) → (List AV) → Option qyd
def qs3 (G_u164q : qbS) (G_u1q : qeL) (G_u5q : qeN) (G_u109q : qbQ) : Prop := FH IP 82 qpC qpR (k4 G_u164q) ∧ FH IP 111 qMS qOu G_u1q ∧ FH IP 131 qNr qO3 G_u5q ∧ FH IP 112 qpy qpN (k4 G_u109q)
def qRk (G_u164q : qbS) (G_u1q : qeL) (G_u5q : qeN) (G_u109q : qbQ) : Tab := (82, FE qpC qpR (k4 G_u164q)) :: (111, FE qMS qOu G_u1q) :: (131, FE qNr qO3 G_u5q) :: (112, FE qpy qpN (k4 G_u109q)) :: T34
theorem qeg (G_u164q : qbS) (G_u1q : qeL) (G_u5q : qeN) (G_u109q : qbQ) (hG : qs3 G_u164q G_u1q G_u5q G_u109q) : qaj IP (qRk G_u164q G_u1q G_u5q G_u109q) := ⟨qak (hG.1), qak (hG.2.1), qak (hG.2.2.1), qak (hG.2.2.2), qUI⟩
abbrev qjd : Type := List AV × Int × Int
def qVM : List PSt := [⟨[(1013100, .junk), (0, .view 4), (1, .fn (.func 112) [.ptr [.fn (.func 83) []]]), (7, .int .i64), (8, .int .i64)], [], 0, 0⟩]
def q2i (x0 : List AV) (x1 x2 : Int) : X × St := (X.ret, ⟨[(4, AV.int IntKind.i64 x2)], [], 0, 0⟩)
def q2j (x0 : List AV) (x1 x2 : Int) : X × St := (X.exit 0, ⟨[(4, AV.junk)], [], 0, 0⟩)
def zaA : List (qjd → X × St) := [(k3 q2i), (k3 q2j)]
def quu (G_u164q : qbS) (G_u1q : qeL) (G_u5q : qeN) (G_u109q : qbQ) (x0 : List AV) (x1 x2 : Int) : DT (Rd qjd) :=
 .br (decide (x2 < x1))
 (.br (qaB [CS.int IntKind.i64, CS.int IntKind.i64, CS.str, CS.slice 4] x0 x2)
 (.bi (G_u109q (intOf (cellAt x0 x2 0)) (intOf (cellAt x0 x2 1)) (strOf (cellAt x0 x2 2)) (qal (cellAt x0 x2 3))) (fun y0 =>
 .br (y0) (.at (.done 0)) (.at (.next ((x0, x1, IntKind.i64.wrap (x2 + 1))))))
 (.no))
 (.no))
 (.at (.done 1))
def qxL (G_u164q : qbS) (G_u1q : qeL) (G_u5q : qeN) (G_u109q : qbQ) : qjd → DT (Rd qjd) := (fun v => quu G_u164q G_u1q G_u5q G_u109q v.1 v.2.1 v.2.2)
def qKZ (G_u164q : qbS) (G_u1q : qeL) (G_u5q : qeN) (G_u109q : qbQ) (v : qjd) : Option (Nat × qjd) := qaz (qar (fun v => (qxL G_u164q G_u1q G_u5q G_u109q v).ev) v)
theorem qBu (G_u164q : qbS) (G_u1q : qeL) (G_u5q : qeN) (G_u109q : qbQ) (v : qjd) : qKZ G_u164q G_u1q G_u5q G_u109q v = qar (fun v => (qxL G_u164q G_u1q G_u5q G_u109q v).ev) v := qaa _
def qVT (G_u164q : qbS) (G_u1q : qeL) (G_u5q : qeN) (G_u109q : qbQ) : qcJ := LE (τ := qjd) (hD qVM) (qKZ G_u164q G_u1q G_u5q G_u109q) zaA
theorem zar (G_u164q : qbS) (G_u1q : qeL) (G_u5q : qeN) (G_u109q : qbQ) (hG : qs3 G_u164q G_u1q G_u5q G_u109q) : Go.Eng.Told IP (qah qQ8 0).1 (qah qQ8 0).2 (qVT G_u164q G_u1q G_u5q G_u109q) := qax (inferInstance : Inhabited qjd) (hs := qVM) (st := qxL G_u164q G_u1q G_u5q G_u109q) (L := []) (qeg G_u164q G_u1q G_u5q G_u109q hG) (qab (l := []) (by kernel_rfl) trivial) (qBu G_u164q G_u1q G_u5q G_u109q) (fun v => by kernel_rfl) (fun v => by kernel_rfl)
def quJ (G_u164q : qbS) (G_u1q : qeL) (G_u5q : qeN) (G_u109q : qbQ) (x0 x1 : Int) (x2 : List UInt8) (x3 : List AV) : DT qyh :=
 .bi (qod x0 x1 x2 x3) (fun y0 =>
 .bi (br y0 (br (sm (G_u1q x3)) (some !gv (G_u1q x3)) none) (some false)) (fun y1 =>
 .at (y1))
 (.no))
 (.no)
end
end Go.Proofs.H13

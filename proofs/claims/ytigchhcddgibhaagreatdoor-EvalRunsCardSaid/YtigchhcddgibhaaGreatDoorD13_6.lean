/- Functions over plain data. Printed by a program of mine. -/
import Derived.Test.YtigchhcddgibhaaGreatDoorD13_5
import Derived.KernelRfl
namespace Go.Proofs.H13
open Go Go.Eng
set_option maxRecDepth 100000
noncomputable section
abbrev qOC : Type := List AV × Int × Bool × Bool × Int × List AV × List AV × Int × List AV × List AV
def qRs : PArgs := ⟨[.ref 0 0 0, .int .i64], [(0, .box [.int .i64, .view 2, .view 3, .own 1 0, .int .i64, .own 2 0] false), (1, .arr 2 false), (2, .arr 1 false)]⟩
def qSv : List PRes := [⟨false, .tup [.view 1, .int .i64, .bool, .bool], [(0, .box [.int .i64, .view 2, .view 3, .own 1 0, .int .i64, .own 2 0] false), (1, .arr 2 false), (2, .arr 1 false)]⟩]
def qqh (x0 x1 : Int) (x2 x3 : List AV) (x4 : Int) (x5 x6 : List AV) : DT qOC :=
 .br (qay [.int .i64, .int .i64, .int .i64] x3 x0)
 (.br (inB x5.length x0)
 (.br (okP [.slice 1] x5 x0.toNat 1)
 (.bi (br (intOf (cellAt x3 x0 0) != 1) (some (intOf (cellAt x3 x0 2) != 0)) (some false)) (fun y0 =>
 .br (y0)
 (.at (([], -1, false, false, x1, x2, x3, x4, x5, x6)))
 (.br (intOf (cellAt x3 x0 0) == 1)
 (.br (decide ((qaj (qaz x5 x0.toNat 1)).length = 0))
 (.bi (qnX (intOf (cellAt x3 x0 0)) (intOf (cellAt x3 x0 1)) (intOf (cellAt x3 x0 2))) (fun y1 =>
 .at (([.int .i64 (intOf (cellAt x3 x0 1))], -1, true, y1, x1, x2, x3, x4, x5, x6)))
 (.no))
 (.br (decide ((qaj (qaz x5 x0.toNat 1)).length ≠ 0) && decide ((qaj (qaz x5 x0.toNat 1)).length * 8 <= lim))
 (.br (room ((qaj (qaz x5 x0.toNat 1)).length + 1) 8)
 (.bi (qnX (intOf (cellAt x3 x0 0)) (intOf (cellAt x3 x0 1)) (intOf (cellAt x3 x0 2))) (fun y1 =>
 .at ((qaj (qaz x5 x0.toNat 1) ++ [AV.int IntKind.i64 (intOf (cellAt x3 x0 1))], -1, true, y1, x1, x2, x3, x4, x5, x6)))
 (.no))
 (.no))
 (.no)))
 (.br (intOf (cellAt x3 x0 0) == 2)
 (.br (decide (intOf (cellAt x3 x0 1) < 0))
 (.at (([], -1, false, false, x1, x2, x3, x4, x5, x6)))
 (.br (decide (intOf (cellAt x3 x0 1) >= (x2.length : Int)))
 (.at (([], -1, false, false, x1, x2, x3, x4, x5, x6)))
 (.br (decide ((qaj (qaz x5 x0.toNat 1)).length = 0))
 (.br (qay [.str, .int .i64] x2 (intOf (cellAt x3 x0 1)))
 (.at (([.int .i64 (intOf (cellAt x2 (intOf (cellAt x3 x0 1)) 1))], -1, true, true, x1, x2, x3, x4, x5, x6)))
 (.no))
 (.br (decide ((qaj (qaz x5 x0.toNat 1)).length ≠ 0) && decide ((qaj (qaz x5 x0.toNat 1)).length * 8 <= lim))
 (.br (qay [.str, .int .i64] x2 (intOf (cellAt x3 x0 1)))
 (.br (room ((qaj (qaz x5 x0.toNat 1)).length + 1) 8)
 (.at ((qaj (qaz x5 x0.toNat 1) ++ [AV.int IntKind.i64 (intOf (cellAt x2 (intOf (cellAt x3 x0 1)) 1))], -1, true, true, x1, x2, x3, x4, x5, x6)))
 (.no))
 (.no))
 (.no)))))
 (.br (intOf (cellAt x3 x0 0) == 3)
 (.bi (qrO (intOf (cellAt x3 x0 1)) (qaj (qaz x5 x0.toNat 1))) (fun y1 =>
 .at ((y1.1, -1, true, y1.2, x1, x2, x3, x4, x5, x6)))
 (.no))
 (.br (intOf (cellAt x3 x0 0) == 4)
 (.br (decide (intOf (cellAt x3 x0 1) > x0))
 (.at ((qaj (qaz x5 x0.toNat 1), intOf (cellAt x3 x0 1), false, decide (intOf (cellAt x3 x0 1) <= (x3.length : Int)), x1, x2, x3, x4, x5, x6)))
 (.at ((qaj (qaz x5 x0.toNat 1), intOf (cellAt x3 x0 1), false, false, x1, x2, x3, x4, x5, x6))))
 (.br (intOf (cellAt x3 x0 0) == 5)
 (.bi (br (((qaj (qaz x5 x0.toNat 1)).length : Int) == 0) (some true)
 (br (qay [.int .i64] (qaj (qaz x5 x0.toNat 1)) (IntKind.i64.wrap (((qaj (qaz x5 x0.toNat 1)).length : Int) - 1)))
 (some (intOf (cellAt (qaj (qaz x5 x0.toNat 1)) (IntKind.i64.wrap (((qaj (qaz x5 x0.toNat 1)).length : Int) - 1)) 0) != 5)) none)) (fun y1 =>
 .br (y1)
 (.at (([], -1, false, false, x1, x2, x3, x4, x5, x6)))
 (.br (leB (IntKind.i64.wrap (((qaj (qaz x5 x0.toNat 1)).length : Int) - 1)) (qaj (qaz x5 x0.toNat 1)).length && true)
 (.br (decide (intOf (cellAt x3 x0 1) > x0))
 (.at ((List.take (IntKind.i64.wrap (((qaj (qaz x5 x0.toNat 1)).length : Int) - 1)).toNat (qaj (qaz x5 x0.toNat 1)), intOf (cellAt x3 x0 1), true, decide (intOf (cellAt x3 x0 1) <= (x3.length : Int)), x1, x2, x3, x4, x5, x6)))
 (.at ((List.take (IntKind.i64.wrap (((qaj (qaz x5 x0.toNat 1)).length : Int) - 1)).toNat (qaj (qaz x5 x0.toNat 1)), intOf (cellAt x3 x0 1), true, false, x1, x2, x3, x4, x5, x6))))
 (.no)))
 (.no))
 (.at (([], -1, false, false, x1, x2, x3, x4, x5, x6)))))))))
 (.no))
 (.no))
 (.no))
 (.no)
def qaS (x0 x1 : Int) (x2 x3 : List AV) (x4 : Int) (x5 x6 : List AV) : Option qOC := qav (qqh x0 x1 x2 x3 x4 x5 x6).ev
theorem qD2 (x0 x1 x2 x3 x4 x5 x6) : qaS x0 x1 x2 x3 x4 x5 x6 = (qqh x0 x1 x2 x3 x4 x5 x6).ev := qaa _
theorem qZ6 : FH IP 129 qRs qSv (k7 qaS) := fh q5w (k7 qqh) qQi
def T92 : Tab := (129, FE qRs qSv (k7 qaS)) :: T91
theorem qDs : qai IP T92 := ⟨qah qZ6, qQi⟩
abbrev qdO : Type := Int × Int × Int × Int × List AV × List AV × Int × List AV × List AV
def qE5 : List PSt := [⟨[(1010700, .junk), (0, .ref 0 0 0), (3, .int .i64), (29, .int .i64), (30, .int .i64)], [(0, .box [.int .i64, .view 2, .view 3, .own 1 0, .int .i64, .own 2 0] false), (1, .arr 2 false), (2, .arr 1 false)], 3, 1⟩]
def qNM (x0 x1 : Int) (x2 x3 : Int) (x4 x5 : List AV) (x6 : Int) (x7 x8 : List AV) : X × St := (.ret,
 ⟨[(0, .ref 0 0 0), (2, .int .i64 9), (3, .int .i64 x0)], [(0, .box [.int .i64 x3, .view 2 x4, .view 3 x5, .own 1 0 none, .int .i64 x6, .own 2 0 none] false), (1, .arr 2 x7 false),
 (2, .arr 1 x8 false)], 3, 1⟩)
def qNN (x0 x1 : Int) (x2 x3 : Int) (x4 x5 : List AV) (x6 : Int) (x7 x8 : List AV) : X × St := (.ret,
 ⟨[(0, .ref 0 0 0), (2, .int .i64 9), (3, .int .i64 x0)], [(0,
 .box
 [.int .i64 (gv (qaS x2 x3 x4 x5 x6 x7 x8)).2.2.2.2.1,
 .view 2 (gv (qaS x2 x3 x4 x5 x6 x7 x8)).2.2.2.2.2.1,
 .view 3 (gv (qaS x2 x3 x4 x5 x6 x7 x8)).2.2.2.2.2.2.1, .own 1 0 none,
 .int .i64 (gv (qaS x2 x3 x4 x5 x6 x7 x8)).2.2.2.2.2.2.2.1, .own 2 0 none]
 false),
 (1, .arr 2 (gv (qaS x2 x3 x4 x5 x6 x7 x8)).2.2.2.2.2.2.2.2.1 false),
 (2, .arr 1 (gv (qaS x2 x3 x4 x5 x6 x7 x8)).2.2.2.2.2.2.2.2.2 false)], 3, 1⟩)
def qNO (x0 x1 : Int) (x2 x3 : Int) (x4 x5 : List AV) (x6 : Int) (x7 x8 : List AV) : X × St := (.ret,
 ⟨[(0, .ref 0 0 0), (2, .int .i64 5), (3, .int .i64 x0)], [(0,
 .box
 [.int .i64 (gv (qaS x2 x3 x4 x5 x6 x7 x8)).2.2.2.2.1,
 .view 2 (gv (qaS x2 x3 x4 x5 x6 x7 x8)).2.2.2.2.2.1,
 .view 3 (gv (qaS x2 x3 x4 x5 x6 x7 x8)).2.2.2.2.2.2.1, .own 1 0 none,
 .int .i64 (gv (qaS x2 x3 x4 x5 x6 x7 x8)).2.2.2.2.2.2.2.1, .own 2 0 none]
 false),
 (1, .arr 2 (gv (qaS x2 x3 x4 x5 x6 x7 x8)).2.2.2.2.2.2.2.2.1 false),
 (2, .arr 1 (gv (qaS x2 x3 x4 x5 x6 x7 x8)).2.2.2.2.2.2.2.2.2 false)], 3, 1⟩)
def qNP (x0 x1 : Int) (x2 x3 : Int) (x4 x5 : List AV) (x6 : Int) (x7 x8 : List AV) : X × St := (.exit 0,
 ⟨[(0, .ref 0 0 0), (2, .junk), (3, .int .i64 x0)], [(0, .box [.int .i64 x3, .view 2 x4, .view 3 x5, .own 1 0 none, .int .i64 x6, .own 2 0 none] false), (1, .arr 2 x7 false),
 (2, .arr 1 x8 false)], 3, 1⟩)
def q3y : List (qdO -> X × St) := [(k9 qNM), (k9 qNN), (k9 qNO), (k9 qNP)]
def qdp (x0 x1 : Int) (x2 x3 : Int) (x4 x5 : List AV) (x6 : Int) (x7 x8 : List AV) : DT (Rd qdO) :=
 .br (decide (x2 < x1))
 (.br (inB x7.length x2)
 (.br (okP [.bool] x7 x2.toNat 0)
 (.bi (br (!qbH (qaz x7 x2.toNat 0)) (some true) (br (inB x8.length x2) (br (okP [.bool] x8 x2.toNat 0) (some (qbH (qaz x8 x2.toNat 0))) none) none)) (fun y0 =>
 .br (y0)
 (.at (.done 0))
 (.bi (qaS x2 x3 x4 x5 x6 x7 x8) (fun y1 =>
 .br (!y1.2.2.2.1)
 (.at (.done 1))
 (.br (decide ((y1.1.length : Int) > 16))
 (.at (.done 2))
 (.br (decide (y1.2.1 >= 0))
 (.bi (qgU y1.2.1 y1.1 y1.2.2.2.2.1 y1.2.2.2.2.2.1 y1.2.2.2.2.2.2.1
 (if (y1.1.length : Int) > y1.2.2.2.2.2.2.2.1 then (y1.1.length : Int) else y1.2.2.2.2.2.2.2.1) y1.2.2.2.2.2.2.2.2.1
 y1.2.2.2.2.2.2.2.2.2) (fun y2 =>
 .br (y1.2.2.1)
 (.bi (qgU (IntKind.i64.wrap (x2 + 1)) y1.1 y2.1 y2.2.1 y2.2.2.1 y2.2.2.2.1 y2.2.2.2.2.1 y2.2.2.2.2.2) (fun y3 =>
 .at (.next ((x0, x1, IntKind.i64.wrap (x2 + 1), y3.1, y3.2.1, y3.2.2.1, y3.2.2.2.1, y3.2.2.2.2.1, y3.2.2.2.2.2))))
 (.no))
 (.at (.next ((x0, x1, IntKind.i64.wrap (x2 + 1), y2.1, y2.2.1, y2.2.2.1, y2.2.2.2.1, y2.2.2.2.2.1, y2.2.2.2.2.2)))))
 (.no))
 (.br (y1.2.2.1)
 (.bi (qgU (IntKind.i64.wrap (x2 + 1)) y1.1 y1.2.2.2.2.1 y1.2.2.2.2.2.1 y1.2.2.2.2.2.2.1
 (if (y1.1.length : Int) > y1.2.2.2.2.2.2.2.1 then (y1.1.length : Int) else y1.2.2.2.2.2.2.2.1) y1.2.2.2.2.2.2.2.2.1
 y1.2.2.2.2.2.2.2.2.2) (fun y2 =>
 .at (.next ((x0, x1, IntKind.i64.wrap (x2 + 1), y2.1, y2.2.1, y2.2.2.1, y2.2.2.2.1, y2.2.2.2.2.1, y2.2.2.2.2.2))))
 (.no))
 (.at (.next ((x0, x1, IntKind.i64.wrap (x2 + 1), y1.2.2.2.2.1, y1.2.2.2.2.2.1, y1.2.2.2.2.2.2.1, if (y1.1.length : Int) > y1.2.2.2.2.2.2.2.1 then (y1.1.length : Int) else y1.2.2.2.2.2.2.2.1, y1.2.2.2.2.2.2.2.2.1, y1.2.2.2.2.2.2.2.2.2))))))))
 (.no)))
 (.no))
 (.no))
 (.no))
 (.at (.done 3))
def qdV : qdO -> DT (Rd qdO) := (fun v => qdp v.1 v.2.1 v.2.2.1 v.2.2.2.1 v.2.2.2.2.1 v.2.2.2.2.2.1 v.2.2.2.2.2.2.1 v.2.2.2.2.2.2.2.1 v.2.2.2.2.2.2.2.2)
def qiI (v : qdO) : Option (Nat × qdO) := qav (qaq (fun v => (qdV v).ev) v)
theorem qd6 (v) : qiI v = qaq (fun v => (qdV v).ev) v := qaa _
def qFx : qb3 := LE (τ := qdO) (hD qE5) (qiI) q3y
theorem q2X : Go.Eng.Told IP (qaf qYx 0).1 (qaf qYx 0).2 (qFx) := lp (inferInstance : Inhabited qdO) (hs := qE5) qdV qDs qd6
abbrev qOD : Type := Int × Int × List AV × List AV × Int × List AV × List AV
def qRt : PArgs := ⟨[.ref 0 0 0], [(0, .box [.int .i64, .view 2, .view 3, .nils 2, .int .i64, .nils 1] false)]⟩
def qSw : List PRes := [⟨false, .int .i64, [(0, .box [.int .i64, .view 2, .view 3, .own 1 0, .int .i64, .own 2 0] false), (1, .arr 2 false), (2, .arr 1 false)]⟩]
def qqi (x0 : Int) (x1 x2 : List AV) (x3 : Int) : DT qOD :=
 .br (decide (0 <= IntKind.i64.wrap ((x2.length : Int) + 1)) && decide (IntKind.i64.wrap ((x2.length : Int) + 1) <= IntKind.i64.wrap ((x2.length : Int) + 1)) &&
 room (IntKind.i64.wrap ((x2.length : Int) + 1)).toNat 32 &&
 decide (IntKind.i64.wrap ((x2.length : Int) + 1) <= 4611686018427387904))
 (.br (decide (0 <= IntKind.i64.wrap ((x2.length : Int) + 1)) && decide (IntKind.i64.wrap ((x2.length : Int) + 1) <= IntKind.i64.wrap ((x2.length : Int) + 1)) &&
 room (IntKind.i64.wrap ((x2.length : Int) + 1)).toNat 1 &&
 decide (IntKind.i64.wrap ((x2.length : Int) + 1) <= 4611686018427387904))
 (.bi (qgU 0 [] x0 x1 x2 x3 (List.replicate (IntKind.i64.wrap ((x2.length : Int) + 1)).toNat (AV.agg [AV.bool false, AV.view 1 []]))
 (List.replicate (IntKind.i64.wrap ((x2.length : Int) + 1)).toNat (AV.bool false))) (fun y0 =>
 .bi (pj 0 (qiI ((x2.length : Int), (x2.length : Int), 0, y0.1, y0.2.1, y0.2.2.1, y0.2.2.2.1, y0.2.2.2.2.1, y0.2.2.2.2.2))) (fun y1 =>
 .at ((9, y1.2.2.2.1, y1.2.2.2.2.1, y1.2.2.2.2.2.1, y1.2.2.2.2.2.2.1, y1.2.2.2.2.2.2.2.1, y1.2.2.2.2.2.2.2.2)))
 (.bi (pj 1 (qiI ((x2.length : Int), (x2.length : Int), 0, y0.1, y0.2.1, y0.2.2.1, y0.2.2.2.1, y0.2.2.2.2.1, y0.2.2.2.2.2))) (fun y1 =>
 .at ((9, (gv
 (qaS y1.2.2.1 y1.2.2.2.1 y1.2.2.2.2.1 y1.2.2.2.2.2.1 y1.2.2.2.2.2.2.1
 y1.2.2.2.2.2.2.2.1 y1.2.2.2.2.2.2.2.2)).2.2.2.2.1, (gv
 (qaS y1.2.2.1 y1.2.2.2.1 y1.2.2.2.2.1 y1.2.2.2.2.2.1 y1.2.2.2.2.2.2.1
 y1.2.2.2.2.2.2.2.1 y1.2.2.2.2.2.2.2.2)).2.2.2.2.2.1, (gv
 (qaS y1.2.2.1 y1.2.2.2.1 y1.2.2.2.2.1 y1.2.2.2.2.2.1 y1.2.2.2.2.2.2.1
 y1.2.2.2.2.2.2.2.1 y1.2.2.2.2.2.2.2.2)).2.2.2.2.2.2.1, (gv
 (qaS y1.2.2.1 y1.2.2.2.1 y1.2.2.2.2.1 y1.2.2.2.2.2.1 y1.2.2.2.2.2.2.1
 y1.2.2.2.2.2.2.2.1 y1.2.2.2.2.2.2.2.2)).2.2.2.2.2.2.2.1, (gv
 (qaS y1.2.2.1 y1.2.2.2.1 y1.2.2.2.2.1 y1.2.2.2.2.2.1 y1.2.2.2.2.2.2.1
 y1.2.2.2.2.2.2.2.1 y1.2.2.2.2.2.2.2.2)).2.2.2.2.2.2.2.2.1, (gv
 (qaS y1.2.2.1 y1.2.2.2.1 y1.2.2.2.2.1 y1.2.2.2.2.2.1 y1.2.2.2.2.2.2.1
 y1.2.2.2.2.2.2.2.1 y1.2.2.2.2.2.2.2.2)).2.2.2.2.2.2.2.2.2)))
 (.bi (pj 2 (qiI ((x2.length : Int), (x2.length : Int), 0, y0.1, y0.2.1, y0.2.2.1, y0.2.2.2.1, y0.2.2.2.2.1, y0.2.2.2.2.2))) (fun y1 =>
 .at ((5, (gv
 (qaS y1.2.2.1 y1.2.2.2.1 y1.2.2.2.2.1 y1.2.2.2.2.2.1 y1.2.2.2.2.2.2.1
 y1.2.2.2.2.2.2.2.1 y1.2.2.2.2.2.2.2.2)).2.2.2.2.1, (gv
 (qaS y1.2.2.1 y1.2.2.2.1 y1.2.2.2.2.1 y1.2.2.2.2.2.1 y1.2.2.2.2.2.2.1
 y1.2.2.2.2.2.2.2.1 y1.2.2.2.2.2.2.2.2)).2.2.2.2.2.1, (gv
 (qaS y1.2.2.1 y1.2.2.2.1 y1.2.2.2.2.1 y1.2.2.2.2.2.1 y1.2.2.2.2.2.2.1
 y1.2.2.2.2.2.2.2.1 y1.2.2.2.2.2.2.2.2)).2.2.2.2.2.2.1, (gv
 (qaS y1.2.2.1 y1.2.2.2.1 y1.2.2.2.2.1 y1.2.2.2.2.2.1 y1.2.2.2.2.2.2.1
 y1.2.2.2.2.2.2.2.1 y1.2.2.2.2.2.2.2.2)).2.2.2.2.2.2.2.1, (gv
 (qaS y1.2.2.1 y1.2.2.2.1 y1.2.2.2.2.1 y1.2.2.2.2.2.1 y1.2.2.2.2.2.2.1
 y1.2.2.2.2.2.2.2.1 y1.2.2.2.2.2.2.2.2)).2.2.2.2.2.2.2.2.1, (gv
 (qaS y1.2.2.1 y1.2.2.2.1 y1.2.2.2.2.1 y1.2.2.2.2.2.1 y1.2.2.2.2.2.2.1
 y1.2.2.2.2.2.2.2.1 y1.2.2.2.2.2.2.2.2)).2.2.2.2.2.2.2.2.2)))
 (.bi (pj 3 (qiI ((x2.length : Int), (x2.length : Int), 0, y0.1, y0.2.1, y0.2.2.1, y0.2.2.2.1, y0.2.2.2.2.1, y0.2.2.2.2.2))) (fun y1 =>
 .br (inB y1.2.2.2.2.2.2.2.1.length y1.1)
 (.br (okP [.bool] y1.2.2.2.2.2.2.2.1 y1.1.toNat 0)
 (.br (!qbH (qaz y1.2.2.2.2.2.2.2.1 y1.1.toNat 0))
 (.at ((9, y1.2.2.2.1, y1.2.2.2.2.1, y1.2.2.2.2.2.1, y1.2.2.2.2.2.2.1, y1.2.2.2.2.2.2.2.1, y1.2.2.2.2.2.2.2.2)))
 (.br (inB y1.2.2.2.2.2.2.2.2.length y1.1)
 (.br (okP [.bool] y1.2.2.2.2.2.2.2.2 y1.1.toNat 0)
 (.br (qbH (qaz y1.2.2.2.2.2.2.2.2 y1.1.toNat 0))
 (.at ((9, y1.2.2.2.1, y1.2.2.2.2.1, y1.2.2.2.2.2.1, y1.2.2.2.2.2.2.1, y1.2.2.2.2.2.2.2.1, y1.2.2.2.2.2.2.2.2)))
 (.br (inB y1.2.2.2.2.2.2.2.1.length y1.1)
 (.br (okP [.slice 1] y1.2.2.2.2.2.2.2.1 y1.1.toNat 1)
 (.br (((qaj (qaz y1.2.2.2.2.2.2.2.1 y1.1.toNat 1)).length : Int) != 1)
 (.at ((9, y1.2.2.2.1, y1.2.2.2.2.1, y1.2.2.2.2.2.1, y1.2.2.2.2.2.2.1, y1.2.2.2.2.2.2.2.1, y1.2.2.2.2.2.2.2.2)))
 (.br (inB y1.2.2.2.2.2.2.2.1.length y1.1)
 (.br (okP [.slice 1] y1.2.2.2.2.2.2.2.1 y1.1.toNat 1)
 (.br (qay [.int .i64] (qaj (qaz y1.2.2.2.2.2.2.2.1 y1.1.toNat 1)) 0)
 (.br (intOf (cellAt (qaj (qaz y1.2.2.2.2.2.2.2.1 y1.1.toNat 1)) 0 0) != y1.2.2.2.1)
 (.at ((9, y1.2.2.2.1, y1.2.2.2.2.1, y1.2.2.2.2.2.1, y1.2.2.2.2.2.2.1, y1.2.2.2.2.2.2.2.1, y1.2.2.2.2.2.2.2.2)))
 (.at ((0, y1.2.2.2.1, y1.2.2.2.2.1, y1.2.2.2.2.2.1, y1.2.2.2.2.2.2.1, y1.2.2.2.2.2.2.2.1, y1.2.2.2.2.2.2.2.2))))
 (.no))
 (.no))
 (.no)))
 (.no))
 (.no)))
 (.no))
 (.no)))
 (.no))
 (.no))
 (.no)))))
 (.no))
 (.no))
 (.no)
def qrz (x0 : Int) (x1 x2 : List AV) (x3 : Int) : Option qOD := qav (qqi x0 x1 x2 x3).ev
theorem qD3 (x0 x1 x2 x3) : qrz x0 x1 x2 x3 = (qqi x0 x1 x2 x3).ev := qaa _
theorem qZ7 : FH IP 107 qRt qSw (k4 qrz) := qae (F := qYx) (L := [(1010700, qFx)]) (t := (k4 qqi)) qDs (qab (l := [qaf qYx 0]) (by kernel_rfl) ⟨qau (by kernel_rfl) q2X, trivial⟩) (by kernel_rfl) (fun v => by kernel_rfl) (fun _ => qaa _)
def T93 : Tab := (107, FE qRt qSw (k4 qrz)) :: T92
theorem qQj : qai IP T93 := ⟨qah qZ7, qDs⟩
abbrev qPl : Type := Int × Int
def qSf : PArgs := ⟨[.agg [.int .i64, .view 2, .view 3]], []⟩
def qTi : List PRes := [⟨false, .tup [.int .i64, .int .i64], []⟩]
def qq2 (x0 : Int) (x1 x2 : List AV) : DT qPl :=
 .br (decide ((x2.length : Int) > 128))
 (.at ((0, 5)))
 (.bi (qhJ x1) (fun y0 =>
 .br (y0 != 0)
 (.at ((0, y0)))
 (.bi (qrz x0 x1 x2 0) (fun y1 =>
 .br (y1.1 != 0) (.at ((0, y1.1))) (.at ((y1.2.2.2.2.1, 0))))
 (.no)))
 (.no))
def qrN (x0 : Int) (x1 x2 : List AV) : Option qPl := qav (qq2 x0 x1 x2).ev
theorem qEN (x0 x1 x2) : qrN x0 x1 x2 = (qq2 x0 x1 x2).ev := qaa _
theorem q0P : FH IP 75 qSf qTi (k3 qrN) := fh F75 (k3 qq2) qQj
def T94 : Tab := (75, FE qSf qTi (k3 qrN)) :: T93
theorem qQk : qai IP T94 := ⟨qah q0P, qQj⟩
abbrev qOS : Type := Int
def qRJ : PArgs := ⟨[.agg [.int .i64, .view 2, .view 3]], []⟩
def qSM : List PRes := [⟨false, .int .i64, []⟩]
def qqw (x0 : Int) (x1 x2 : List AV) : DT qOS :=
 .bi (qrN x0 x1 x2) (fun y0 =>
 .at (y0.2))
 (.no)
def qnW (x0 : Int) (x1 x2 : List AV) : Option qOS := qav (qqw x0 x1 x2).ev
theorem qEh (x0 x1 x2) : qnW x0 x1 x2 = (qqw x0 x1 x2).ev := qaa _
theorem q0j : FH IP 42 qRJ qSM (k3 qnW) := fh F42 (k3 qqw) qQk
def T95 : Tab := (42, FE qRJ qSM (k3 qnW)) :: T94
theorem qQl : qai IP T95 := ⟨qah q0j, qQk⟩
abbrev qBY : Type := (Int × Int) ⊕ (Int) ⊕ (Int) ⊕ (Int) ⊕ (Int)
def qHt : PArgs := ⟨[.agg [.int .i64, .int .i64, .int .i64]], []⟩
def qI4 : List PRes := [⟨false, .iface 108 (.agg [.int .i64, .int .i64]), []⟩, ⟨false, .iface 110 (.agg [.int .i64]), []⟩, ⟨false, .iface 112 (.agg [.int .i64]), []⟩, ⟨false, .iface 114 (.agg [.int .i64]), []⟩, ⟨false, .iface 115 (.agg [.int .i64]), []⟩]
def qdI (x0 x1 x2 : Int) : DT qBY :=
 .br (x0 == 1)
 (.at ((.inl (x1, x2))))
 (.br (x0 == 2)
 (.at ((.inr (.inl (x1)))))
 (.br (x0 == 3)
 (.at ((.inr (.inr (.inl (x1))))))
 (.br (x0 == 4) (.at ((.inr (.inr (.inr (.inl (x1))))))) (.at ((.inr (.inr (.inr (.inr (x1))))))))))
def qad (x0 x1 x2 : Int) : Option qBY := qav (qdI x0 x1 x2).ev
theorem qd3 (x0 x1 x2) : qad x0 x1 x2 = (qdI x0 x1 x2).ev := qaa _
theorem qVK : FH IP 43 qHt qI4 (k3 qad) := fh F43 (k3 qdI) qQl
def T96 : Tab := (43, FE qHt qI4 (k3 qad)) :: T95
theorem qQm : qai IP T96 := ⟨qah qVK, qQl⟩
abbrev qAG : Type := Int × List AV × Int × List AV
def qF7 : PArgs := ⟨[.agg [.int .i64, .int .i64], .ref 0 0 0], [(0, .box [.view 2, .nils 2, .int .i64] false)]⟩
def qHI : List PRes := [⟨false, .int .i64, [(0, .box [.view 2, .own 1 0, .int .i64] false), (1, .arr 2 false)]⟩]
def qi3 (x0 x1 : Int) (x2 : List AV) (x3 : Int) : DT qAG :=
 .at ((0, x2, x3, [AV.agg [.int .i64 x0, .int .i64 x1]]))
def qdR (x0 x1 : Int) (x2 : List AV) (x3 : Int) : Option qAG := qav (qi3 x0 x1 x2 x3).ev
theorem qxF (x0 x1 x2 x3) : qdR x0 x1 x2 x3 = (qi3 x0 x1 x2 x3).ev := qaa _
theorem qUc : FH IP 227 qF7 qHI (k4 qdR) := fh qZq (k4 qi3) qQm
def T97 : Tab := (227, FE qF7 qHI (k4 qdR)) :: T96
theorem qQn : qai IP T97 := ⟨qah qUc, qQm⟩
abbrev qAE : Type := Int × List AV × Int × List AV
def qF5 : PArgs := ⟨[.agg [.int .i64], .ref 0 0 0], [(0, .box [.view 2, .nils 2, .int .i64] false)]⟩
def qHG : List PRes := [⟨false, .int .i64, [(0, .box [.view 2, .own 1 0, .int .i64] false), (1, .arr 2 false)]⟩]
def qi1 (x0 : Int) (x1 : List AV) (x2 : Int) : DT qAE :=
 .br (qay [.int .i64, .int .i64] x1 x0)
 (.at ((0, x1, x2, [AV.agg [.int .i64 (intOf (cellAt x1 x0 0)), .int .i64 (intOf (cellAt x1 x0 1))]])))
 (.no)
def qdQ (x0 : Int) (x1 : List AV) (x2 : Int) : Option qAE := qav (qi1 x0 x1 x2).ev
theorem qxD (x0 x1 x2) : qdQ x0 x1 x2 = (qi1 x0 x1 x2).ev := qaa _
theorem qUa : FH IP 228 qF5 qHG (k3 qdQ) := fh qZr (k3 qi1) qQn
def T98 : Tab := (228, FE qF5 qHG (k3 qdQ)) :: T97
theorem qQo : qai IP T98 := ⟨qah qUa, qQn⟩
abbrev qAD : Type := Int × List AV × Int
def qF4 : PArgs := ⟨[.agg [.int .i64], .ref 0 0 0], [(0, .box [.view 2, .nils 2, .int .i64] false)]⟩
def qHF : List PRes := [⟨false, .int .i64, [(0, .box [.view 2, .nils 2, .int .i64] false)]⟩]
def qiZ (x0 : Int) (x1 : List AV) (x2 : Int) : DT qAD :=
 .at ((0, x1, x0))
def qeD (x0 : Int) (x1 : List AV) (x2 : Int) : Option qAD := qav (qiZ x0 x1 x2).ev
theorem qxC (x0 x1 x2) : qeD x0 x1 x2 = (qiZ x0 x1 x2).ev := qaa _
theorem qT9 : FH IP 230 qF4 qHF (k3 qeD) := fh qZs (k3 qiZ) qQo
def T99 : Tab := (230, FE qF4 qHF (k3 qeD)) :: T98
theorem qQp : qai IP T99 := ⟨qah qT9, qQo⟩
abbrev qOY : Type := Int × List AV × Int × List AV
def qRR : PArgs := ⟨[.agg [.int .i64, .int .i64], .ref 0 0 0], [(0, .box [.view 2, .own 1 0, .int .i64] false), (1, .arr 2 false)]⟩
def qSU : List PRes := [⟨false, .int .i64, [(0, .box [.view 2, .own 2 0, .int .i64] false), (2, .arr 2 false)]⟩]
def qqE (x0 x1 : Int) (x2 : List AV) (x3 : Int) (x4 : List AV) : DT qOY :=
 .br (room (x4.length + 1) 16) (.at ((0, x2, x3, x4 ++ [AV.agg [.int .i64 x0, .int .i64 x1]]))) (.no)
def qf7 (x0 x1 : Int) (x2 : List AV) (x3 : Int) (x4 : List AV) : Option qOY := qav (qqE x0 x1 x2 x3 x4).ev
theorem qEp (x0 x1 x2 x3 x4) : qf7 x0 x1 x2 x3 x4 = (qqE x0 x1 x2 x3 x4).ev := qaa _
theorem q0r : FH IP 227 qRR qSU (k5 qf7) := fh qZq (k5 qqE) qQp
def q8Q : Tab := (227, FE qRR qSU (k5 qf7)) :: T99
theorem qCd : qai IP q8Q := ⟨qah q0r, qQp⟩
abbrev qOW : Type := Int × List AV × Int × List AV
def qRN : PArgs := ⟨[.agg [.int .i64], .ref 0 0 0], [(0, .box [.view 2, .own 1 0, .int .i64] false), (1, .arr 2 false)]⟩
def qSQ : List PRes := [⟨false, .int .i64, [(0, .box [.view 2, .own 2 0, .int .i64] false), (2, .arr 2 false)]⟩]
def qqA (x0 : Int) (x1 : List AV) (x2 : Int) (x3 : List AV) : DT qOW :=
 .br (qay [.int .i64, .int .i64] x1 x0)
 (.br (room (x3.length + 1) 16) (.at ((0, x1, x2, x3 ++ [AV.agg [.int .i64 (intOf (cellAt x1 x0 0)), .int .i64 (intOf (cellAt x1 x0 1))]]))) (.no))
 (.no)
def qf6 (x0 : Int) (x1 : List AV) (x2 : Int) (x3 : List AV) : Option qOW := qav (qqA x0 x1 x2 x3).ev
theorem qEl (x0 x1 x2 x3) : qf6 x0 x1 x2 x3 = (qqA x0 x1 x2 x3).ev := qaa _
theorem q0n : FH IP 228 qRN qSQ (k4 qf6) := fh qZr (k4 qqA) qCd
def q8R : Tab := (228, FE qRN qSQ (k4 qf6)) :: q8Q
theorem qCe : qai IP q8R := ⟨qah q0n, qCd⟩
abbrev qB7 : Type := (Int × List AV × Int × List AV) ⊕ (Int × List AV × Nat × Int × List AV) ⊕ (Int × List AV × Int × List AV)
def qRP : PArgs := ⟨[.agg [.int .i64], .ref 0 0 0], [(0, .box [.view 2, .own 1 0, .int .i64] false), (1, .arr 2 false)]⟩
def qSS : List PRes := [⟨false, .int .i64, [(0, .box [.view 2, .own 1 0, .int .i64] false), (1, .arr 2 false)]⟩, ⟨false, .int .i64, [(0, .box [.view 2, .ownn 1 0, .int .i64] false), (1, .arr 2 false)]⟩, ⟨false, .int .i64, [(0, .box [.view 2, .own 2 0, .int .i64] false), (2, .arr 2 false)]⟩]
def qY8 (x0 : Int) (x1 : List AV) (x2 : Int) (x3 : List AV) (m : Int) : DT qB7 :=
 (.br (leB m x3.length && true)
 (.bi (qaH x0 (qf2 x3 (0 + m.toNat))) (fun y1 =>
 .br (y1.2.2 != 0)
 (.at ((.inl (y1.2.2, x1, x2, x3))))
 (.br (leB m x3.length && true && decide (0 + m.toNat <= x3.length))
 (.br (decide (0 + (m.toNat - 0) + 1 <= x3.length) && decide (2 = 2))
 (.at ((.inr (.inl (0, x1, m.toNat - 0 + 1, x2, List.take (0 + (m.toNat - 0)) x3 ++ [AV.agg [.int .i64 y1.1, .int .i64 y1.2.1]] ++
 List.drop (0 + (m.toNat - 0) + 1) x3)))))
 (.br (decide (x3.length < 0 + (m.toNat - 0) + 1) &&
 (decide (0 + (m.toNat - 0) <= x3.length) && room (m.toNat - 0 + 1) 16))
 (.at ((.inr (.inr (0, x1, x2, List.take (m.toNat - 0) x3 ++ [AV.agg [.int .i64 y1.1, .int .i64 y1.2.1]])))))
 (.no)))
 (.no)))
 (.no))
 (.no))
def qqC (x0 : Int) (x1 : List AV) (x2 : Int) (x3 : List AV) : DT qB7 :=
 .bi (br (x0 == 9) (some true) (some (x0 == 16))) (fun y0 =>
 .br (y0)
 ((qY8 x0 x1 x2 x3 (IntKind.i64.wrap ((x3.length : Int) - 1))))
 ((qY8 x0 x1 x2 x3 (IntKind.i64.wrap ((x3.length : Int) - 2)))))
 (.no)
def qbm (x0 : Int) (x1 : List AV) (x2 : Int) (x3 : List AV) : Option qB7 := qav (qqC x0 x1 x2 x3).ev
theorem qEn (x0 x1 x2 x3) : qbm x0 x1 x2 x3 = (qqC x0 x1 x2 x3).ev := qaa _
theorem q0p : FH IP 229 qRP qSS (k4 qbm) := fh q3Z (k4 qqC) qCe
def q8S : Tab := (229, FE qRP qSS (k4 qbm)) :: q8R
theorem qCf : qai IP q8S := ⟨qah q0p, qCe⟩
abbrev qOU : Type := Int × List AV × Int × List AV
def qRL : PArgs := ⟨[.agg [.int .i64], .ref 0 0 0], [(0, .box [.view 2, .own 1 0, .int .i64] false), (1, .arr 2 false)]⟩
def qSO : List PRes := [⟨false, .int .i64, [(0, .box [.view 2, .own 1 0, .int .i64] false), (1, .arr 2 false)]⟩]
def qqy (x0 : Int) (x1 : List AV) (x2 : Int) (x3 : List AV) : DT qOU :=
 .at ((0, x1, x0, x3))
def qf5 (x0 : Int) (x1 : List AV) (x2 : Int) (x3 : List AV) : Option qOU := qav (qqy x0 x1 x2 x3).ev
theorem qEj (x0 x1 x2 x3) : qf5 x0 x1 x2 x3 = (qqy x0 x1 x2 x3).ev := qaa _
theorem q0l : FH IP 230 qRL qSO (k4 qf5) := fh qZs (k4 qqy) qCf
def q8T : Tab := (230, FE qRL qSO (k4 qf5)) :: q8S
theorem qCg : qai IP q8T := ⟨qah q0l, qCf⟩
abbrev qO1 : Type := Int × List AV × Nat × Int × List AV
def qRU : PArgs := ⟨[.agg [.int .i64], .ref 0 0 0], [(0, .box [.view 2, .own 1 0, .int .i64] false), (1, .arr 2 false)]⟩
def qSX : List PRes := [⟨false, .int .i64, [(0, .box [.view 2, .ownn 1 0, .int .i64] false), (1, .arr 2 false)]⟩]
def qqH (x0 : Int) (x1 : List AV) (x2 : Int) (x3 : List AV) : DT qO1 :=
 .br (inB x3.length (IntKind.i64.wrap ((x3.length : Int) - 1)))
 (.br (okP [.int .i64] x3 (IntKind.i64.wrap ((x3.length : Int) - 1)).toNat 1)
 (.br (intOf (qaz x3 (IntKind.i64.wrap ((x3.length : Int) - 1)).toNat 1) == 0)
 (.br (leB (IntKind.i64.wrap ((x3.length : Int) - 1)) x3.length && true && decide (0 + (IntKind.i64.wrap ((x3.length : Int) - 1)).toNat <= x3.length))
 (.at ((0, x1, (IntKind.i64.wrap ((x3.length : Int) - 1)).toNat - 0, x0, x3)))
 (.no))
 (.br (leB (IntKind.i64.wrap ((x3.length : Int) - 1)) x3.length && true && decide (0 + (IntKind.i64.wrap ((x3.length : Int) - 1)).toNat <= x3.length))
 (.at ((0, x1, (IntKind.i64.wrap ((x3.length : Int) - 1)).toNat - 0, x2, x3)))
 (.no)))
 (.no))
 (.no)
def qff (x0 : Int) (x1 : List AV) (x2 : Int) (x3 : List AV) : Option qO1 := qav (qqH x0 x1 x2 x3).ev
theorem qEs (x0 x1 x2 x3) : qff x0 x1 x2 x3 = (qqH x0 x1 x2 x3).ev := qaa _
theorem q0u : FH IP 231 qRU qSX (k4 qff) := fh q30 (k4 qqH) qCg
def q8U : Tab := (231, FE qRU qSX (k4 qff)) :: q8T
theorem qCh : qai IP q8U := ⟨qah q0u, qCg⟩
abbrev qOZ : Type := (Int × List AV × Nat × Int × List AV) ⊕ (Int × List AV × Int × List AV)
def qRS : PArgs := ⟨[.agg [.int .i64, .int .i64], .ref 0 0 0], [(0, .box [.view 2, .ownn 1 0, .int .i64] false), (1, .arr 2 false)]⟩
def qSV : List PRes := [⟨false, .int .i64, [(0, .box [.view 2, .ownn 1 0, .int .i64] false), (1, .arr 2 false)]⟩, ⟨false, .int .i64, [(0, .box [.view 2, .own 2 0, .int .i64] false), (2, .arr 2 false)]⟩]
def qqF (x0 x1 : Int) (x2 : List AV) (x3 : Nat) (x4 : Int) (x5 : List AV) : DT qOZ :=
 .br (decide (0 + x3 + 1 <= x5.length) && decide (2 = 2))
 (.at ((.inl (0, x2, x3 + 1, x4, List.take (0 + x3) x5 ++ [AV.agg [.int .i64 x0, .int .i64 x1]] ++ List.drop (0 + x3 + 1) x5))))
 (.br (decide (x5.length < 0 + x3 + 1) && (decide (0 + x3 <= x5.length) && room (x3 + 1) 16))
 (.at ((.inr (0, x2, x4, List.take x3 x5 ++ [AV.agg [.int .i64 x0, .int .i64 x1]]))))
 (.no))
def qcx (x0 x1 : Int) (x2 : List AV) (x3 : Nat) (x4 : Int) (x5 : List AV) : Option qOZ := qav (qqF x0 x1 x2 x3 x4 x5).ev
theorem qEq (x0 x1 x2 x3 x4 x5) : qcx x0 x1 x2 x3 x4 x5 = (qqF x0 x1 x2 x3 x4 x5).ev := qaa _
theorem q0s : FH IP 227 qRS qSV (k6 qcx) := fh qZq (k6 qqF) qCh
def q8V : Tab := (227, FE qRS qSV (k6 qcx)) :: q8U
theorem qCi : qai IP q8V := ⟨qah q0s, qCh⟩
abbrev qOX : Type := (Int × List AV × Nat × Int × List AV) ⊕ (Int × List AV × Int × List AV)
def qRO : PArgs := ⟨[.agg [.int .i64], .ref 0 0 0], [(0, .box [.view 2, .ownn 1 0, .int .i64] false), (1, .arr 2 false)]⟩
def qSR : List PRes := [⟨false, .int .i64, [(0, .box [.view 2, .ownn 1 0, .int .i64] false), (1, .arr 2 false)]⟩, ⟨false, .int .i64, [(0, .box [.view 2, .own 2 0, .int .i64] false), (2, .arr 2 false)]⟩]
def qqB (x0 : Int) (x1 : List AV) (x2 : Nat) (x3 : Int) (x4 : List AV) : DT qOX :=
 .br (qay [.int .i64, .int .i64] x1 x0)
 (.br (decide (0 + x2 + 1 <= x4.length) && decide (2 = 2))
 (.at ((.inl (0, x1, x2 + 1, x3, List.take (0 + x2) x4 ++ [AV.agg [.int .i64 (intOf (cellAt x1 x0 0)), .int .i64 (intOf (cellAt x1 x0 1))]] ++ List.drop (0 + x2 + 1) x4))))
 (.br (decide (x4.length < 0 + x2 + 1) && (decide (0 + x2 <= x4.length) && room (x2 + 1) 16))
 (.at ((.inr (0, x1, x3, List.take x2 x4 ++ [AV.agg [.int .i64 (intOf (cellAt x1 x0 0)), .int .i64 (intOf (cellAt x1 x0 1))]]))))
 (.no)))
 (.no)
def qcv (x0 : Int) (x1 : List AV) (x2 : Nat) (x3 : Int) (x4 : List AV) : Option qOX := qav (qqB x0 x1 x2 x3 x4).ev
theorem qEm (x0 x1 x2 x3 x4) : qcv x0 x1 x2 x3 x4 = (qqB x0 x1 x2 x3 x4).ev := qaa _
theorem q0o : FH IP 228 qRO qSR (k5 qcv) := fh qZr (k5 qqB) qCi
def q8W : Tab := (228, FE qRO qSR (k5 qcv)) :: q8V
theorem qCj : qai IP q8W := ⟨qah q0o, qCi⟩
abbrev qB8 : Type := (Int × List AV × Nat × Int × List AV) ⊕ (Int × List AV × Int × List AV)
def qRQ : PArgs := ⟨[.agg [.int .i64], .ref 0 0 0], [(0, .box [.view 2, .ownn 1 0, .int .i64] false), (1, .arr 2 false)]⟩
def qST : List PRes := [⟨false, .int .i64, [(0, .box [.view 2, .ownn 1 0, .int .i64] false), (1, .arr 2 false)]⟩, ⟨false, .int .i64, [(0, .box [.view 2, .own 2 0, .int .i64] false), (2, .arr 2 false)]⟩]
def qY9 (x0 : Int) (x1 : List AV) (x2 : Nat) (x3 : Int) (x4 : List AV) (m : Int) : DT qB8 :=
 (.br (leB m x2 && decide (0 + x2 <= x4.length))
 (.br (qgb [(1, Blk.arr 2 x4 false)] qdu (AV.own 1 (0 + m.toNat) (some (x2 - m.toNat))))
 (.bi (qaH x0 (List.take (x2 - m.toNat) (qf2 x4 (0 + m.toNat)))) (fun y1 =>
 .br (y1.2.2 != 0)
 (.at ((.inl (y1.2.2, x1, x2, x3, x4))))
 (.br (leB m x4.length && true && decide (0 + m.toNat <= x4.length))
 (.br (decide (0 + (m.toNat - 0) + 1 <= x4.length) && decide (2 = 2))
 (.at ((.inl (0, x1, m.toNat - 0 + 1, x3, List.take (0 + (m.toNat - 0)) x4 ++ [AV.agg [.int .i64 y1.1, .int .i64 y1.2.1]] ++
 List.drop (0 + (m.toNat - 0) + 1) x4))))
 (.br (decide (x4.length < 0 + (m.toNat - 0) + 1) &&
 (decide (0 + (m.toNat - 0) <= x4.length) && room (m.toNat - 0 + 1) 16))
 (.at ((.inr (0, x1, x3, List.take (m.toNat - 0) x4 ++ [AV.agg [.int .i64 y1.1, .int .i64 y1.2.1]]))))
 (.no)))
 (.no)))
 (.no))
 (.no))
 (.no))
def qqD (x0 : Int) (x1 : List AV) (x2 : Nat) (x3 : Int) (x4 : List AV) : DT qB8 :=
 .bi (br (x0 == 9) (some true) (some (x0 == 16))) (fun y0 =>
 .br (y0)
 ((qY9 x0 x1 x2 x3 x4 (IntKind.i64.wrap ((x2 : Int) - 1))))
 ((qY9 x0 x1 x2 x3 x4 (IntKind.i64.wrap ((x2 : Int) - 2)))))
 (.no)
def qcw (x0 : Int) (x1 : List AV) (x2 : Nat) (x3 : Int) (x4 : List AV) : Option qB8 := qav (qqD x0 x1 x2 x3 x4).ev
theorem qEo (x0 x1 x2 x3 x4) : qcw x0 x1 x2 x3 x4 = (qqD x0 x1 x2 x3 x4).ev := qaa _
theorem q0q : FH IP 229 qRQ qST (k5 qcw) := fh q3Z (k5 qqD) qCj
def q8X : Tab := (229, FE qRQ qST (k5 qcw)) :: q8W
theorem qCk : qai IP q8X := ⟨qah q0q, qCj⟩
abbrev qOV : Type := Int × List AV × Nat × Int × List AV
def qRM : PArgs := ⟨[.agg [.int .i64], .ref 0 0 0], [(0, .box [.view 2, .ownn 1 0, .int .i64] false), (1, .arr 2 false)]⟩
def qSP : List PRes := [⟨false, .int .i64, [(0, .box [.view 2, .ownn 1 0, .int .i64] false), (1, .arr 2 false)]⟩]
def qqz (x0 : Int) (x1 : List AV) (x2 : Nat) (x3 : Int) (x4 : List AV) : DT qOV :=
 .at ((0, x1, x2, x0, x4))
def qfe (x0 : Int) (x1 : List AV) (x2 : Nat) (x3 : Int) (x4 : List AV) : Option qOV := qav (qqz x0 x1 x2 x3 x4).ev
theorem qEk (x0 x1 x2 x3 x4) : qfe x0 x1 x2 x3 x4 = (qqz x0 x1 x2 x3 x4).ev := qaa _
theorem q0m : FH IP 230 qRM qSP (k5 qfe) := fh qZs (k5 qqz) qCk
def q8Y : Tab := (230, FE qRM qSP (k5 qfe)) :: q8X
theorem qCl : qai IP q8Y := ⟨qah q0m, qCk⟩
abbrev qO2 : Type := Int × List AV × Nat × Int × List AV
def qRV : PArgs := ⟨[.agg [.int .i64], .ref 0 0 0], [(0, .box [.view 2, .ownn 1 0, .int .i64] false), (1, .arr 2 false)]⟩
def qSY : List PRes := [⟨false, .int .i64, [(0, .box [.view 2, .ownn 1 0, .int .i64] false), (1, .arr 2 false)]⟩]
def qqI (x0 : Int) (x1 : List AV) (x2 : Nat) (x3 : Int) (x4 : List AV) : DT qO2 :=
 .br (inB x2 (IntKind.i64.wrap ((x2 : Int) - 1)) && decide (0 + (IntKind.i64.wrap ((x2 : Int) - 1)).toNat < x4.length))
 (.br (okP [.int .i64] x4 (IntKind.i64.wrap ((x2 : Int) - 1)).toNat 1)
 (.br (intOf (qaz x4 (IntKind.i64.wrap ((x2 : Int) - 1)).toNat 1) == 0)
 (.br (leB (IntKind.i64.wrap ((x2 : Int) - 1)) x4.length && true && decide (0 + (IntKind.i64.wrap ((x2 : Int) - 1)).toNat <= x4.length))
 (.at ((0, x1, (IntKind.i64.wrap ((x2 : Int) - 1)).toNat - 0, x0, x4)))
 (.no))
 (.br (leB (IntKind.i64.wrap ((x2 : Int) - 1)) x4.length && true && decide (0 + (IntKind.i64.wrap ((x2 : Int) - 1)).toNat <= x4.length))
 (.at ((0, x1, (IntKind.i64.wrap ((x2 : Int) - 1)).toNat - 0, x3, x4)))
 (.no)))
 (.no))
 (.no)
def qfg (x0 : Int) (x1 : List AV) (x2 : Nat) (x3 : Int) (x4 : List AV) : Option qO2 := qav (qqI x0 x1 x2 x3 x4).ev
theorem qEt (x0 x1 x2 x3 x4) : qfg x0 x1 x2 x3 x4 = (qqI x0 x1 x2 x3 x4).ev := qaa _
theorem q0v : FH IP 231 qRV qSY (k5 qfg) := fh q30 (k5 qqI) qCl
def q8Z : Tab := (231, FE qRV qSY (k5 qfg)) :: q8Y
theorem qtD : qai IP q8Z := ⟨qah q0v, qCl⟩
end
end Go.Proofs.H13

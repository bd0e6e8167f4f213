/- Functions over plain data. Printed by a program of mine. -/
import Derived.Test.YtigchhcddgibhaaGreatDoorD13_5
import Derived.KernelRfl
set_option linter.unusedVariables false
set_option linter.unusedSimpArgs false
set_option linter.unnecessarySimpa false
namespace Go.Proofs.H13
open Go Go.Eng
set_option maxRecDepth 100000
noncomputable section
abbrev qTA : Type := List AV × Int × Bool × Bool × Int × List AV × List AV × Int × List AV × List AV
def qWc : PArgs := ⟨[.ref 0 0 0, .int .i64], [(0, .box [.int .i64, .view 2, .view 3, .own 1 0, .int .i64, .own 2 0] false), (1, .arr 2 false), (2, .arr 1 false)]⟩
def qXg : List PRes := [⟨false, .tup [.view 1, .int .i64, .bool, .bool], [(0, .box [.int .i64, .view 2, .view 3, .own 1 0, .int .i64, .own 2 0] false), (1, .arr 2 false), (2, .arr 1 false)]⟩]
def quX (x0 x1 : Int) (x2 x3 : List AV) (x4 : Int) (x5 x6 : List AV) : DT qTA :=
 .br (qaB [CS.int IntKind.i64, CS.int IntKind.i64, CS.int IntKind.i64] x3 x0)
 (.br (inB x5.length x0)
 (.br (okP [CS.slice 1] x5 x0.toNat 1)
 (.bi (br (intOf (cellAt x3 x0 0) != 1) (some (intOf (cellAt x3 x0 2) != 0)) (some false)) (fun y0 =>
 .br (y0)
 (.at (([], -1, false, false, x1, x2, x3, x4, x5, x6)))
 (.br (intOf (cellAt x3 x0 0) == 1)
 (.br (decide ((qal (qaD x5 x0.toNat 1)).length = 0))
 (.bi (qrS (intOf (cellAt x3 x0 0)) (intOf (cellAt x3 x0 1)) (intOf (cellAt x3 x0 2))) (fun y1 =>
 .at (([AV.int IntKind.i64 (intOf (cellAt x3 x0 1))], -1, true, y1, x1, x2, x3, x4, x5, x6)))
 (.no))
 (.br (decide ((qal (qaD x5 x0.toNat 1)).length ≠ 0) && decide ((qal (qaD x5 x0.toNat 1)).length * 8 ≤ lim))
 (.br (room ((qal (qaD x5 x0.toNat 1)).length + 1) 8)
 (.bi (qrS (intOf (cellAt x3 x0 0)) (intOf (cellAt x3 x0 1)) (intOf (cellAt x3 x0 2))) (fun y1 =>
 .at ((qal (qaD x5 x0.toNat 1) ++ [AV.int IntKind.i64 (intOf (cellAt x3 x0 1))], -1, true, y1, x1, x2, x3, x4, x5, x6)))
 (.no))
 (.no))
 (.no)))
 (.br (intOf (cellAt x3 x0 0) == 2)
 (.br (decide (intOf (cellAt x3 x0 1) < 0))
 (.at (([], -1, false, false, x1, x2, x3, x4, x5, x6)))
 (.br (decide (intOf (cellAt x3 x0 1) ≥ (x2.length : Int)))
 (.at (([], -1, false, false, x1, x2, x3, x4, x5, x6)))
 (.br (decide ((qal (qaD x5 x0.toNat 1)).length = 0))
 (.br (qaB [CS.str, CS.int IntKind.i64] x2 (intOf (cellAt x3 x0 1)))
 (.at (([AV.int IntKind.i64 (intOf (cellAt x2 (intOf (cellAt x3 x0 1)) 1))], -1, true, true, x1, x2, x3, x4, x5, x6)))
 (.no))
 (.br (decide ((qal (qaD x5 x0.toNat 1)).length ≠ 0) && decide ((qal (qaD x5 x0.toNat 1)).length * 8 ≤ lim))
 (.br (qaB [CS.str, CS.int IntKind.i64] x2 (intOf (cellAt x3 x0 1)))
 (.br (room ((qal (qaD x5 x0.toNat 1)).length + 1) 8)
 (.at ((qal (qaD x5 x0.toNat 1) ++ [AV.int IntKind.i64 (intOf (cellAt x2 (intOf (cellAt x3 x0 1)) 1))], -1, true, true, x1, x2, x3, x4, x5, x6)))
 (.no))
 (.no))
 (.no)))))
 (.br (intOf (cellAt x3 x0 0) == 3)
 (.bi (qwA (intOf (cellAt x3 x0 1)) (qal (qaD x5 x0.toNat 1))) (fun y1 =>
 .at ((y1.1, -1, true, y1.2, x1, x2, x3, x4, x5, x6)))
 (.no))
 (.br (intOf (cellAt x3 x0 0) == 4)
 (.br (decide (intOf (cellAt x3 x0 1) > x0))
 (.at ((qal (qaD x5 x0.toNat 1), intOf (cellAt x3 x0 1), false, decide (intOf (cellAt x3 x0 1) ≤ (x3.length : Int)), x1, x2, x3, x4, x5, x6)))
 (.at ((qal (qaD x5 x0.toNat 1), intOf (cellAt x3 x0 1), false, false, x1, x2, x3, x4, x5, x6))))
 (.br (intOf (cellAt x3 x0 0) == 5)
 (.bi (br (((qal (qaD x5 x0.toNat 1)).length : Int) == 0) (some true)
 (br (qaB [CS.int IntKind.i64] (qal (qaD x5 x0.toNat 1)) (IntKind.i64.wrap (((qal (qaD x5 x0.toNat 1)).length : Int) - 1)))
 (some (intOf (cellAt (qal (qaD x5 x0.toNat 1)) (IntKind.i64.wrap (((qal (qaD x5 x0.toNat 1)).length : Int) - 1)) 0) != 5)) none)) (fun y1 =>
 .br (y1)
 (.at (([], -1, false, false, x1, x2, x3, x4, x5, x6)))
 (.br (leB (IntKind.i64.wrap (((qal (qaD x5 x0.toNat 1)).length : Int) - 1)) (qal (qaD x5 x0.toNat 1)).length && true)
 (.br (decide (intOf (cellAt x3 x0 1) > x0))
 (.at ((List.take (IntKind.i64.wrap (((qal (qaD x5 x0.toNat 1)).length : Int) - 1)).toNat (qal (qaD x5 x0.toNat 1)), intOf (cellAt x3 x0 1), true, decide (intOf (cellAt x3 x0 1) ≤ (x3.length : Int)), x1, x2, x3, x4, x5, x6)))
 (.at ((List.take (IntKind.i64.wrap (((qal (qaD x5 x0.toNat 1)).length : Int) - 1)).toNat (qal (qaD x5 x0.toNat 1)), intOf (cellAt x3 x0 1), true, false, x1, x2, x3, x4, x5, x6))))
 (.no)))
 (.no))
 (.at (([], -1, false, false, x1, x2, x3, x4, x5, x6)))))))))
 (.no))
 (.no))
 (.no))
 (.no)
def qbc (x0 x1 : Int) (x2 x3 : List AV) (x4 : Int) (x5 x6 : List AV) : Option qTA := qaz (quX x0 x1 x2 x3 x4 x5 x6).ev
theorem qJA (x0 x1 : Int) (x2 x3 : List AV) (x4 : Int) (x5 x6 : List AV) : qbc x0 x1 x2 x3 x4 x5 x6 = (quX x0 x1 x2 x3 x4 x5 x6).ev := qaa _
theorem q3M : FH IP 129 qWc qXg (k7 qbc) := qaf (F := q7u) (L := []) (t := (k7 quX)) qVi (qab (l := []) (by kernel_rfl) trivial) (by kernel_rfl) (fun v => by kernel_rfl) (fun _ => qaa _)
def T92 : Tab := (129, FE qWc qXg (k7 qbc)) :: T91
theorem qIM : qaj IP T92 := ⟨qak q3M, qVi⟩
abbrev qe7 : Type := Int × Int × Int × Int × List AV × List AV × Int × List AV × List AV
def qKC : List PSt := [⟨[(1010700, .junk), (0, .ref 0 0 0), (3, .int .i64), (29, .int .i64), (30, .int .i64)], [(0, .box [.int .i64, .view 2, .view 3, .own 1 0, .int .i64, .own 2 0] false), (1, .arr 2 false), (2, .arr 1 false)], 3, 1⟩]
def qSL (x0 x1 : Int) (x2 x3 : Int) (x4 x5 : List AV) (x6 : Int) (x7 x8 : List AV) : X × St := (X.ret,
 ⟨[(0, AV.ref 0 0 0), (2, AV.int IntKind.i64 9), (3, AV.int IntKind.i64 x0)], [(0, Blk.box [AV.int IntKind.i64 x3, AV.view 2 x4, AV.view 3 x5, AV.own 1 0 none, AV.int IntKind.i64 x6, AV.own 2 0 none] false), (1, Blk.arr 2 x7 false),
 (2, Blk.arr 1 x8 false)], 3, 1⟩)
def qSM (x0 x1 : Int) (x2 x3 : Int) (x4 x5 : List AV) (x6 : Int) (x7 x8 : List AV) : X × St := (X.ret,
 ⟨[(0, AV.ref 0 0 0), (2, AV.int IntKind.i64 9), (3, AV.int IntKind.i64 x0)], [(0,
 Blk.box
 [AV.int IntKind.i64 (gv (qbc x2 x3 x4 x5 x6 x7 x8)).2.2.2.2.1,
 AV.view 2 (gv (qbc x2 x3 x4 x5 x6 x7 x8)).2.2.2.2.2.1,
 AV.view 3 (gv (qbc x2 x3 x4 x5 x6 x7 x8)).2.2.2.2.2.2.1, AV.own 1 0 none,
 AV.int IntKind.i64 (gv (qbc x2 x3 x4 x5 x6 x7 x8)).2.2.2.2.2.2.2.1, AV.own 2 0 none]
 false),
 (1, Blk.arr 2 (gv (qbc x2 x3 x4 x5 x6 x7 x8)).2.2.2.2.2.2.2.2.1 false),
 (2, Blk.arr 1 (gv (qbc x2 x3 x4 x5 x6 x7 x8)).2.2.2.2.2.2.2.2.2 false)], 3, 1⟩)
def qSN (x0 x1 : Int) (x2 x3 : Int) (x4 x5 : List AV) (x6 : Int) (x7 x8 : List AV) : X × St := (X.ret,
 ⟨[(0, AV.ref 0 0 0), (2, AV.int IntKind.i64 5), (3, AV.int IntKind.i64 x0)], [(0,
 Blk.box
 [AV.int IntKind.i64 (gv (qbc x2 x3 x4 x5 x6 x7 x8)).2.2.2.2.1,
 AV.view 2 (gv (qbc x2 x3 x4 x5 x6 x7 x8)).2.2.2.2.2.1,
 AV.view 3 (gv (qbc x2 x3 x4 x5 x6 x7 x8)).2.2.2.2.2.2.1, AV.own 1 0 none,
 AV.int IntKind.i64 (gv (qbc x2 x3 x4 x5 x6 x7 x8)).2.2.2.2.2.2.2.1, AV.own 2 0 none]
 false),
 (1, Blk.arr 2 (gv (qbc x2 x3 x4 x5 x6 x7 x8)).2.2.2.2.2.2.2.2.1 false),
 (2, Blk.arr 1 (gv (qbc x2 x3 x4 x5 x6 x7 x8)).2.2.2.2.2.2.2.2.2 false)], 3, 1⟩)
def qSO (x0 x1 : Int) (x2 x3 : Int) (x4 x5 : List AV) (x6 : Int) (x7 x8 : List AV) : X × St := (X.exit 0,
 ⟨[(0, AV.ref 0 0 0), (2, AV.junk), (3, AV.int IntKind.i64 x0)], [(0, Blk.box [AV.int IntKind.i64 x3, AV.view 2 x4, AV.view 3 x5, AV.own 1 0 none, AV.int IntKind.i64 x6, AV.own 2 0 none] false), (1, Blk.arr 2 x7 false),
 (2, Blk.arr 1 x8 false)], 3, 1⟩)
def q6s : List (qe7 → X × St) := [(k9 qSL), (k9 qSM), (k9 qSN), (k9 qSO)]
def qeE (x0 x1 : Int) (x2 x3 : Int) (x4 x5 : List AV) (x6 : Int) (x7 x8 : List AV) : DT (Rd qe7) :=
 .br (decide (x2 < x1))
 (.br (inB x7.length x2)
 (.br (okP [CS.bool] x7 x2.toNat 0)
 (.bi (br (!qcd (qaD x7 x2.toNat 0)) (some true) (br (inB x8.length x2) (br (okP [CS.bool] x8 x2.toNat 0) (some (qcd (qaD x8 x2.toNat 0))) none) none)) (fun y0 =>
 .br (y0)
 (.at (.done 0))
 (.bi (qbc x2 x3 x4 x5 x6 x7 x8) (fun y1 =>
 .br (!y1.2.2.2.1)
 (.at (.done 1))
 (.br (decide ((y1.1.length : Int) > 16))
 (.at (.done 2))
 (.br (decide (y1.2.1 ≥ 0))
 (.bi (qjk y1.2.1 y1.1 y1.2.2.2.2.1 y1.2.2.2.2.2.1 y1.2.2.2.2.2.2.1
 (if (y1.1.length : Int) > y1.2.2.2.2.2.2.2.1 then (y1.1.length : Int) else y1.2.2.2.2.2.2.2.1) y1.2.2.2.2.2.2.2.2.1
 y1.2.2.2.2.2.2.2.2.2) (fun y2 =>
 .br (y1.2.2.1)
 (.bi (qjk (IntKind.i64.wrap (x2 + 1)) y1.1 y2.1 y2.2.1 y2.2.2.1 y2.2.2.2.1 y2.2.2.2.2.1 y2.2.2.2.2.2) (fun y3 =>
 .at (.next ((x0, x1, IntKind.i64.wrap (x2 + 1), y3.1, y3.2.1, y3.2.2.1, y3.2.2.2.1, y3.2.2.2.2.1, y3.2.2.2.2.2))))
 (.no))
 (.at (.next ((x0, x1, IntKind.i64.wrap (x2 + 1), y2.1, y2.2.1, y2.2.2.1, y2.2.2.2.1, y2.2.2.2.2.1, y2.2.2.2.2.2)))))
 (.no))
 (.br (y1.2.2.1)
 (.bi (qjk (IntKind.i64.wrap (x2 + 1)) y1.1 y1.2.2.2.2.1 y1.2.2.2.2.2.1 y1.2.2.2.2.2.2.1
 (if (y1.1.length : Int) > y1.2.2.2.2.2.2.2.1 then (y1.1.length : Int) else y1.2.2.2.2.2.2.2.1) y1.2.2.2.2.2.2.2.2.1
 y1.2.2.2.2.2.2.2.2.2) (fun y2 =>
 .at (.next ((x0, x1, IntKind.i64.wrap (x2 + 1), y2.1, y2.2.1, y2.2.2.1, y2.2.2.2.1, y2.2.2.2.2.1, y2.2.2.2.2.2))))
 (.no))
 (.at (.next ((x0, x1, IntKind.i64.wrap (x2 + 1), y1.2.2.2.2.1, y1.2.2.2.2.2.1, y1.2.2.2.2.2.2.1, if (y1.1.length : Int) > y1.2.2.2.2.2.2.2.1 then (y1.1.length : Int) else y1.2.2.2.2.2.2.2.1, y1.2.2.2.2.2.2.2.2.1, y1.2.2.2.2.2.2.2.2.2))))))))
 (.no)))
 (.no))
 (.no))
 (.no))
 (.at (.done 3))
def qfg : qe7 → DT (Rd qe7) := (fun v => qeE v.1 v.2.1 v.2.2.1 v.2.2.2.1 v.2.2.2.2.1 v.2.2.2.2.2.1 v.2.2.2.2.2.2.1 v.2.2.2.2.2.2.2.1 v.2.2.2.2.2.2.2.2)
def qlz (v : qe7) : Option (Nat × qe7) := qaz (qar (fun v => (qfg v).ev) v)
theorem qfw (v : qe7) : qlz v = qar (fun v => (qfg v).ev) v := qaa _
def qK8 : qcJ := LE (τ := qe7) (hD qKC) (qlz) q6s
theorem q50 : Go.Eng.Told IP (qah q2q 0).1 (qah q2q 0).2 (qK8) := qax (inferInstance : Inhabited qe7) (hs := qKC) (st := qfg) (L := []) qIM (qab (l := []) (by kernel_rfl) trivial) (qfw) (fun v => by kernel_rfl) (fun v => by kernel_rfl)
abbrev qTB : Type := Int × Int × List AV × List AV × Int × List AV × List AV
def qWd : PArgs := ⟨[.ref 0 0 0], [(0, .box [.int .i64, .view 2, .view 3, .nils 2, .int .i64, .nils 1] false)]⟩
def qXh : List PRes := [⟨false, .int .i64, [(0, .box [.int .i64, .view 2, .view 3, .own 1 0, .int .i64, .own 2 0] false), (1, .arr 2 false), (2, .arr 1 false)]⟩]
def quY (x0 : Int) (x1 x2 : List AV) (x3 : Int) : DT qTB :=
 .br (decide (0 ≤ IntKind.i64.wrap ((x2.length : Int) + 1)) && decide (IntKind.i64.wrap ((x2.length : Int) + 1) ≤ IntKind.i64.wrap ((x2.length : Int) + 1)) &&
 room (IntKind.i64.wrap ((x2.length : Int) + 1)).toNat 32 &&
 decide (IntKind.i64.wrap ((x2.length : Int) + 1) ≤ 4611686018427387904))
 (.br (decide (0 ≤ IntKind.i64.wrap ((x2.length : Int) + 1)) && decide (IntKind.i64.wrap ((x2.length : Int) + 1) ≤ IntKind.i64.wrap ((x2.length : Int) + 1)) &&
 room (IntKind.i64.wrap ((x2.length : Int) + 1)).toNat 1 &&
 decide (IntKind.i64.wrap ((x2.length : Int) + 1) ≤ 4611686018427387904))
 (.bi (qjk 0 [] x0 x1 x2 x3 (List.replicate (IntKind.i64.wrap ((x2.length : Int) + 1)).toNat (AV.agg [AV.bool false, AV.view 1 []]))
 (List.replicate (IntKind.i64.wrap ((x2.length : Int) + 1)).toNat (AV.bool false))) (fun y0 =>
 .bi (pj 0 (qlz ((x2.length : Int), (x2.length : Int), 0, y0.1, y0.2.1, y0.2.2.1, y0.2.2.2.1, y0.2.2.2.2.1, y0.2.2.2.2.2))) (fun y1 =>
 .at ((9, y1.2.2.2.1, y1.2.2.2.2.1, y1.2.2.2.2.2.1, y1.2.2.2.2.2.2.1, y1.2.2.2.2.2.2.2.1, y1.2.2.2.2.2.2.2.2)))
 (.bi (pj 1 (qlz ((x2.length : Int), (x2.length : Int), 0, y0.1, y0.2.1, y0.2.2.1, y0.2.2.2.1, y0.2.2.2.2.1, y0.2.2.2.2.2))) (fun y1 =>
 .at ((9, (gv
 (qbc y1.2.2.1 y1.2.2.2.1 y1.2.2.2.2.1 y1.2.2.2.2.2.1 y1.2.2.2.2.2.2.1
 y1.2.2.2.2.2.2.2.1 y1.2.2.2.2.2.2.2.2)).2.2.2.2.1, (gv
 (qbc y1.2.2.1 y1.2.2.2.1 y1.2.2.2.2.1 y1.2.2.2.2.2.1 y1.2.2.2.2.2.2.1
 y1.2.2.2.2.2.2.2.1 y1.2.2.2.2.2.2.2.2)).2.2.2.2.2.1, (gv
 (qbc y1.2.2.1 y1.2.2.2.1 y1.2.2.2.2.1 y1.2.2.2.2.2.1 y1.2.2.2.2.2.2.1
 y1.2.2.2.2.2.2.2.1 y1.2.2.2.2.2.2.2.2)).2.2.2.2.2.2.1, (gv
 (qbc y1.2.2.1 y1.2.2.2.1 y1.2.2.2.2.1 y1.2.2.2.2.2.1 y1.2.2.2.2.2.2.1
 y1.2.2.2.2.2.2.2.1 y1.2.2.2.2.2.2.2.2)).2.2.2.2.2.2.2.1, (gv
 (qbc y1.2.2.1 y1.2.2.2.1 y1.2.2.2.2.1 y1.2.2.2.2.2.1 y1.2.2.2.2.2.2.1
 y1.2.2.2.2.2.2.2.1 y1.2.2.2.2.2.2.2.2)).2.2.2.2.2.2.2.2.1, (gv
 (qbc y1.2.2.1 y1.2.2.2.1 y1.2.2.2.2.1 y1.2.2.2.2.2.1 y1.2.2.2.2.2.2.1
 y1.2.2.2.2.2.2.2.1 y1.2.2.2.2.2.2.2.2)).2.2.2.2.2.2.2.2.2)))
 (.bi (pj 2 (qlz ((x2.length : Int), (x2.length : Int), 0, y0.1, y0.2.1, y0.2.2.1, y0.2.2.2.1, y0.2.2.2.2.1, y0.2.2.2.2.2))) (fun y1 =>
 .at ((5, (gv
 (qbc y1.2.2.1 y1.2.2.2.1 y1.2.2.2.2.1 y1.2.2.2.2.2.1 y1.2.2.2.2.2.2.1
 y1.2.2.2.2.2.2.2.1 y1.2.2.2.2.2.2.2.2)).2.2.2.2.1, (gv
 (qbc y1.2.2.1 y1.2.2.2.1 y1.2.2.2.2.1 y1.2.2.2.2.2.1 y1.2.2.2.2.2.2.1
 y1.2.2.2.2.2.2.2.1 y1.2.2.2.2.2.2.2.2)).2.2.2.2.2.1, (gv
 (qbc y1.2.2.1 y1.2.2.2.1 y1.2.2.2.2.1 y1.2.2.2.2.2.1 y1.2.2.2.2.2.2.1
 y1.2.2.2.2.2.2.2.1 y1.2.2.2.2.2.2.2.2)).2.2.2.2.2.2.1, (gv
 (qbc y1.2.2.1 y1.2.2.2.1 y1.2.2.2.2.1 y1.2.2.2.2.2.1 y1.2.2.2.2.2.2.1
 y1.2.2.2.2.2.2.2.1 y1.2.2.2.2.2.2.2.2)).2.2.2.2.2.2.2.1, (gv
 (qbc y1.2.2.1 y1.2.2.2.1 y1.2.2.2.2.1 y1.2.2.2.2.2.1 y1.2.2.2.2.2.2.1
 y1.2.2.2.2.2.2.2.1 y1.2.2.2.2.2.2.2.2)).2.2.2.2.2.2.2.2.1, (gv
 (qbc y1.2.2.1 y1.2.2.2.1 y1.2.2.2.2.1 y1.2.2.2.2.2.1 y1.2.2.2.2.2.2.1
 y1.2.2.2.2.2.2.2.1 y1.2.2.2.2.2.2.2.2)).2.2.2.2.2.2.2.2.2)))
 (.bi (pj 3 (qlz ((x2.length : Int), (x2.length : Int), 0, y0.1, y0.2.1, y0.2.2.1, y0.2.2.2.1, y0.2.2.2.2.1, y0.2.2.2.2.2))) (fun y1 =>
 .br (inB y1.2.2.2.2.2.2.2.1.length y1.1)
 (.br (okP [CS.bool] y1.2.2.2.2.2.2.2.1 y1.1.toNat 0)
 (.br (!qcd (qaD y1.2.2.2.2.2.2.2.1 y1.1.toNat 0))
 (.at ((9, y1.2.2.2.1, y1.2.2.2.2.1, y1.2.2.2.2.2.1, y1.2.2.2.2.2.2.1, y1.2.2.2.2.2.2.2.1, y1.2.2.2.2.2.2.2.2)))
 (.br (inB y1.2.2.2.2.2.2.2.2.length y1.1)
 (.br (okP [CS.bool] y1.2.2.2.2.2.2.2.2 y1.1.toNat 0)
 (.br (qcd (qaD y1.2.2.2.2.2.2.2.2 y1.1.toNat 0))
 (.at ((9, y1.2.2.2.1, y1.2.2.2.2.1, y1.2.2.2.2.2.1, y1.2.2.2.2.2.2.1, y1.2.2.2.2.2.2.2.1, y1.2.2.2.2.2.2.2.2)))
 (.br (inB y1.2.2.2.2.2.2.2.1.length y1.1)
 (.br (okP [CS.slice 1] y1.2.2.2.2.2.2.2.1 y1.1.toNat 1)
 (.br (((qal (qaD y1.2.2.2.2.2.2.2.1 y1.1.toNat 1)).length : Int) != 1)
 (.at ((9, y1.2.2.2.1, y1.2.2.2.2.1, y1.2.2.2.2.2.1, y1.2.2.2.2.2.2.1, y1.2.2.2.2.2.2.2.1, y1.2.2.2.2.2.2.2.2)))
 (.br (inB y1.2.2.2.2.2.2.2.1.length y1.1)
 (.br (okP [CS.slice 1] y1.2.2.2.2.2.2.2.1 y1.1.toNat 1)
 (.br (qaB [CS.int IntKind.i64] (qal (qaD y1.2.2.2.2.2.2.2.1 y1.1.toNat 1)) 0)
 (.br (intOf (cellAt (qal (qaD y1.2.2.2.2.2.2.2.1 y1.1.toNat 1)) 0 0) != y1.2.2.2.1)
 (.at ((9, y1.2.2.2.1, y1.2.2.2.2.1, y1.2.2.2.2.2.1, y1.2.2.2.2.2.2.1, y1.2.2.2.2.2.2.2.1, y1.2.2.2.2.2.2.2.2)))
 (.at ((0, y1.2.2.2.1, y1.2.2.2.2.1, y1.2.2.2.2.2.1, y1.2.2.2.2.2.2.1, y1.2.2.2.2.2.2.2.1, y1.2.2.2.2.2.2.2.2))))
 (.no))
 (.no))
 (.no)))
 (.no))
 (.no)))
 (.no))
 (.no)))
 (.no))
 (.no))
 (.no)))))
 (.no))
 (.no))
 (.no)
def qwl (x0 : Int) (x1 x2 : List AV) (x3 : Int) : Option qTB := qaz (quY x0 x1 x2 x3).ev
theorem qJB (x0 : Int) (x1 x2 : List AV) (x3 : Int) : qwl x0 x1 x2 x3 = (quY x0 x1 x2 x3).ev := qaa _
theorem q3N : FH IP 107 qWd qXh (k4 qwl) := qaf (F := q2q) (L := [(1010700, qK8)]) (t := (k4 quY)) qIM (qab (l := [qah q2q 0]) (by kernel_rfl) ⟨qay (by kernel_rfl) q50, trivial⟩) (by kernel_rfl) (fun v => by kernel_rfl) (fun _ => qaa _)
def T93 : Tab := (107, FE qWd qXh (k4 qwl)) :: T92
theorem qVj : qaj IP T93 := ⟨qak q3N, qIM⟩
abbrev qUk : Type := Int × Int
def qW0 : PArgs := ⟨[.agg [.int .i64, .view 2, .view 3]], []⟩
def qX4 : List PRes := [⟨false, .tup [.int .i64, .int .i64], []⟩]
def qvJ (x0 : Int) (x1 x2 : List AV) : DT qUk :=
 .br (decide ((x2.length : Int) > 128))
 (.at ((0, 5)))
 (.bi (qix x1) (fun y0 =>
 .br (y0 != 0)
 (.at ((0, y0)))
 (.bi (qwl x0 x1 x2 0) (fun y1 =>
 .br (y1.1 != 0) (.at ((0, y1.1))) (.at ((y1.2.2.2.2.1, 0))))
 (.no)))
 (.no))
def qwz (x0 : Int) (x1 x2 : List AV) : Option qUk := qaz (qvJ x0 x1 x2).ev
theorem qKm (x0 : Int) (x1 x2 : List AV) : qwz x0 x1 x2 = (qvJ x0 x1 x2).ev := qaa _
theorem q4v : FH IP 75 qW0 qX4 (k3 qwz) := qaf (F := F75) (L := []) (t := (k3 qvJ)) qVj (qab (l := []) (by kernel_rfl) trivial) (by kernel_rfl) (fun v => by kernel_rfl) (fun _ => qaa _)
def T94 : Tab := (75, FE qW0 qX4 (k3 qwz)) :: T93
theorem qVk : qaj IP T94 := ⟨qak q4v, qVj⟩
abbrev qTQ : Type := Int
def qWt : PArgs := ⟨[.agg [.int .i64, .view 2, .view 3]], []⟩
def qXx : List PRes := [⟨false, .int .i64, []⟩]
def qvc (x0 : Int) (x1 x2 : List AV) : DT qTQ :=
 .bi (qwz x0 x1 x2) (fun y0 =>
 .at (y0.2))
 (.no)
def qrR (x0 : Int) (x1 x2 : List AV) : Option qTQ := qaz (qvc x0 x1 x2).ev
theorem qJP (x0 : Int) (x1 x2 : List AV) : qrR x0 x1 x2 = (qvc x0 x1 x2).ev := qaa _
theorem q3Z : FH IP 42 qWt qXx (k3 qrR) := qaf (F := F42) (L := []) (t := (k3 qvc)) qVk (qab (l := []) (by kernel_rfl) trivial) (by kernel_rfl) (fun v => by kernel_rfl) (fun _ => qaa _)
def T95 : Tab := (42, FE qWt qXx (k3 qrR)) :: T94
theorem qVl : qaj IP T95 := ⟨qak q3Z, qVk⟩
abbrev qHg : Type := (Int × Int) ⊕ (Int) ⊕ (Int) ⊕ (Int) ⊕ (Int)
def qNk : PArgs := ⟨[.agg [.int .i64, .int .i64, .int .i64]], []⟩
def qOW : List PRes := [⟨false, .iface 108 (.agg [.int .i64, .int .i64]), []⟩, ⟨false, .iface 110 (.agg [.int .i64]), []⟩, ⟨false, .iface 112 (.agg [.int .i64]), []⟩, ⟨false, .iface 114 (.agg [.int .i64]), []⟩, ⟨false, .iface 115 (.agg [.int .i64]), []⟩]
def qe1 (x0 x1 x2 : Int) : DT qHg :=
 .br (x0 == 1)
 (.at ((.inl (x1, x2))))
 (.br (x0 == 2)
 (.at ((.inr (.inl (x1)))))
 (.br (x0 == 3)
 (.at ((.inr (.inr (.inl (x1))))))
 (.br (x0 == 4) (.at ((.inr (.inr (.inr (.inl (x1))))))) (.at ((.inr (.inr (.inr (.inr (x1))))))))))
def qae (x0 x1 x2 : Int) : Option qHg := qaz (qe1 x0 x1 x2).ev
theorem qfr (x0 x1 x2 : Int) : qae x0 x1 x2 = (qe1 x0 x1 x2).ev := qaa _
theorem qZ4 : FH IP 43 qNk qOW (k3 qae) := qaf (F := F43) (L := []) (t := (k3 qe1)) qVl (qab (l := []) (by kernel_rfl) trivial) (by kernel_rfl) (fun v => by kernel_rfl) (fun _ => qaa _)
def T96 : Tab := (43, FE qNk qOW (k3 qae)) :: T95
theorem qVm : qaj IP T96 := ⟨qak qZ4, qVl⟩
abbrev qFX : Type := Int × List AV × Int × List AV
def qLX : PArgs := ⟨[.agg [.int .i64, .int .i64], .ref 0 0 0], [(0, .box [.view 2, .nils 2, .int .i64] false)]⟩
def qNy : List PRes := [⟨false, .int .i64, [(0, .box [.view 2, .own 1 0, .int .i64] false), (1, .arr 2 false)]⟩]
def qma (x0 x1 : Int) (x2 : List AV) (x3 : Int) : DT qFX :=
 .at ((0, x2, x3, [AV.agg [AV.int IntKind.i64 x0, AV.int IntKind.i64 x1]]))
def qfb (x0 x1 : Int) (x2 : List AV) (x3 : Int) : Option qFX := qaz (qma x0 x1 x2 x3).ev
theorem qDe (x0 x1 : Int) (x2 : List AV) (x3 : Int) : qfb x0 x1 x2 x3 = (qma x0 x1 x2 x3).ev := qaa _
theorem qYw : FH IP 227 qLX qNy (k4 qfb) := qaf (F := q24) (L := []) (t := (k4 qma)) qVm (qab (l := []) (by kernel_rfl) trivial) (by kernel_rfl) (fun v => by kernel_rfl) (fun _ => qaa _)
def T97 : Tab := (227, FE qLX qNy (k4 qfb)) :: T96
theorem qVn : qaj IP T97 := ⟨qak qYw, qVm⟩
abbrev qFV : Type := Int × List AV × Int × List AV
def qLV : PArgs := ⟨[.agg [.int .i64], .ref 0 0 0], [(0, .box [.view 2, .nils 2, .int .i64] false)]⟩
def qNw : List PRes := [⟨false, .int .i64, [(0, .box [.view 2, .own 1 0, .int .i64] false), (1, .arr 2 false)]⟩]
def ql8 (x0 : Int) (x1 : List AV) (x2 : Int) : DT qFV :=
 .br (qaB [CS.int IntKind.i64, CS.int IntKind.i64] x1 x0)
 (.at ((0, x1, x2, [AV.agg [AV.int IntKind.i64 (intOf (cellAt x1 x0 0)), AV.int IntKind.i64 (intOf (cellAt x1 x0 1))]])))
 (.no)
def qfa (x0 : Int) (x1 : List AV) (x2 : Int) : Option qFV := qaz (ql8 x0 x1 x2).ev
theorem qDc (x0 : Int) (x1 : List AV) (x2 : Int) : qfa x0 x1 x2 = (ql8 x0 x1 x2).ev := qaa _
theorem qYu : FH IP 228 qLV qNw (k3 qfa) := qaf (F := q25) (L := []) (t := (k3 ql8)) qVn (qab (l := []) (by kernel_rfl) trivial) (by kernel_rfl) (fun v => by kernel_rfl) (fun _ => qaa _)
def T98 : Tab := (228, FE qLV qNw (k3 qfa)) :: T97
theorem qVo : qaj IP T98 := ⟨qak qYu, qVn⟩
abbrev qFU : Type := Int × List AV × Int
def qLU : PArgs := ⟨[.agg [.int .i64], .ref 0 0 0], [(0, .box [.view 2, .nils 2, .int .i64] false)]⟩
def qNv : List PRes := [⟨false, .int .i64, [(0, .box [.view 2, .nils 2, .int .i64] false)]⟩]
def ql7 (x0 : Int) (x1 : List AV) (x2 : Int) : DT qFU :=
 .at ((0, x1, x0))
def qga (x0 : Int) (x1 : List AV) (x2 : Int) : Option qFU := qaz (ql7 x0 x1 x2).ev
theorem qDb (x0 : Int) (x1 : List AV) (x2 : Int) : qga x0 x1 x2 = (ql7 x0 x1 x2).ev := qaa _
theorem qYt : FH IP 230 qLU qNv (k3 qga) := qaf (F := q26) (L := []) (t := (k3 ql7)) qVo (qab (l := []) (by kernel_rfl) trivial) (by kernel_rfl) (fun v => by kernel_rfl) (fun _ => qaa _)
def T99 : Tab := (230, FE qLU qNv (k3 qga)) :: T98
theorem qVp : qaj IP T99 := ⟨qak qYt, qVo⟩
abbrev qTW : Type := Int × List AV × Int × List AV
def qWB : PArgs := ⟨[.agg [.int .i64, .int .i64], .ref 0 0 0], [(0, .box [.view 2, .own 1 0, .int .i64] false), (1, .arr 2 false)]⟩
def qXF : List PRes := [⟨false, .int .i64, [(0, .box [.view 2, .own 2 0, .int .i64] false), (2, .arr 2 false)]⟩]
def qvk (x0 x1 : Int) (x2 : List AV) (x3 : Int) (x4 : List AV) : DT qTW :=
 .br (room (x4.length + 1) 16) (.at ((0, x2, x3, x4 ++ [AV.agg [AV.int IntKind.i64 x0, AV.int IntKind.i64 x1]]))) (.no)
def qie (x0 x1 : Int) (x2 : List AV) (x3 : Int) (x4 : List AV) : Option qTW := qaz (qvk x0 x1 x2 x3 x4).ev
theorem qJX (x0 x1 : Int) (x2 : List AV) (x3 : Int) (x4 : List AV) : qie x0 x1 x2 x3 x4 = (qvk x0 x1 x2 x3 x4).ev := qaa _
theorem q37 : FH IP 227 qWB qXF (k5 qie) := qaf (F := q24) (L := []) (t := (k5 qvk)) qVp (qab (l := []) (by kernel_rfl) trivial) (by kernel_rfl) (fun v => by kernel_rfl) (fun _ => qaa _)
def zaF : Tab := (227, FE qWB qXF (k5 qie)) :: T99
theorem qHx : qaj IP zaF := ⟨qak q37, qVp⟩
abbrev qTU : Type := Int × List AV × Int × List AV
def qWx : PArgs := ⟨[.agg [.int .i64], .ref 0 0 0], [(0, .box [.view 2, .own 1 0, .int .i64] false), (1, .arr 2 false)]⟩
def qXB : List PRes := [⟨false, .int .i64, [(0, .box [.view 2, .own 2 0, .int .i64] false), (2, .arr 2 false)]⟩]
def qvg (x0 : Int) (x1 : List AV) (x2 : Int) (x3 : List AV) : DT qTU :=
 .br (qaB [CS.int IntKind.i64, CS.int IntKind.i64] x1 x0)
 (.br (room (x3.length + 1) 16) (.at ((0, x1, x2, x3 ++ [AV.agg [AV.int IntKind.i64 (intOf (cellAt x1 x0 0)), AV.int IntKind.i64 (intOf (cellAt x1 x0 1))]]))) (.no))
 (.no)
def qid (x0 : Int) (x1 : List AV) (x2 : Int) (x3 : List AV) : Option qTU := qaz (qvg x0 x1 x2 x3).ev
theorem qJT (x0 : Int) (x1 : List AV) (x2 : Int) (x3 : List AV) : qid x0 x1 x2 x3 = (qvg x0 x1 x2 x3).ev := qaa _
theorem q33 : FH IP 228 qWx qXB (k4 qid) := qaf (F := q25) (L := []) (t := (k4 qvg)) qHx (qab (l := []) (by kernel_rfl) trivial) (by kernel_rfl) (fun v => by kernel_rfl) (fun _ => qaa _)
def zaG : Tab := (228, FE qWx qXB (k4 qid)) :: zaF
theorem qHy : qaj IP zaG := ⟨qak q33, qHx⟩
abbrev qHp : Type := (Int × List AV × Int × List AV) ⊕ (Int × List AV × Nat × Int × List AV) ⊕ (Int × List AV × Int × List AV)
def qWz : PArgs := ⟨[.agg [.int .i64], .ref 0 0 0], [(0, .box [.view 2, .own 1 0, .int .i64] false), (1, .arr 2 false)]⟩
def qXD : List PRes := [⟨false, .int .i64, [(0, .box [.view 2, .own 1 0, .int .i64] false), (1, .arr 2 false)]⟩, ⟨false, .int .i64, [(0, .box [.view 2, .ownn 1 0, .int .i64] false), (1, .arr 2 false)]⟩, ⟨false, .int .i64, [(0, .box [.view 2, .own 2 0, .int .i64] false), (2, .arr 2 false)]⟩]
def q2K (x0 : Int) (x1 : List AV) (x2 : Int) (x3 : List AV) (m : Int) : DT qHp :=
 (.br (leB m x3.length && true)
 (.bi (qaW x0 (qfo x3 (0 + m.toNat))) (fun y1 =>
 .br (y1.2.2 != 0)
 (.at ((.inl (y1.2.2, x1, x2, x3))))
 (.br (leB m x3.length && true && decide (0 + m.toNat ≤ x3.length))
 (.br (decide (0 + (m.toNat - 0) + 1 ≤ x3.length) && decide (2 = 2))
 (.at ((.inr (.inl (0, x1, m.toNat - 0 + 1, x2, List.take (0 + (m.toNat - 0)) x3 ++ [AV.agg [AV.int IntKind.i64 y1.1, AV.int IntKind.i64 y1.2.1]] ++
 List.drop (0 + (m.toNat - 0) + 1) x3)))))
 (.br (decide (x3.length < 0 + (m.toNat - 0) + 1) &&
 (decide (0 + (m.toNat - 0) ≤ x3.length) && room (m.toNat - 0 + 1) 16))
 (.at ((.inr (.inr (0, x1, x2, List.take (m.toNat - 0) x3 ++ [AV.agg [AV.int IntKind.i64 y1.1, AV.int IntKind.i64 y1.2.1]])))))
 (.no)))
 (.no)))
 (.no))
 (.no))
def qvi (x0 : Int) (x1 : List AV) (x2 : Int) (x3 : List AV) : DT qHp :=
 .bi (br (x0 == 9) (some true) (some (x0 == 16))) (fun y0 =>
 .br (y0)
 ((q2K x0 x1 x2 x3 (IntKind.i64.wrap ((x3.length : Int) - 1))))
 ((q2K x0 x1 x2 x3 (IntKind.i64.wrap ((x3.length : Int) - 2)))))
 (.no)
def qbV (x0 : Int) (x1 : List AV) (x2 : Int) (x3 : List AV) : Option qHp := qaz (qvi x0 x1 x2 x3).ev
theorem qJV (x0 : Int) (x1 : List AV) (x2 : Int) (x3 : List AV) : qbV x0 x1 x2 x3 = (qvi x0 x1 x2 x3).ev := qaa _
theorem q35 : FH IP 229 qWz qXD (k4 qbV) := qaf (F := q6O) (L := []) (t := (k4 qvi)) qHy (qab (l := []) (by kernel_rfl) trivial) (by kernel_rfl) (fun v => by kernel_rfl) (fun _ => qaa _)
def zaH : Tab := (229, FE qWz qXD (k4 qbV)) :: zaG
theorem qHz : qaj IP zaH := ⟨qak q35, qHy⟩
abbrev qTS : Type := Int × List AV × Int × List AV
def qWv : PArgs := ⟨[.agg [.int .i64], .ref 0 0 0], [(0, .box [.view 2, .own 1 0, .int .i64] false), (1, .arr 2 false)]⟩
def qXz : List PRes := [⟨false, .int .i64, [(0, .box [.view 2, .own 1 0, .int .i64] false), (1, .arr 2 false)]⟩]
def qve (x0 : Int) (x1 : List AV) (x2 : Int) (x3 : List AV) : DT qTS :=
 .at ((0, x1, x0, x3))
def qic (x0 : Int) (x1 : List AV) (x2 : Int) (x3 : List AV) : Option qTS := qaz (qve x0 x1 x2 x3).ev
theorem qJR (x0 : Int) (x1 : List AV) (x2 : Int) (x3 : List AV) : qic x0 x1 x2 x3 = (qve x0 x1 x2 x3).ev := qaa _
theorem q31 : FH IP 230 qWv qXz (k4 qic) := qaf (F := q26) (L := []) (t := (k4 qve)) qHz (qab (l := []) (by kernel_rfl) trivial) (by kernel_rfl) (fun v => by kernel_rfl) (fun _ => qaa _)
def zaI : Tab := (230, FE qWv qXz (k4 qic)) :: zaH
theorem qHA : qaj IP zaI := ⟨qak q31, qHz⟩
abbrev qTZ : Type := Int × List AV × Nat × Int × List AV
def qWE : PArgs := ⟨[.agg [.int .i64], .ref 0 0 0], [(0, .box [.view 2, .own 1 0, .int .i64] false), (1, .arr 2 false)]⟩
def qXI : List PRes := [⟨false, .int .i64, [(0, .box [.view 2, .ownn 1 0, .int .i64] false), (1, .arr 2 false)]⟩]
def qvn (x0 : Int) (x1 : List AV) (x2 : Int) (x3 : List AV) : DT qTZ :=
 .br (inB x3.length (IntKind.i64.wrap ((x3.length : Int) - 1)))
 (.br (okP [CS.int IntKind.i64] x3 (IntKind.i64.wrap ((x3.length : Int) - 1)).toNat 1)
 (.br (intOf (qaD x3 (IntKind.i64.wrap ((x3.length : Int) - 1)).toNat 1) == 0)
 (.br (leB (IntKind.i64.wrap ((x3.length : Int) - 1)) x3.length && true && decide (0 + (IntKind.i64.wrap ((x3.length : Int) - 1)).toNat ≤ x3.length))
 (.at ((0, x1, (IntKind.i64.wrap ((x3.length : Int) - 1)).toNat - 0, x0, x3)))
 (.no))
 (.br (leB (IntKind.i64.wrap ((x3.length : Int) - 1)) x3.length && true && decide (0 + (IntKind.i64.wrap ((x3.length : Int) - 1)).toNat ≤ x3.length))
 (.at ((0, x1, (IntKind.i64.wrap ((x3.length : Int) - 1)).toNat - 0, x2, x3)))
 (.no)))
 (.no))
 (.no)
def qg2 (x0 : Int) (x1 : List AV) (x2 : Int) (x3 : List AV) : Option qTZ := qaz (qvn x0 x1 x2 x3).ev
theorem qJ0 (x0 : Int) (x1 : List AV) (x2 : Int) (x3 : List AV) : qg2 x0 x1 x2 x3 = (qvn x0 x1 x2 x3).ev := qaa _
theorem q4a : FH IP 231 qWE qXI (k4 qg2) := qaf (F := q6P) (L := []) (t := (k4 qvn)) qHA (qab (l := []) (by kernel_rfl) trivial) (by kernel_rfl) (fun v => by kernel_rfl) (fun _ => qaa _)
def zaJ : Tab := (231, FE qWE qXI (k4 qg2)) :: zaI
theorem qHB : qaj IP zaJ := ⟨qak q4a, qHA⟩
abbrev qTX : Type := (Int × List AV × Nat × Int × List AV) ⊕ (Int × List AV × Int × List AV)
def qWC : PArgs := ⟨[.agg [.int .i64, .int .i64], .ref 0 0 0], [(0, .box [.view 2, .ownn 1 0, .int .i64] false), (1, .arr 2 false)]⟩
def qXG : List PRes := [⟨false, .int .i64, [(0, .box [.view 2, .ownn 1 0, .int .i64] false), (1, .arr 2 false)]⟩, ⟨false, .int .i64, [(0, .box [.view 2, .own 2 0, .int .i64] false), (2, .arr 2 false)]⟩]
def qvl (x0 x1 : Int) (x2 : List AV) (x3 : Nat) (x4 : Int) (x5 : List AV) : DT qTX :=
 .br (decide (0 + x3 + 1 ≤ x5.length) && decide (2 = 2))
 (.at ((.inl (0, x2, x3 + 1, x4, List.take (0 + x3) x5 ++ [AV.agg [AV.int IntKind.i64 x0, AV.int IntKind.i64 x1]] ++ List.drop (0 + x3 + 1) x5))))
 (.br (decide (x5.length < 0 + x3 + 1) && (decide (0 + x3 ≤ x5.length) && room (x3 + 1) 16))
 (.at ((.inr (0, x2, x4, List.take x3 x5 ++ [AV.agg [AV.int IntKind.i64 x0, AV.int IntKind.i64 x1]]))))
 (.no))
def qdC (x0 x1 : Int) (x2 : List AV) (x3 : Nat) (x4 : Int) (x5 : List AV) : Option qTX := qaz (qvl x0 x1 x2 x3 x4 x5).ev
theorem qJY (x0 x1 : Int) (x2 : List AV) (x3 : Nat) (x4 : Int) (x5 : List AV) : qdC x0 x1 x2 x3 x4 x5 = (qvl x0 x1 x2 x3 x4 x5).ev := qaa _
theorem q38 : FH IP 227 qWC qXG (k6 qdC) := qaf (F := q24) (L := []) (t := (k6 qvl)) qHB (qab (l := []) (by kernel_rfl) trivial) (by kernel_rfl) (fun v => by kernel_rfl) (fun _ => qaa _)
def zaK : Tab := (227, FE qWC qXG (k6 qdC)) :: zaJ
theorem qHC : qaj IP zaK := ⟨qak q38, qHB⟩
abbrev qTV : Type := (Int × List AV × Nat × Int × List AV) ⊕ (Int × List AV × Int × List AV)
def qWy : PArgs := ⟨[.agg [.int .i64], .ref 0 0 0], [(0, .box [.view 2, .ownn 1 0, .int .i64] false), (1, .arr 2 false)]⟩
def qXC : List PRes := [⟨false, .int .i64, [(0, .box [.view 2, .ownn 1 0, .int .i64] false), (1, .arr 2 false)]⟩, ⟨false, .int .i64, [(0, .box [.view 2, .own 2 0, .int .i64] false), (2, .arr 2 false)]⟩]
def qvh (x0 : Int) (x1 : List AV) (x2 : Nat) (x3 : Int) (x4 : List AV) : DT qTV :=
 .br (qaB [CS.int IntKind.i64, CS.int IntKind.i64] x1 x0)
 (.br (decide (0 + x2 + 1 ≤ x4.length) && decide (2 = 2))
 (.at ((.inl (0, x1, x2 + 1, x3, List.take (0 + x2) x4 ++ [AV.agg [AV.int IntKind.i64 (intOf (cellAt x1 x0 0)), AV.int IntKind.i64 (intOf (cellAt x1 x0 1))]] ++ List.drop (0 + x2 + 1) x4))))
 (.br (decide (x4.length < 0 + x2 + 1) && (decide (0 + x2 ≤ x4.length) && room (x2 + 1) 16))
 (.at ((.inr (0, x1, x3, List.take x2 x4 ++ [AV.agg [AV.int IntKind.i64 (intOf (cellAt x1 x0 0)), AV.int IntKind.i64 (intOf (cellAt x1 x0 1))]]))))
 (.no)))
 (.no)
def qdA (x0 : Int) (x1 : List AV) (x2 : Nat) (x3 : Int) (x4 : List AV) : Option qTV := qaz (qvh x0 x1 x2 x3 x4).ev
theorem qJU (x0 : Int) (x1 : List AV) (x2 : Nat) (x3 : Int) (x4 : List AV) : qdA x0 x1 x2 x3 x4 = (qvh x0 x1 x2 x3 x4).ev := qaa _
theorem q34 : FH IP 228 qWy qXC (k5 qdA) := qaf (F := q25) (L := []) (t := (k5 qvh)) qHC (qab (l := []) (by kernel_rfl) trivial) (by kernel_rfl) (fun v => by kernel_rfl) (fun _ => qaa _)
def zaL : Tab := (228, FE qWy qXC (k5 qdA)) :: zaK
theorem qHD : qaj IP zaL := ⟨qak q34, qHC⟩
abbrev qHq : Type := (Int × List AV × Nat × Int × List AV) ⊕ (Int × List AV × Int × List AV)
def qWA : PArgs := ⟨[.agg [.int .i64], .ref 0 0 0], [(0, .box [.view 2, .ownn 1 0, .int .i64] false), (1, .arr 2 false)]⟩
def qXE : List PRes := [⟨false, .int .i64, [(0, .box [.view 2, .ownn 1 0, .int .i64] false), (1, .arr 2 false)]⟩, ⟨false, .int .i64, [(0, .box [.view 2, .own 2 0, .int .i64] false), (2, .arr 2 false)]⟩]
def q2L (x0 : Int) (x1 : List AV) (x2 : Nat) (x3 : Int) (x4 : List AV) (m : Int) : DT qHq :=
 (.br (leB m x2 && decide (0 + x2 ≤ x4.length))
 (.br (qeJ [(1, Blk.arr 2 x4 false)] qbZ (AV.own 1 (0 + m.toNat) (some (x2 - m.toNat))))
 (.bi (qaW x0 (List.take (x2 - m.toNat) (qfo x4 (0 + m.toNat)))) (fun y1 =>
 .br (y1.2.2 != 0)
 (.at ((.inl (y1.2.2, x1, x2, x3, x4))))
 (.br (leB m x4.length && true && decide (0 + m.toNat ≤ x4.length))
 (.br (decide (0 + (m.toNat - 0) + 1 ≤ x4.length) && decide (2 = 2))
 (.at ((.inl (0, x1, m.toNat - 0 + 1, x3, List.take (0 + (m.toNat - 0)) x4 ++ [AV.agg [AV.int IntKind.i64 y1.1, AV.int IntKind.i64 y1.2.1]] ++
 List.drop (0 + (m.toNat - 0) + 1) x4))))
 (.br (decide (x4.length < 0 + (m.toNat - 0) + 1) &&
 (decide (0 + (m.toNat - 0) ≤ x4.length) && room (m.toNat - 0 + 1) 16))
 (.at ((.inr (0, x1, x3, List.take (m.toNat - 0) x4 ++ [AV.agg [AV.int IntKind.i64 y1.1, AV.int IntKind.i64 y1.2.1]]))))
 (.no)))
 (.no)))
 (.no))
 (.no))
 (.no))
def qvj (x0 : Int) (x1 : List AV) (x2 : Nat) (x3 : Int) (x4 : List AV) : DT qHq :=
 .bi (br (x0 == 9) (some true) (some (x0 == 16))) (fun y0 =>
 .br (y0)
 ((q2L x0 x1 x2 x3 x4 (IntKind.i64.wrap ((x2 : Int) - 1))))
 ((q2L x0 x1 x2 x3 x4 (IntKind.i64.wrap ((x2 : Int) - 2)))))
 (.no)
def qdB (x0 : Int) (x1 : List AV) (x2 : Nat) (x3 : Int) (x4 : List AV) : Option qHq := qaz (qvj x0 x1 x2 x3 x4).ev
theorem qJW (x0 : Int) (x1 : List AV) (x2 : Nat) (x3 : Int) (x4 : List AV) : qdB x0 x1 x2 x3 x4 = (qvj x0 x1 x2 x3 x4).ev := qaa _
theorem q36 : FH IP 229 qWA qXE (k5 qdB) := qaf (F := q6O) (L := []) (t := (k5 qvj)) qHD (qab (l := []) (by kernel_rfl) trivial) (by kernel_rfl) (fun v => by kernel_rfl) (fun _ => qaa _)
def zaM : Tab := (229, FE qWA qXE (k5 qdB)) :: zaL
theorem qHE : qaj IP zaM := ⟨qak q36, qHD⟩
abbrev qTT : Type := Int × List AV × Nat × Int × List AV
def qWw : PArgs := ⟨[.agg [.int .i64], .ref 0 0 0], [(0, .box [.view 2, .ownn 1 0, .int .i64] false), (1, .arr 2 false)]⟩
def qXA : List PRes := [⟨false, .int .i64, [(0, .box [.view 2, .ownn 1 0, .int .i64] false), (1, .arr 2 false)]⟩]
def qvf (x0 : Int) (x1 : List AV) (x2 : Nat) (x3 : Int) (x4 : List AV) : DT qTT :=
 .at ((0, x1, x2, x0, x4))
def qg1 (x0 : Int) (x1 : List AV) (x2 : Nat) (x3 : Int) (x4 : List AV) : Option qTT := qaz (qvf x0 x1 x2 x3 x4).ev
theorem qJS (x0 : Int) (x1 : List AV) (x2 : Nat) (x3 : Int) (x4 : List AV) : qg1 x0 x1 x2 x3 x4 = (qvf x0 x1 x2 x3 x4).ev := qaa _
theorem q32 : FH IP 230 qWw qXA (k5 qg1) := qaf (F := q26) (L := []) (t := (k5 qvf)) qHE (qab (l := []) (by kernel_rfl) trivial) (by kernel_rfl) (fun v => by kernel_rfl) (fun _ => qaa _)
def zaN : Tab := (230, FE qWw qXA (k5 qg1)) :: zaM
theorem qHF : qaj IP zaN := ⟨qak q32, qHE⟩
abbrev qT0 : Type := Int × List AV × Nat × Int × List AV
def qWF : PArgs := ⟨[.agg [.int .i64], .ref 0 0 0], [(0, .box [.view 2, .ownn 1 0, .int .i64] false), (1, .arr 2 false)]⟩
def qXJ : List PRes := [⟨false, .int .i64, [(0, .box [.view 2, .ownn 1 0, .int .i64] false), (1, .arr 2 false)]⟩]
def qvo (x0 : Int) (x1 : List AV) (x2 : Nat) (x3 : Int) (x4 : List AV) : DT qT0 :=
 .br (inB x2 (IntKind.i64.wrap ((x2 : Int) - 1)) && decide (0 + (IntKind.i64.wrap ((x2 : Int) - 1)).toNat < x4.length))
 (.br (okP [CS.int IntKind.i64] x4 (IntKind.i64.wrap ((x2 : Int) - 1)).toNat 1)
 (.br (intOf (qaD x4 (IntKind.i64.wrap ((x2 : Int) - 1)).toNat 1) == 0)
 (.br (leB (IntKind.i64.wrap ((x2 : Int) - 1)) x4.length && true && decide (0 + (IntKind.i64.wrap ((x2 : Int) - 1)).toNat ≤ x4.length))
 (.at ((0, x1, (IntKind.i64.wrap ((x2 : Int) - 1)).toNat - 0, x0, x4)))
 (.no))
 (.br (leB (IntKind.i64.wrap ((x2 : Int) - 1)) x4.length && true && decide (0 + (IntKind.i64.wrap ((x2 : Int) - 1)).toNat ≤ x4.length))
 (.at ((0, x1, (IntKind.i64.wrap ((x2 : Int) - 1)).toNat - 0, x3, x4)))
 (.no)))
 (.no))
 (.no)
def qg3 (x0 : Int) (x1 : List AV) (x2 : Nat) (x3 : Int) (x4 : List AV) : Option qT0 := qaz (qvo x0 x1 x2 x3 x4).ev
theorem qJ1 (x0 : Int) (x1 : List AV) (x2 : Nat) (x3 : Int) (x4 : List AV) : qg3 x0 x1 x2 x3 x4 = (qvo x0 x1 x2 x3 x4).ev := qaa _
theorem q4b : FH IP 231 qWF qXJ (k5 qg3) := qaf (F := q6P) (L := []) (t := (k5 qvo)) qHF (qab (l := []) (by kernel_rfl) trivial) (by kernel_rfl) (fun v => by kernel_rfl) (fun _ => qaa _)
def zaO : Tab := (231, FE qWF qXJ (k5 qg3)) :: zaN
theorem qys : qaj IP zaO := ⟨qak q4b, qHF⟩
end
end Go.Proofs.H13

/- Functions over plain data. Printed by a program of mine. -/
import Derived.Test.YtigchhcddgibhaaGreatDoorD13_10
import Derived.KernelRfl
namespace Go.Proofs.H13
open Go Go.Eng
set_option maxRecDepth 100000
noncomputable section
abbrev qBG : Type := Bool
def qG9 : PArgs := ⟨[.agg [.int .i64, .int .i64, .int .i64]], []⟩
def qIK : List PRes := [⟨false, .bool, []⟩]
def qjX (x0 x1 x2 : Int) : DT qBG :=
 .br (x1 == 1)
 (.at (decide (x2 >= 0)))
 (.br (x1 == 2)
 (.bi (br (decide (x2 >= 0)) (some (decide (x2 <= 1000000000000))) (some false)) (fun y0 =>
 .at (y0))
 (.no))
 (.br (x1 == 3)
 (.bi (br (decide (x2 >= 0)) (some (decide (x2 <= 1000000))) (some false)) (fun y0 =>
 .at (y0))
 (.no))
 (.at (false))))
def qhQ (x0 x1 x2 : Int) : Option qBG := qav (qjX x0 x1 x2).ev
theorem qyF (x0 x1 x2) : qhQ x0 x1 x2 = (qjX x0 x1 x2).ev := qaa _
theorem qVq : FH IP 130 qG9 qIK (k3 qhQ) := fh q5x (k3 qjX) qtQ
def q9T : Tab := (130, FE qG9 qIK (k3 qhQ)) :: q9P
theorem qC7 : qai IP q9T := ⟨qah qVq, qtQ⟩
abbrev qBr : Type := List AV × Bool
def qGS : PArgs := ⟨[.agg [.int .i64, .view 2, .view 3], .int .i64, .view 1], []⟩
def qIt : List PRes := [⟨false, .tup [.view 1, .bool], []⟩]
def qjI (x0 : Int) (x1 x2 : List AV) (x3 : Int) (x4 : List AV) : DT qBr :=
 .br (qay [.int .i64, .int .i64, .int .i64] x2 x3)
 (.br (decide (x4.length = 0) && decide (1 = 1))
 (.br (intOf (cellAt x2 x3 0) == 1)
 (.bi (qhQ (intOf (cellAt x2 x3 0)) (intOf (cellAt x2 x3 1)) (intOf (cellAt x2 x3 2))) (fun y0 =>
 .at (([.int .i64 (intOf (cellAt x2 x3 1))], y0)))
 (.no))
 (.br (intOf (cellAt x2 x3 2) != 0)
 (.at (([], false)))
 (.br (intOf (cellAt x2 x3 0) == 2)
 (.bi (br (decide (intOf (cellAt x2 x3 1) < 0)) (some true) (some (decide (intOf (cellAt x2 x3 1) >= (x1.length : Int))))) (fun y0 =>
 .br (y0)
 (.at (([], false)))
 (.br (qay [.str, .int .i64] x1 (intOf (cellAt x2 x3 1))) (.at (([.int .i64 (intOf (cellAt x1 (intOf (cellAt x2 x3 1)) 1))], true))) (.no)))
 (.no))
 (.br (intOf (cellAt x2 x3 0) == 3)
 (.bi (br (decide (intOf (cellAt x2 x3 1) < 5)) (some true) (some (decide (intOf (cellAt x2 x3 1) > 18)))) (fun y0 =>
 .br (y0)
 (.at (([], false)))
 (.bi (br (intOf (cellAt x2 x3 1) == 9) (some true) (some (intOf (cellAt x2 x3 1) == 16))) (fun y1 =>
 .br (y1) (.at (([], false))) (.at (([], false))))
 (.no)))
 (.no))
 (.br (intOf (cellAt x2 x3 0) == 4)
 (.br (decide (intOf (cellAt x2 x3 1) > x3)) (.at (([], decide (intOf (cellAt x2 x3 1) <= (x2.length : Int))))) (.at (([], false))))
 (.br (intOf (cellAt x2 x3 0) == 5) (.at (([], false))) (.at (([], false)))))))))
 (.br (decide (x4.length ≠ 0) && room x4.length 8)
 (.br (intOf (cellAt x2 x3 0) == 1)
 (.br (room (x4.length + 1) 8)
 (.bi (qhQ (intOf (cellAt x2 x3 0)) (intOf (cellAt x2 x3 1)) (intOf (cellAt x2 x3 2))) (fun y0 =>
 .at ((x4 ++ [AV.int IntKind.i64 (intOf (cellAt x2 x3 1))], y0)))
 (.no))
 (.no))
 (.br (intOf (cellAt x2 x3 2) != 0)
 (.at (([], false)))
 (.br (intOf (cellAt x2 x3 0) == 2)
 (.bi (br (decide (intOf (cellAt x2 x3 1) < 0)) (some true) (some (decide (intOf (cellAt x2 x3 1) >= (x1.length : Int))))) (fun y0 =>
 .br (y0)
 (.at (([], false)))
 (.br (qay [.str, .int .i64] x1 (intOf (cellAt x2 x3 1)))
 (.br (room (x4.length + 1) 8) (.at ((x4 ++ [AV.int IntKind.i64 (intOf (cellAt x1 (intOf (cellAt x2 x3 1)) 1))], true))) (.no))
 (.no)))
 (.no))
 (.br (intOf (cellAt x2 x3 0) == 3)
 (.bi (br (decide (intOf (cellAt x2 x3 1) < 5)) (some true) (some (decide (intOf (cellAt x2 x3 1) > 18)))) (fun y0 =>
 .br (y0)
 (.at (([], false)))
 (.bi (br (intOf (cellAt x2 x3 1) == 9) (some true) (some (intOf (cellAt x2 x3 1) == 16))) (fun y1 =>
 .br (y1)
 (.br (decide ((x4.length : Int) < 1))
 (.at (([], false)))
 (.br (leB (IntKind.i64.wrap ((x4.length : Int) - 1)) x4.length && true)
 (.bi (qbU (intOf (cellAt x2 x3 1)) (qf2 x4 (0 + (IntKind.i64.wrap ((x4.length : Int) - 1)).toNat))) (fun y2 =>
 .br (leB (IntKind.i64.wrap ((x4.length : Int) - 1)) x4.length && true && decide (0 + (IntKind.i64.wrap ((x4.length : Int) - 1)).toNat <= x4.length))
 (.br (decide (0 + ((IntKind.i64.wrap ((x4.length : Int) - 1)).toNat - 0) + 1 <= x4.length) && decide (1 = 1))
 (.br (qgb
 [(192,
 Blk.arr 1
 (List.take (0 + ((IntKind.i64.wrap ((x4.length : Int) - 1)).toNat - 0)) x4 ++ [AV.int IntKind.i64 y2.1] ++
 List.drop (0 + ((IntKind.i64.wrap ((x4.length : Int) - 1)).toNat - 0) + 1) x4)
 false),
 (1104, Blk.arr 1 [.int .i64 y2.1] false),
 (128, Blk.box [.int .i64 (intOf (cellAt x2 x3 0)), .int .i64 (intOf (cellAt x2 x3 1)), .int .i64 (intOf (cellAt x2 x3 2))] false),
 (0, Blk.box [.int .i64 x0, AV.view 2 x1, AV.view 3 x2] false)]
 qdu (AV.tup [AV.own 192 0 (some ((IntKind.i64.wrap ((x4.length : Int) - 1)).toNat - 0 + 1)), AV.bool y2.2]))
 (.at ((List.take ((IntKind.i64.wrap ((x4.length : Int) - 1)).toNat - 0 + 1)
 (List.take (0 + ((IntKind.i64.wrap ((x4.length : Int) - 1)).toNat - 0)) x4 ++ [AV.int IntKind.i64 y2.1] ++
 List.drop (0 + ((IntKind.i64.wrap ((x4.length : Int) - 1)).toNat - 0) + 1) x4), y2.2)))
 (.no))
 (.br (decide (x4.length < 0 + ((IntKind.i64.wrap ((x4.length : Int) - 1)).toNat - 0) + 1) &&
 (decide (0 + ((IntKind.i64.wrap ((x4.length : Int) - 1)).toNat - 0) <= x4.length) && room ((IntKind.i64.wrap ((x4.length : Int) - 1)).toNat - 0 + 1) 8))
 (.at ((List.take ((IntKind.i64.wrap ((x4.length : Int) - 1)).toNat - 0) x4 ++ [AV.int IntKind.i64 y2.1], y2.2)))
 (.no)))
 (.no))
 (.no))
 (.no)))
 (.br (decide ((x4.length : Int) < 2))
 (.at (([], false)))
 (.br (leB (IntKind.i64.wrap ((x4.length : Int) - 2)) x4.length && true)
 (.bi (qbU (intOf (cellAt x2 x3 1)) (qf2 x4 (0 + (IntKind.i64.wrap ((x4.length : Int) - 2)).toNat))) (fun y2 =>
 .br (leB (IntKind.i64.wrap ((x4.length : Int) - 2)) x4.length && true && decide (0 + (IntKind.i64.wrap ((x4.length : Int) - 2)).toNat <= x4.length))
 (.br (decide (0 + ((IntKind.i64.wrap ((x4.length : Int) - 2)).toNat - 0) + 1 <= x4.length) && decide (1 = 1))
 (.br (qgb
 [(192,
 Blk.arr 1
 (List.take (0 + ((IntKind.i64.wrap ((x4.length : Int) - 2)).toNat - 0)) x4 ++ [AV.int IntKind.i64 y2.1] ++
 List.drop (0 + ((IntKind.i64.wrap ((x4.length : Int) - 2)).toNat - 0) + 1) x4)
 false),
 (1088, Blk.arr 1 [.int .i64 y2.1] false),
 (128, Blk.box [.int .i64 (intOf (cellAt x2 x3 0)), .int .i64 (intOf (cellAt x2 x3 1)), .int .i64 (intOf (cellAt x2 x3 2))] false),
 (0, Blk.box [.int .i64 x0, AV.view 2 x1, AV.view 3 x2] false)]
 qdu (AV.tup [AV.own 192 0 (some ((IntKind.i64.wrap ((x4.length : Int) - 2)).toNat - 0 + 1)), AV.bool y2.2]))
 (.at ((List.take ((IntKind.i64.wrap ((x4.length : Int) - 2)).toNat - 0 + 1)
 (List.take (0 + ((IntKind.i64.wrap ((x4.length : Int) - 2)).toNat - 0)) x4 ++ [AV.int IntKind.i64 y2.1] ++
 List.drop (0 + ((IntKind.i64.wrap ((x4.length : Int) - 2)).toNat - 0) + 1) x4), y2.2)))
 (.no))
 (.br (decide (x4.length < 0 + ((IntKind.i64.wrap ((x4.length : Int) - 2)).toNat - 0) + 1) &&
 (decide (0 + ((IntKind.i64.wrap ((x4.length : Int) - 2)).toNat - 0) <= x4.length) && room ((IntKind.i64.wrap ((x4.length : Int) - 2)).toNat - 0 + 1) 8))
 (.at ((List.take ((IntKind.i64.wrap ((x4.length : Int) - 2)).toNat - 0) x4 ++ [AV.int IntKind.i64 y2.1], y2.2)))
 (.no)))
 (.no))
 (.no))
 (.no))))
 (.no)))
 (.no))
 (.br (intOf (cellAt x2 x3 0) == 4)
 (.br (decide (intOf (cellAt x2 x3 1) > x3)) (.at ((x4, decide (intOf (cellAt x2 x3 1) <= (x2.length : Int))))) (.at ((x4, false))))
 (.br (intOf (cellAt x2 x3 0) == 5)
 (.bi (br ((x4.length : Int) == 0) (some true)
 (br (inB x4.length (IntKind.i64.wrap ((x4.length : Int) - 1)))
 (br (okP [.int .i64] x4 (IntKind.i64.wrap ((x4.length : Int) - 1)).toNat 0) (some (intOf (qaz x4 (IntKind.i64.wrap ((x4.length : Int) - 1)).toNat 0) != 5)) none)
 none)) (fun y0 =>
 .br (y0)
 (.at (([], false)))
 (.br (leB (IntKind.i64.wrap ((x4.length : Int) - 1)) x4.length && true && decide (0 + (IntKind.i64.wrap ((x4.length : Int) - 1)).toNat <= x4.length))
 (.br (decide (intOf (cellAt x2 x3 1) > x3))
 (.br (qgb
 [(192, Blk.arr 1 x4 false),
 (128, Blk.box [.int .i64 (intOf (cellAt x2 x3 0)), .int .i64 (intOf (cellAt x2 x3 1)), .int .i64 (intOf (cellAt x2 x3 2))] false),
 (0, Blk.box [.int .i64 x0, AV.view 2 x1, AV.view 3 x2] false)]
 qdu (AV.tup [AV.own 192 0 (some ((IntKind.i64.wrap ((x4.length : Int) - 1)).toNat - 0)), AV.bool (decide (intOf (cellAt x2 x3 1) <= (x2.length : Int)))]))
 (.at ((List.take ((IntKind.i64.wrap ((x4.length : Int) - 1)).toNat - 0) x4, decide (intOf (cellAt x2 x3 1) <= (x2.length : Int)))))
 (.no))
 (.br (qgb
 [(192, Blk.arr 1 x4 false),
 (128, Blk.box [.int .i64 (intOf (cellAt x2 x3 0)), .int .i64 (intOf (cellAt x2 x3 1)), .int .i64 (intOf (cellAt x2 x3 2))] false),
 (0, Blk.box [.int .i64 x0, AV.view 2 x1, AV.view 3 x2] false)]
 qdu (AV.tup [AV.own 192 0 (some ((IntKind.i64.wrap ((x4.length : Int) - 1)).toNat - 0)), AV.bool false]))
 (.at ((List.take ((IntKind.i64.wrap ((x4.length : Int) - 1)).toNat - 0) x4, false)))
 (.no)))
 (.no)))
 (.no))
 (.at (([], false)))))))))
 (.no)))
 (.no)
def qk2 (x0 : Int) (x1 x2 : List AV) (x3 : Int) (x4 : List AV) : Option qBr := qav (qjI x0 x1 x2 x3 x4).ev
theorem qyq (x0 x1 x2 x3 x4) : qk2 x0 x1 x2 x3 x4 = (qjI x0 x1 x2 x3 x4).ev := qaa _
theorem qU6 : FH IP 108 qGS qIt (k5 qk2) := fh q5i (k5 qjI) qC7
def q9U : Tab := (108, FE qGS qIt (k5 qk2)) :: q9T
theorem qtR : qai IP q9U := ⟨qah qU6, qC7⟩
abbrev qeu : Type := List AV × List AV × Int
def qFg : List PSt := [⟨[(1011000, .junk), (0, .view 1), (1, .view 1), (5, .int .i64)], [], 0, 0⟩]
def qN9 (x0 x1 : List AV) (x2 : Int) : X × St := (.ret, ⟨[(4, .bool false)], [], 0, 0⟩)
def qOa (x0 x1 : List AV) (x2 : Int) : X × St := (.exit 0, ⟨[(4, .junk)], [], 0, 0⟩)
def q3J : List (qeu -> X × St) := [(k3 qN9), (k3 qOa)]
def qmB (x0 x1 : List AV) (x2 : Int) : DT (Rd qeu) :=
 .br (decide (x2 < (x0.length : Int)))
 (.br (qay [.int .i64] x0 x2)
 (.br (qay [.int .i64] x1 x2)
 (.br (intOf (cellAt x0 x2 0) != intOf (cellAt x1 x2 0)) (.at (.done 0)) (.at (.next ((x0, x1, IntKind.i64.wrap (x2 + 1))))))
 (.no))
 (.no))
 (.at (.done 1))
def qmA : qeu -> DT (Rd qeu) := (fun v => qmB v.1 v.2.1 v.2.2)
def qr8 (v : qeu) : Option (Nat × qeu) := qav (qaq (fun v => (qmA v).ev) v)
theorem qr9 (v) : qr8 v = qaq (fun v => (qmA v).ev) v := qaa _
def qFI : qb3 := LE (τ := qeu) (hD qFg) (qr8) q3J
theorem q3c : Go.Eng.Told IP (qaf qYy 0).1 (qaf qYy 0).2 (qFI) := lp (inferInstance : Inhabited qeu) (hs := qFg) qmA qtR qr9
abbrev qPj : Type := Bool
def qSd : PArgs := ⟨[.view 1, .view 1], []⟩
def qTg : List PRes := [⟨false, .bool, []⟩]
def qq0 (x0 x1 : List AV) : DT qPj :=
 .br ((x0.length : Int) != (x1.length : Int))
 (.at (false))
 (.bi (pj 0 (qr8 (x0, x1, 0))) (fun y0 =>
 .at (false))
 (.bi (pj 1 (qr8 (x0, x1, 0))) (fun y0 =>
 .at (true))
 (.no)))
def qgV (x0 x1 : List AV) : Option qPj := qav (qq0 x0 x1).ev
theorem qEL (x0 x1) : qgV x0 x1 = (qq0 x0 x1).ev := qaa _
theorem q0M : FH IP 110 qSd qTg (k2 qgV) := qae (F := qYy) (L := [(1011000, qFI)]) (t := (k2 qq0)) qtR (qab (l := [qaf qYy 0]) (by kernel_rfl) ⟨qau (by kernel_rfl) q3c, trivial⟩) (by kernel_rfl) (fun v => by kernel_rfl) (fun _ => qaa _)
def q9V : Tab := (110, FE qSd qTg (k2 qgV)) :: q9U
theorem qC8 : qai IP q9V := ⟨qah q0M, qtR⟩
abbrev qBF : Type := Bool × Bool × List AV
def qG8 : PArgs := ⟨[.agg [.bool, .bool, .view 1], .view 1], []⟩
def qIJ : List PRes := [⟨false, .agg [.bool, .bool, .view 1], []⟩]
def qjW (x0 x1 : Bool) (x2 x3 : List AV) : DT qBF :=
 .bi (br x0 (br (sm (qgV x2 x3)) (some !gv (qgV x2 x3)) none) (some false)) (fun y0 =>
 .br (y0)
 (.br (!x0)
 (.br (decide (x3.length = 0) && decide (1 = 1))
 (.at ((true, true, [])))
 (.br (decide (x3.length ≠ 0) && room x3.length 8) (.at ((true, true, x3))) (.no)))
 (.at ((true, true, x2))))
 (.br (!x0)
 (.br (decide (x3.length = 0) && decide (1 = 1))
 (.at ((true, x1, [])))
 (.br (decide (x3.length ≠ 0) && room x3.length 8) (.at ((true, x1, x3))) (.no)))
 (.at ((true, x1, x2)))))
 (.no)
def qfb (x0 x1 : Bool) (x2 x3 : List AV) : Option qBF := qav (qjW x0 x1 x2 x3).ev
theorem qyE (x0 x1 x2 x3) : qfb x0 x1 x2 x3 = (qjW x0 x1 x2 x3).ev := qaa _
theorem qVp : FH IP 109 qG8 qIJ (k4 qfb) := fh q5j (k4 qjW) qC8
def q9W : Tab := (109, FE qG8 qIJ (k4 qfb)) :: q9V
theorem qtS : qai IP q9W := ⟨qah qVp, qC8⟩
abbrev qcm : Type := Int × Int × Int × Int × List AV × List AV × List AV
def qwb : List PSt := [⟨[(1007600, .junk), (1, .ref 0 0 0), (5, .int .i64), (6, .own 1 0), (7, .int .i64), (8, .int .i64)], [(0, .box [.int .i64, .view 2, .view 3] false), (1, .arr 3 false)], 2, 0⟩]
def qKL (x0 x1 : Int) (x2 x3 : Int) (x4 x5 x6 : List AV) : X × St := (.ret,
 ⟨[(1, .ref 0 0 0), (2, .int .i64 0), (3, .int .i64 9), (5, .int .i64 x0), (6, .own 1 0 none), (7, .int .i64 x1)], [(0, .box [.int .i64 x3, .view 2 x4, .view 3 x5] false), (1, .arr 3 x6 false)], 2, 0⟩)
def qKM (x0 x1 : Int) (x2 x3 : Int) (x4 x5 x6 : List AV) : X × St := (.exit 0,
 ⟨[(1, .ref 0 0 0), (2, .junk), (3, .junk), (5, .int .i64 x0), (6, .own 1 0 none),
 (7, .int .i64 (if ((qaj (qaz x6 x2.toNat 2)).length : Int) > x1 then ((qaj (qaz x6 x2.toNat 2)).length : Int) else x1))], [(0, .box [.int .i64 x3, .view 2 x4, .view 3 x5] false), (1, .arr 3 x6 false)], 2, 0⟩)
def qKN (x0 x1 : Int) (x2 x3 : Int) (x4 x5 x6 : List AV) : X × St := (.ret,
 ⟨[(1, .ref 0 0 0), (2, .int .i64 0), (3, .int .i64 9), (5, .int .i64 x0), (6, .own 1 0 none),
 (7, .int .i64 (if ((qaj (qaz x6 x2.toNat 2)).length : Int) > x1 then ((qaj (qaz x6 x2.toNat 2)).length : Int) else x1))], [(0, .box [.int .i64 x3, .view 2 x4, .view 3 x5] false), (1, .arr 3 x6 false)], 2, 0⟩)
def qKO (x0 x1 : Int) (x2 x3 : Int) (x4 x5 x6 : List AV) : X × St := (.ret,
 ⟨[(1, .ref 0 0 0), (2, .int .i64 0), (3, .int .i64 5), (5, .int .i64 x0), (6, .own 1 0 none),
 (7, .int .i64 (if ((qaj (qaz x6 x2.toNat 2)).length : Int) > x1 then ((qaj (qaz x6 x2.toNat 2)).length : Int) else x1))], [(0, .box [.int .i64 x3, .view 2 x4, .view 3 x5] false), (1, .arr 3 x6 false)], 2, 0⟩)
def qKP (x0 x1 : Int) (x2 x3 : Int) (x4 x5 x6 : List AV) : X × St := (.exit 0,
 ⟨[(1, .ref 0 0 0), (2, .junk), (3, .junk), (5, .int .i64 x0), (6, .own 1 0 none), (7, .int .i64 x1)], [(0, .box [.int .i64 x3, .view 2 x4, .view 3 x5] false), (1, .arr 3 x6 false)], 2, 0⟩)
def qXv : List (qcm -> X × St) := [(k7 qKL), (k7 qKM), (k7 qKN), (k7 qKO), (k7 qKP)]
def qcj (x0 x1 : Int) (x2 x3 : Int) (x4 x5 x6 : List AV) : DT (Rd qcm) :=
 .br (decide (x2 <= x0))
 (.br (inB x6.length x2)
 (.br (okP [.bool, .bool, .slice 1] x6 x2.toNat 0)
 (.bi (br (!qbH (qaz x6 x2.toNat 0)) (some true) (some (qbH (qaz x6 x2.toNat 1)))) (fun y0 =>
 .br (y0)
 (.at (.done 0))
 (.br (x2 == x0)
 (.at (.done 1))
 (.bi (qk2 x3 x4 x5 x2 (qaj (qaz x6 x2.toNat 2))) (fun y1 =>
 .br (!y1.2)
 (.at (.done 2))
 (.br (decide ((y1.1.length : Int) > 16))
 (.at (.done 3))
 (.br (qay [.int .i64, .int .i64, .int .i64] x5 x2)
 (.bi (br (intOf (cellAt x5 x2 0) == 4) (some true) (some (intOf (cellAt x5 x2 0) == 5))) (fun y2 =>
 .br (y2)
 (.br (qay [.int .i64, .int .i64, .int .i64] x5 x2)
 (.br (qay [.int .i64, .int .i64, .int .i64] x5 x2)
 (.br (inB x6.length (intOf (cellAt x5 x2 1)))
 (.br (okP [.bool, .bool, .slice 1] x6 (intOf (cellAt x5 x2 1)).toNat 0)
 (.bi (qfb (qbH (qaz x6 (intOf (cellAt x5 x2 1)).toNat 0)) (qbH (qaz x6 (intOf (cellAt x5 x2 1)).toNat 1)) (qaj (qaz x6 (intOf (cellAt x5 x2 1)).toNat 2)) y1.1) (fun y3 =>
 .br (inB x6.length (intOf (cellAt x5 x2 1)))
 (.br (okS x6 (intOf (cellAt x5 x2 1)).toNat 0 3)
 (.br (intOf (cellAt x5 x2 0) != 4)
 (.br (inB (qfu x6 (intOf (cellAt x5 x2 1)).toNat 0 [AV.bool y3.1, AV.bool y3.2.1, AV.view 1 y3.2.2]).length (IntKind.i64.wrap (x2 + 1)))
 (.br (okP [.bool, .bool, .slice 1] (qfu x6 (intOf (cellAt x5 x2 1)).toNat 0 [AV.bool y3.1, AV.bool y3.2.1, AV.view 1 y3.2.2]) (IntKind.i64.wrap (x2 + 1)).toNat 0)
 (.bi (qfb (qbH (qaz (qfu x6 (intOf (cellAt x5 x2 1)).toNat 0 [AV.bool y3.1, AV.bool y3.2.1, AV.view 1 y3.2.2]) (IntKind.i64.wrap (x2 + 1)).toNat 0))
 (qbH (qaz (qfu x6 (intOf (cellAt x5 x2 1)).toNat 0 [AV.bool y3.1, AV.bool y3.2.1, AV.view 1 y3.2.2]) (IntKind.i64.wrap (x2 + 1)).toNat 1))
 (qaj (qaz (qfu x6 (intOf (cellAt x5 x2 1)).toNat 0 [AV.bool y3.1, AV.bool y3.2.1, AV.view 1 y3.2.2]) (IntKind.i64.wrap (x2 + 1)).toNat 2)) y1.1) (fun y4 =>
 .br (inB (qfu x6 (intOf (cellAt x5 x2 1)).toNat 0 [AV.bool y3.1, AV.bool y3.2.1, AV.view 1 y3.2.2]).length (IntKind.i64.wrap (x2 + 1)))
 (.br (okS (qfu x6 (intOf (cellAt x5 x2 1)).toNat 0 [AV.bool y3.1, AV.bool y3.2.1, AV.view 1 y3.2.2]) (IntKind.i64.wrap (x2 + 1)).toNat 0 3)
 (.at (.next ((x0, if ((qaj (qaz x6 x2.toNat 2)).length : Int) > x1 then ((qaj (qaz x6 x2.toNat 2)).length : Int) else x1, IntKind.i64.wrap (x2 + 1), x3, x4, x5, qfu (qfu x6 (intOf (cellAt x5 x2 1)).toNat 0 [AV.bool y3.1, AV.bool y3.2.1, AV.view 1 y3.2.2]) (IntKind.i64.wrap (x2 + 1)).toNat 0
 [AV.bool y4.1, AV.bool y4.2.1, AV.view 1 y4.2.2]))))
 (.no))
 (.no))
 (.no))
 (.no))
 (.no))
 (.at (.next ((x0, if ((qaj (qaz x6 x2.toNat 2)).length : Int) > x1 then ((qaj (qaz x6 x2.toNat 2)).length : Int) else x1, IntKind.i64.wrap (x2 + 1), x3, x4, x5, qfu x6 (intOf (cellAt x5 x2 1)).toNat 0 [AV.bool y3.1, AV.bool y3.2.1, AV.view 1 y3.2.2])))))
 (.no))
 (.no))
 (.no))
 (.no))
 (.no))
 (.no))
 (.no))
 (.br (intOf (cellAt x5 x2 0) != 4)
 (.br (inB x6.length (IntKind.i64.wrap (x2 + 1)))
 (.br (okP [.bool, .bool, .slice 1] x6 (IntKind.i64.wrap (x2 + 1)).toNat 0)
 (.bi (qfb (qbH (qaz x6 (IntKind.i64.wrap (x2 + 1)).toNat 0)) (qbH (qaz x6 (IntKind.i64.wrap (x2 + 1)).toNat 1)) (qaj (qaz x6 (IntKind.i64.wrap (x2 + 1)).toNat 2))
 y1.1) (fun y3 =>
 .br (inB x6.length (IntKind.i64.wrap (x2 + 1)))
 (.br (okS x6 (IntKind.i64.wrap (x2 + 1)).toNat 0 3)
 (.at (.next ((x0, if ((qaj (qaz x6 x2.toNat 2)).length : Int) > x1 then ((qaj (qaz x6 x2.toNat 2)).length : Int) else x1, IntKind.i64.wrap (x2 + 1), x3, x4, x5, qfu x6 (IntKind.i64.wrap (x2 + 1)).toNat 0 [AV.bool y3.1, AV.bool y3.2.1, AV.view 1 y3.2.2]))))
 (.no))
 (.no))
 (.no))
 (.no))
 (.no))
 (.at (.next ((x0, if ((qaj (qaz x6 x2.toNat 2)).length : Int) > x1 then ((qaj (qaz x6 x2.toNat 2)).length : Int) else x1, IntKind.i64.wrap (x2 + 1), x3, x4, x5, x6))))))
 (.no))
 (.no))))
 (.no))))
 (.no))
 (.no))
 (.no))
 (.at (.done 4))
def qcs : qcm -> DT (Rd qcm) := (fun v => qcj v.1 v.2.1 v.2.2.1 v.2.2.2.1 v.2.2.2.2.1 v.2.2.2.2.2.1 v.2.2.2.2.2.2)
def qeN (v : qcm) : Option (Nat × qcm) := qav (qaq (fun v => (qcs v).ev) v)
theorem qcg (v) : qeN v = qaq (fun v => (qcs v).ev) v := qaa _
def qwP : qb3 := LE (τ := qcm) (hD qwb) (qeN) qXv
theorem qWU : Go.Eng.Told IP (qaf F76 0).1 (qaf F76 0).2 (qwP) := lp (inferInstance : Inhabited qcm) (hs := qwb) qcs qtS qcg
abbrev qBW : Type := Int × Int
def qHq : PArgs := ⟨[.agg [.int .i64, .view 2, .view 3]], []⟩
def qI1 : List PRes := [⟨false, .tup [.int .i64, .int .i64], []⟩]
def qkd (x0 : Int) (x1 x2 : List AV) : DT qBW :=
 .br (decide ((x2.length : Int) > 128))
 (.at ((0, 5)))
 (.bi (qhP x1) (fun y0 =>
 .br (y0 != 0)
 (.at ((0, y0)))
 (.br (decide (0 <= IntKind.i64.wrap ((x2.length : Int) + 1)) && decide (IntKind.i64.wrap ((x2.length : Int) + 1) <= IntKind.i64.wrap ((x2.length : Int) + 1)) &&
 room (IntKind.i64.wrap ((x2.length : Int) + 1)).toNat 32 &&
 decide (IntKind.i64.wrap ((x2.length : Int) + 1) <= 4611686018427387904))
 (.br (inB (List.replicate (IntKind.i64.wrap ((x2.length : Int) + 1)).toNat (AV.agg [AV.bool false, AV.bool false, AV.view 1 []])).length 0)
 (.br (okS (List.replicate (IntKind.i64.wrap ((x2.length : Int) + 1)).toNat (AV.agg [AV.bool false, AV.bool false, AV.view 1 []])) 0 0 1)
 (.bi (pj 0
 (qeN
 ((x2.length : Int), 0, 0, x0, x1, x2,
 qfu (List.replicate (IntKind.i64.wrap ((x2.length : Int) + 1)).toNat (AV.agg [AV.bool false, AV.bool false, AV.view 1 []])) 0 0 [AV.bool true]))) (fun y1 =>
 .at ((0, 9)))
 (.bi (pj 1
 (qeN
 ((x2.length : Int), 0, 0, x0, x1, x2,
 qfu (List.replicate (IntKind.i64.wrap ((x2.length : Int) + 1)).toNat (AV.agg [AV.bool false, AV.bool false, AV.view 1 []])) 0 0 [AV.bool true]))) (fun y1 =>
 .br (inB y1.2.2.2.2.2.2.length y1.1)
 (.br (okP [.slice 1] y1.2.2.2.2.2.2 y1.1.toNat 2)
 (.bi (qgV (qaj (qaz y1.2.2.2.2.2.2 y1.1.toNat 2)) [.int .i64 y1.2.2.2.1]) (fun y2 =>
 .br (!y2)
 (.at ((0, 9)))
 (.at ((if ((qaj (qaz y1.2.2.2.2.2.2 y1.2.2.1.toNat 2)).length : Int) > y1.2.1 then
 ((qaj (qaz y1.2.2.2.2.2.2 y1.2.2.1.toNat 2)).length : Int)
else y1.2.1, 0))))
 (.no))
 (.no))
 (.no))
 (.bi (pj 2
 (qeN
 ((x2.length : Int), 0, 0, x0, x1, x2,
 qfu (List.replicate (IntKind.i64.wrap ((x2.length : Int) + 1)).toNat (AV.agg [AV.bool false, AV.bool false, AV.view 1 []])) 0 0 [AV.bool true]))) (fun y1 =>
 .at ((0, 9)))
 (.bi (pj 3
 (qeN
 ((x2.length : Int), 0, 0, x0, x1, x2,
 qfu (List.replicate (IntKind.i64.wrap ((x2.length : Int) + 1)).toNat (AV.agg [AV.bool false, AV.bool false, AV.view 1 []])) 0 0 [AV.bool true]))) (fun y1 =>
 .at ((0, 5)))
 (.bi (pj 4
 (qeN
 ((x2.length : Int), 0, 0, x0, x1, x2,
 qfu (List.replicate (IntKind.i64.wrap ((x2.length : Int) + 1)).toNat (AV.agg [AV.bool false, AV.bool false, AV.view 1 []])) 0 0 [AV.bool true]))) (fun y1 =>
 .br (inB y1.2.2.2.2.2.2.length y1.1)
 (.br (okP [.slice 1] y1.2.2.2.2.2.2 y1.1.toNat 2)
 (.bi (qgV (qaj (qaz y1.2.2.2.2.2.2 y1.1.toNat 2)) [.int .i64 y1.2.2.2.1]) (fun y2 =>
 .br (!y2) (.at ((0, 9))) (.at ((y1.2.1, 0))))
 (.no))
 (.no))
 (.no))
 (.no))))))
 (.no))
 (.no))
 (.no)))
 (.no))
def qlj (x0 : Int) (x1 x2 : List AV) : Option qBW := qav (qkd x0 x1 x2).ev
theorem qyV (x0 x1 x2) : qlj x0 x1 x2 = (qkd x0 x1 x2).ev := qaa _
theorem qVH : FH IP 76 qHq qI1 (k3 qlj) := qae (F := F76) (L := [(1007600, qwP)]) (t := (k3 qkd)) qtS (qab (l := [qaf F76 0]) (by kernel_rfl) ⟨qau (by kernel_rfl) qWU, trivial⟩) (by kernel_rfl) (fun v => by kernel_rfl) (fun _ => qaa _)
def q9X : Tab := (76, FE qHq qI1 (k3 qlj)) :: q9W
theorem qC9 : qai IP q9X := ⟨qah qVH, qtS⟩
abbrev qPi : Type := Int
def qSc : PArgs := ⟨[.agg [.int .i64, .view 2, .view 3]], []⟩
def qTf : List PRes := [⟨false, .int .i64, []⟩]
def qqZ (x0 : Int) (x1 x2 : List AV) : DT qPi :=
 .bi (qlj x0 x1 x2) (fun y0 =>
 .at (y0.2))
 (.no)
def qn7 (x0 : Int) (x1 x2 : List AV) : Option qPi := qav (qqZ x0 x1 x2).ev
theorem qEK (x0 x1 x2) : qn7 x0 x1 x2 = (qqZ x0 x1 x2).ev := qaa _
theorem q0L : FH IP 44 qSc qTf (k3 qn7) := fh F44 (k3 qqZ) qC9
def q9Y : Tab := (44, FE qSc qTf (k3 qn7)) :: q9X
theorem qtT : qai IP q9Y := ⟨qah q0L, qC9⟩
end
end Go.Proofs.H13

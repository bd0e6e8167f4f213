/- Functions over plain data. Printed by a program of mine. -/
import Derived.Test.YtigchhcddgibhaaGreatDoorD13_4
import Derived.KernelRfl
namespace Go.Proofs.H13
open Go Go.Eng
set_option maxRecDepth 100000
noncomputable section
abbrev qMa : Type := Int × Int × Int
def qzJ : PArgs := ⟨[.agg [.int .i64, .int .i64, .str, .view 4], .view 2, .view 2], []⟩
def qzK : List PRes := [⟨false, .tup [.agg [.int .i64, .int .i64], .int .i64], []⟩]
def lvE : List AV := [.agg [.int .i64 4, .int .i64 0, .str [97], .view 4 []], .agg [.int .i64 1, .int .i64 2, .str [], .view 4 []]]
def lvV : List AV := [.agg [.str [97], .int .i64 1]]
def lvN : List AV := [.agg [.int .i64 1, .int .i64 5]]
def lvI : List AV := [.agg [.int .i64 2, .int .i64 0, .int .i64 0], .agg [.int .i64 1, .int .i64 1, .int .i64 2], .agg [.int .i64 3, .int .i64 5, .int .i64 0]]
def qe0 (x0 x1 : Int) (x2 : List UInt8) (x3 x4 x5 : List AV) : Option qMa := q2K [((5, 0, [], lvE, lvV, lvN), (1, 7, 0))] (x0, x1, x2, x3, x4, x5)
theorem qVb : FH IP 13 qzJ qzK (k6 qe0) := qYn (IP := IP) (f := 13) (p := qzJ) (rs := qzK) (a := ((5, 0, [], lvE, lvV, lvN) : Int × Int × List UInt8 × List AV × List AV × List AV)) (y := ((1, 7, 0) : qMa)) 100 (by kernel_rfl)
def T80 : Tab := (13, FE qzJ qzK (k6 qe0)) :: T78
theorem qQa : qai IP T80 := ⟨qah qVb, qDp⟩
abbrev qXF : Type := Int × List AV × List AV × Int
def qLM : PArgs := ⟨[.agg [.int .i64, .int .i64, .str, .view 4], .view 2], []⟩
def qLR : List PRes := [⟨false, .tup [.agg [.int .i64, .view 2, .view 3], .int .i64], []⟩]
def qm2 (x0 x1 : Int) (x2 : List UInt8) (x3 x4 : List AV) : Option qXF := q2K [((5, 0, [], lvE, lvV), (1, lvV, lvI, 0))] (x0, x1, x2, x3, x4)
theorem q0O : FH IP 19 qLM qLR (k5 qm2) := qYn (IP := IP) (f := 19) (p := qLM) (rs := qLR) (a := ((5, 0, [], lvE, lvV) : Int × Int × List UInt8 × List AV × List AV)) (y := ((1, lvV, lvI, 0) : qXF)) 100 (by kernel_rfl)
def T87 : Tab := (19, FE qLM qLR (k5 qm2)) :: T80
theorem qDr : qai IP T87 := ⟨qah q0O, qQa⟩
abbrev qek : Type := List AV × List AV × Int × Int
def qE2 : List PSt := [⟨[(1013800, .junk), (0, .view 1), (1, .view 1), (12, .int .i64), (13, .int .i64)], [], 0, 0⟩]
def qNG (x0 x1 : List AV) (x2 x3 : Int) : X × St := (.ret, ⟨[(4, .bool false)], [], 0, 0⟩)
def qNH (x0 x1 : List AV) (x2 x3 : Int) : X × St := (.exit 0, ⟨[(4, .junk)], [], 0, 0⟩)
def q3v : List (qek -> X × St) := [(k4 qNG), (k4 qNH)]
def qmk (x0 x1 : List AV) (x2 x3 : Int) : DT (Rd qek) :=
 .br (decide (x3 < x2))
 (.br (qay [.int .i64] x0 x3)
 (.br (qay [.int .i64] x1 x3)
 (.br (intOf (cellAt x0 x3 0) != intOf (cellAt x1 x3 0)) (.at (.done 0)) (.at (.next ((x0, x1, x2, IntKind.i64.wrap (x3 + 1))))))
 (.no))
 (.no))
 (.at (.done 1))
def qmj : qek -> DT (Rd qek) := (fun v => qmk v.1 v.2.1 v.2.2.1 v.2.2.2)
def qrV (v : qek) : Option (Nat × qek) := qav (qaq (fun v => (qmj v).ev) v)
theorem qrW (v) : qrV v = qaq (fun v => (qmj v).ev) v := qaa _
def qFu : qb3 := LE (τ := qek) (hD qE2) (qrV) q3v
theorem q2U : Go.Eng.Told IP (qaf qYD 0).1 (qaf qYD 0).2 (qFu) := lp (inferInstance : Inhabited qek) (hs := qE2) qmj qDr qrW
abbrev qOv : Type := Bool
def qRl : PArgs := ⟨[.view 1, .view 1], []⟩
def qSo : List PRes := [⟨false, .bool, []⟩]
def qqa (x0 x1 : List AV) : DT qOv :=
 .br ((x0.length : Int) != (x1.length : Int))
 (.at (false))
 (.bi (pj 0 (qrV (x0, x1, (x0.length : Int), 0))) (fun y0 =>
 .at (false))
 (.bi (pj 1 (qrV (x0, x1, (x0.length : Int), 0))) (fun y0 =>
 .at (true))
 (.no)))
def qnM (x0 x1 : List AV) : Option qOv := qav (qqa x0 x1).ev
theorem qDV (x0 x1) : qnM x0 x1 = (qqa x0 x1).ev := qaa _
theorem qZX : FH IP 138 qRl qSo (k2 qnM) := qae (F := qYD) (L := [(1013800, qFu)]) (t := (k2 qqa)) qDr (qab (l := [qaf qYD 0]) (by kernel_rfl) ⟨qau (by kernel_rfl) q2U, trivial⟩) (by kernel_rfl) (fun v => by kernel_rfl) (fun _ => qaa _)
def T88 : Tab := (138, FE qRl qSo (k2 qnM)) :: T87
theorem qQf : qai IP T88 := ⟨qah qZX, qDr⟩
abbrev qOB : Type := Int × List AV × List AV × Int × List AV × List AV
def qRr : PArgs := ⟨[.ref 0 0 0, .int .i64, .view 1], [(0, .box [.int .i64, .view 2, .view 3, .own 1 0, .int .i64, .own 2 0] false), (1, .arr 2 false), (2, .arr 1 false)]⟩
def qSu : List PRes := [⟨false, .tup [], [(0, .box [.int .i64, .view 2, .view 3, .own 1 0, .int .i64, .own 2 0] false), (1, .arr 2 false), (2, .arr 1 false)]⟩]
def qqg (x0 : Int) (x1 : List AV) (x2 : Int) (x3 x4 : List AV) (x5 : Int) (x6 x7 : List AV) : DT qOB :=
 .br (inB x6.length x0)
 (.br (okP [.bool] x6 x0.toNat 0)
 (.bi (br (qbH (qaz x6 x0.toNat 0))
 (br (okP [.slice 1] x6 x0.toNat 1)
 (br (sm (qnM (qaj (qaz x6 x0.toNat 1)) x1)) (some !gv (qnM (qaj (qaz x6 x0.toNat 1)) x1)) none) none)
 (some false)) (fun y0 =>
 .br (y0)
 (.br (inB x7.length x0)
 (.br (okS x7 x0.toNat 0 1)
 (.br (okP [.bool] x6 x0.toNat 0)
 (.br (!qbH (qaz x6 x0.toNat 0))
 (.br (decide (x1.length = 0))
 (.br (okS x6 x0.toNat 0 2) (.at ((x2, x3, x4, x5, qfu x6 x0.toNat 0 [AV.bool true, AV.view 1 []], qfu x7 x0.toNat 0 [AV.bool true]))) (.no))
 (.br (decide (x1.length ≠ 0) && decide (x1.length * 8 <= lim))
 (.br (okS x6 x0.toNat 0 2) (.at ((x2, x3, x4, x5, qfu x6 x0.toNat 0 [AV.bool true, AV.view 1 x1], qfu x7 x0.toNat 0 [AV.bool true]))) (.no))
 (.no)))
 (.at ((x2, x3, x4, x5, x6, qfu x7 x0.toNat 0 [AV.bool true]))))
 (.no))
 (.no))
 (.no))
 (.br (okP [.bool] x6 x0.toNat 0)
 (.br (!qbH (qaz x6 x0.toNat 0))
 (.br (decide (x1.length = 0))
 (.br (okS x6 x0.toNat 0 2) (.at ((x2, x3, x4, x5, qfu x6 x0.toNat 0 [AV.bool true, AV.view 1 []], x7))) (.no))
 (.br (decide (x1.length ≠ 0) && decide (x1.length * 8 <= lim))
 (.br (okS x6 x0.toNat 0 2) (.at ((x2, x3, x4, x5, qfu x6 x0.toNat 0 [AV.bool true, AV.view 1 x1], x7))) (.no))
 (.no)))
 (.at ((x2, x3, x4, x5, x6, x7))))
 (.no)))
 (.no))
 (.no))
 (.no)
def qgU (x0 : Int) (x1 : List AV) (x2 : Int) (x3 x4 : List AV) (x5 : Int) (x6 x7 : List AV) : Option qOB := qav (qqg x0 x1 x2 x3 x4 x5 x6 x7).ev
theorem qD1 (x0 x1 x2 x3 x4 x5 x6 x7) : qgU x0 x1 x2 x3 x4 x5 x6 x7 = (qqg x0 x1 x2 x3 x4 x5 x6 x7).ev := qaa _
theorem qZ5 : FH IP 128 qRr qSu (k8 qgU) := fh q5v (k8 qqg) qQf
def T89 : Tab := (128, FE qRr qSu (k8 qgU)) :: T88
theorem qQg : qai IP T89 := ⟨qah qZ5, qQf⟩
abbrev qOT : Type := Bool
def qRK : PArgs := ⟨[.agg [.int .i64, .int .i64, .int .i64]], []⟩
def qSN : List PRes := [⟨false, .bool, []⟩]
def qqx (x0 x1 x2 : Int) : DT qOT :=
 .br (x1 == 1)
 (.at (decide (x2 >= 0)))
 (.br (x1 == 2)
 (.bi (br (decide (x2 >= 0)) (some (decide (x2 <= 1000000000000))) (some false)) (fun y0 =>
 .at (y0))
 (.no))
 (.br (x1 == 3)
 (.bi (br (decide (x2 >= 0)) (some (decide (x2 <= 1000000))) (some false)) (fun y0 =>
 .at (y0))
 (.no))
 (.at (false))))
def qnX (x0 x1 x2 : Int) : Option qOT := qav (qqx x0 x1 x2).ev
theorem qEi (x0 x1 x2) : qnX x0 x1 x2 = (qqx x0 x1 x2).ev := qaa _
theorem q0k : FH IP 140 qRK qSN (k3 qnX) := fh q5D (k3 qqx) qQg
def T90 : Tab := (140, FE qRK qSN (k3 qnX)) :: T89
theorem qQh : qai IP T90 := ⟨qah q0k, qQg⟩
abbrev qCb : Type := List AV × Bool
def qSg : PArgs := ⟨[.int .i64, .view 1], []⟩
def qTj : List PRes := [⟨false, .tup [.view 1, .bool], []⟩]
def qq3 (x0 : Int) (x1 : List AV) : DT qCb :=
 .bi (br (x0 == 9) (some true) (some (x0 == 16))) (fun y0 =>
 .br (y0)
 (.bi (br (decide (x0 < 5)) (some true) (some (decide (x0 > 18)))) (fun y1 =>
 .bi (br y1 (some true) (some (decide (IntKind.i64.wrap ((x1.length : Int) - 1) < 0)))) (fun y2 =>
 .br (y2)
 (.at (([], false)))
 (.br (leB (IntKind.i64.wrap ((x1.length : Int) - 1)) x1.length)
 (.bi (qb4 x0 (List.drop (IntKind.i64.wrap ((x1.length : Int) - 1)).toNat x1)) (fun y3 =>
 .br (leB (IntKind.i64.wrap ((x1.length : Int) - 1)) x1.length && true)
 (.br (decide ((List.take (IntKind.i64.wrap ((x1.length : Int) - 1)).toNat x1).length = 0))
 (.at (([.int .i64 y3.1], y3.2)))
 (.br (decide ((List.take (IntKind.i64.wrap ((x1.length : Int) - 1)).toNat x1).length ≠ 0) && decide ((List.take (IntKind.i64.wrap ((x1.length : Int) - 1)).toNat x1).length * 8 <= lim))
 (.br (room ((List.take (IntKind.i64.wrap ((x1.length : Int) - 1)).toNat x1).length + 1) 8)
 (.at ((List.take (IntKind.i64.wrap ((x1.length : Int) - 1)).toNat x1 ++ [AV.int IntKind.i64 y3.1], y3.2)))
 (.no))
 (.no)))
 (.no))
 (.no))
 (.no)))
 (.no))
 (.no))
 (.bi (br (decide (x0 < 5)) (some true) (some (decide (x0 > 18)))) (fun y1 =>
 .bi (br y1 (some true) (some (decide (IntKind.i64.wrap ((x1.length : Int) - 2) < 0)))) (fun y2 =>
 .br (y2)
 (.at (([], false)))
 (.br (leB (IntKind.i64.wrap ((x1.length : Int) - 2)) x1.length)
 (.bi (qb4 x0 (List.drop (IntKind.i64.wrap ((x1.length : Int) - 2)).toNat x1)) (fun y3 =>
 .br (leB (IntKind.i64.wrap ((x1.length : Int) - 2)) x1.length && true)
 (.br (decide ((List.take (IntKind.i64.wrap ((x1.length : Int) - 2)).toNat x1).length = 0))
 (.at (([.int .i64 y3.1], y3.2)))
 (.br (decide ((List.take (IntKind.i64.wrap ((x1.length : Int) - 2)).toNat x1).length ≠ 0) && decide ((List.take (IntKind.i64.wrap ((x1.length : Int) - 2)).toNat x1).length * 8 <= lim))
 (.br (room ((List.take (IntKind.i64.wrap ((x1.length : Int) - 2)).toNat x1).length + 1) 8)
 (.at ((List.take (IntKind.i64.wrap ((x1.length : Int) - 2)).toNat x1 ++ [AV.int IntKind.i64 y3.1], y3.2)))
 (.no))
 (.no)))
 (.no))
 (.no))
 (.no)))
 (.no))
 (.no)))
 (.no)
def qrO (x0 : Int) (x1 : List AV) : Option qCb := qav (qq3 x0 x1).ev
theorem qEO (x0 x1) : qrO x0 x1 = (qq3 x0 x1).ev := qaa _
theorem q0Q : FH IP 141 qSg qTj (k2 qrO) := fh q5E (k2 qq3) qQh
def T91 : Tab := (141, FE qSg qTj (k2 qrO)) :: T90
theorem qQi : qai IP T91 := ⟨qah q0Q, qQh⟩
end
end Go.Proofs.H13

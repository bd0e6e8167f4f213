/- Functions over plain data. Printed by a program of mine. -/
import Derived.Test.YthljpgljbpdmjaaGreatDoorD15c_3
import Derived.KernelRfl
set_option linter.unusedVariables false
set_option linter.unusedSimpArgs false
set_option linter.unnecessarySimpa false
namespace Go.Proofs.H15c
open Go Go.Eng
set_option maxRecDepth 100000
noncomputable section
def qaj : Nat → qbf × qdc × qbQ × qbW
 | 0 => (fun _ _ _ _ => none, fun _ => none, fun _ => none, fun _ _ _ _ => none)
 | n + 1 => (fun x0 x1 x2 x3 => (qpu ((qaj n).1) ((qaj n).2.1) ((qaj n).2.2.1) ((qaj n).2.2.2) x0 x1 x2 x3).ev, fun x0 => (qEJ ((qaj n).1) ((qaj n).2.1) ((qaj n).2.2.1) ((qaj n).2.2.2) x0).ev, fun x0 => (quv ((qaj n).1) ((qaj n).2.1) ((qaj n).2.2.1) ((qaj n).2.2.2) x0).ev, fun x0 x1 x2 x3 => (quy ((qaj n).1) ((qaj n).2.1) ((qaj n).2.2.1) ((qaj n).2.2.2) x0 x1 x2 x3).ev)
def qoP (x0 x1 : Int) (x2 : List UInt8) (x3 : List AV) : Option qsQ := qiE fun n => (qaj n).1 x0 x1 x2 x3
def qPL (x0 : List AV) : Option qLD := qiE fun n => (qaj n).2.1 x0
def qJz (x0 : List AV) : Option qyB := qiE fun n => (qaj n).2.2.1 x0
def qJB (x0 x1 : Int) (x2 : List UInt8) (x3 : List AV) : Option qy6 := qiE fun n => (qaj n).2.2.2 x0 x1 x2 x3
theorem qdB : ∀ n, qoq ((qaj n).1) ((qaj n).2.1) ((qaj n).2.2.1) ((qaj n).2.2.2)
 | 0 => ⟨(fun v y h => nomatch h), (fun v y h => nomatch h), (fun v y h => nomatch h), (fun v y h => nomatch h)⟩
 | n + 1 => have hG := qdB n
 ⟨qah (F := F86) (L := []) (t := (k4 (qpu ((qaj n).1) ((qaj n).2.1) ((qaj n).2.2.1) ((qaj n).2.2.2)))) (qcT ((qaj n).1) ((qaj n).2.1) ((qaj n).2.2.1) ((qaj n).2.2.2) hG) (qad (l := []) (by kernel_rfl) trivial) (by kernel_rfl) (fun v => by kernel_rfl) (fun v => rfl), qah (F := qRI) (L := []) (t := (qEJ ((qaj n).1) ((qaj n).2.1) ((qaj n).2.2.1) ((qaj n).2.2.2))) (qcT ((qaj n).1) ((qaj n).2.1) ((qaj n).2.2.1) ((qaj n).2.2.2) hG) (qad (l := []) (by kernel_rfl) trivial) (by kernel_rfl) (fun v => by kernel_rfl) (fun v => rfl), qah (F := qFq) (L := [(1013300, qBX ((qaj n).1) ((qaj n).2.1) ((qaj n).2.2.1) ((qaj n).2.2.2))]) (t := (quv ((qaj n).1) ((qaj n).2.1) ((qaj n).2.2.1) ((qaj n).2.2.2))) (qcT ((qaj n).1) ((qaj n).2.1) ((qaj n).2.2.1) ((qaj n).2.2.2) hG) (qad (l := [qae qFq 0]) (by kernel_rfl) ⟨qax (by kernel_rfl) (qQz ((qaj n).1) ((qaj n).2.1) ((qaj n).2.2.1) ((qaj n).2.2.2) hG), trivial⟩) (by kernel_rfl) (fun v => by kernel_rfl) (fun v => rfl), qah (F := qRJ) (L := []) (t := (k4 (quy ((qaj n).1) ((qaj n).2.1) ((qaj n).2.2.1) ((qaj n).2.2.2)))) (qcT ((qaj n).1) ((qaj n).2.1) ((qaj n).2.2.1) ((qaj n).2.2.2) hG) (qad (l := []) (by kernel_rfl) trivial) (by kernel_rfl) (fun v => by kernel_rfl) (fun v => rfl)⟩
theorem qLR : FH IP 86 qli qlw (k4 qoP) := qbL (p := qli) (rs := qlw) (s := fun n => (k4 ((qaj n).1))) fun n => (qdB n).1
theorem qSL : FH IP 108 qDB qEm qPL := qbL (p := qDB) (rs := qEm) (s := fun n => ((qaj n).2.1)) fun n => (qdB n).2.1
theorem qON : FH IP 133 qsf qsk qJz := qbL (p := qsf) (rs := qsk) (s := fun n => ((qaj n).2.2.1)) fun n => (qdB n).2.2.1
theorem qPc : FH IP 109 qsi qsn (k4 qJB) := qbL (p := qsi) (rs := qsn) (s := fun n => (k4 ((qaj n).2.2.2))) fun n => (qdB n).2.2.2
def T54 : Tab := (86, FE qli qlw (k4 qoP)) :: T53
theorem qOw : qan IP T54 := ⟨qam qLR, qI0⟩
def T55 : Tab := (108, FE qDB qEm qPL) :: T54
theorem qOx : qan IP T55 := ⟨qam qSL, qOw⟩
def T56 : Tab := (133, FE qsf qsk qJz) :: T55
theorem qOy : qan IP T56 := ⟨qam qON, qOx⟩
def T57 : Tab := (109, FE qsi qsn (k4 qJB)) :: T56
theorem qI1 : qan IP T57 := ⟨qam qPc, qOy⟩
abbrev qH6 : Type := Int
def qKh : PArgs := ⟨[.agg [.int .i64, .int .i64, .str, .view 4]], []⟩
def qK6 : List PRes := [⟨false, .int .i64, []⟩]
def qpZ (x0 x1 : Int) (x2 : List UInt8) (x3 : List AV) : DT qH6 :=
 .bi (qoQ x0 x1 x2 x3) (fun y0 =>
 .bi (br (decide (y0 > 64)) (some true) (br (sm (qj3 x0 x1 x2 x3)) (some (decide (gv (qj3 x0 x1 x2 x3) > 8))) none)) (fun y1 =>
 .br (y1)
 (.at (5))
 (.bi (qoR x0 x1 x2 x3) (fun y2 =>
 .br (!y2)
 (.at (1))
 (.bi (qoP x0 x1 x2 x3) (fun y3 =>
 .br (!y3) (.at (4)) (.at (0)))
 (.no)))
 (.no)))
 (.no))
 (.no)
def qnn (x0 x1 : Int) (x2 : List UInt8) (x3 : List AV) : Option qH6 := qaF (qpZ x0 x1 x2 x3).ev
theorem qAE (x0 x1 : Int) (x2 : List UInt8) (x3 : List AV) : qnn x0 x1 x2 x3 = (qpZ x0 x1 x2 x3).ev := qaa _
theorem qPb : FH IP 73 qKh qK6 (k4 qnn) := qah (F := F73) (L := []) (t := (k4 qpZ)) qI1 (qad (l := []) (by kernel_rfl) trivial) (by kernel_rfl) (fun v => by kernel_rfl) (fun _ => qaa _)
def T58 : Tab := (73, FE qKh qK6 (k4 qnn)) :: T57
theorem qI2 : qan IP T58 := ⟨qam qPb, qI1⟩
abbrev qIx : Type := Bool
def qKI : PArgs := ⟨[.int .i64], []⟩
def qLx : List PRes := [⟨false, .bool, []⟩]
def qqq (x0 : Int) : DT qIx :=
 .bi (br (decide (x0 ≥ 1)) (some (decide (x0 ≤ 5))) (some false)) (fun y0 =>
 .at (y0))
 (.no)
def qnB (x0 : Int) : Option qIx := qaF (qqq x0).ev
theorem qA7 (x0 : Int) : qnB x0 = (qqq x0).ev := qaa _
theorem qPE : FH IP 74 qKI qLx qnB := qah (F := F74) (L := []) (t := qqq) qI2 (qad (l := []) (by kernel_rfl) trivial) (by kernel_rfl) (fun v => by kernel_rfl) (fun _ => qaa _)
def T59 : Tab := (74, FE qKI qLx qnB) :: T58
theorem qzx : qan IP T59 := ⟨qam qPE, qI2⟩
abbrev qd0 : Type := List UInt8 × List AV × Int × Int
def qBk : List PSt := [⟨[(1008900, .junk), (0, .str), (8, .view 2), (9, .int .i64), (10, .int .i64)], [], 0, 0⟩]
def qGQ (x0 : List UInt8) (x1 : List AV) (x2 x3 : Int) : X × St := (X.ret, ⟨[(4, AV.int IntKind.i64 0), (5, AV.int IntKind.i64 3)], [], 0, 0⟩)
def qGR (x0 : List UInt8) (x1 : List AV) (x2 x3 : Int) : X × St := (X.ret, ⟨[(4, AV.int IntKind.i64 (intOf (cellAt x1 x3 1))), (5, AV.int IntKind.i64 0)], [], 0, 0⟩)
def qGS (x0 : List UInt8) (x1 : List AV) (x2 x3 : Int) : X × St := (X.exit 0, ⟨[(4, AV.junk), (5, AV.junk)], [], 0, 0⟩)
def qRe : List (qd0 → X × St) := [(k4 qGQ), (k4 qGR), (k4 qGS)]
def ql4 (x0 : List UInt8) (x1 : List AV) (x2 x3 : Int) : DT (Rd qd0) :=
 .br (decide (x3 < x2))
 (.br (qaS [CS.str, CS.int IntKind.i64] x1 x3)
 (.br (strOf (cellAt x1 x3 0) == x0)
 (.bi (qnB (intOf (cellAt x1 x3 1))) (fun y0 =>
 .br (!y0) (.at (.done 0)) (.at (.done 1)))
 (.no))
 (.at (.next ((x0, x1, x2, IntKind.i64.wrap (x3 + 1))))))
 (.no))
 (.at (.done 2))
def ql3 : qd0 → DT (Rd qd0) := (fun v => ql4 v.1 v.2.1 v.2.2.1 v.2.2.2)
def qnY (v : qd0) : Option (Nat × qd0) := qaF (qao (fun v => (ql3 v).ev) v)
theorem qrk (v : qd0) : qnY v = qao (fun v => (ql3 v).ev) v := qaa _
def qB2 : qb3 := LE (τ := qd0) (hD qBk) (qnY) qRe
theorem qQE : Go.Eng.Told IP (qae F89 0).1 (qae F89 0).2 (qB2) := qaw (inferInstance : Inhabited qd0) (hs := qBk) (st := ql3) (L := []) qzx (qad (l := []) (by kernel_rfl) trivial) (qrk) (fun v => by kernel_rfl) (fun v => by kernel_rfl)
abbrev qH0 : Type := Int × Int
def qKa : PArgs := ⟨[.str, .view 2], []⟩
def qKZ : List PRes := [⟨false, .tup [.int .i64, .int .i64], []⟩]
def qpS (x0 : List UInt8) (x1 : List AV) : DT qH0 :=
 .bi (pj 0 (qnY (x0, x1, (x1.length : Int), 0))) (fun y0 =>
 .at ((0, 3)))
 (.bi (pj 1 (qnY (x0, x1, (x1.length : Int), 0))) (fun y0 =>
 .at ((intOf (cellAt y0.2.1 y0.2.2.2 1), 0)))
 (.bi (pj 2 (qnY (x0, x1, (x1.length : Int), 0))) (fun y0 =>
 .at ((0, 4)))
 (.no)))
def qnk (x0 : List UInt8) (x1 : List AV) : Option qH0 := qaF (qpS x0 x1).ev
theorem qAx (x0 : List UInt8) (x1 : List AV) : qnk x0 x1 = (qpS x0 x1).ev := qaa _
theorem qO3 : FH IP 89 qKa qKZ (k2 qnk) := qah (F := F89) (L := [(1008900, qB2)]) (t := (k2 qpS)) qzx (qad (l := [qae F89 0]) (by kernel_rfl) ⟨qax (by kernel_rfl) qQE, trivial⟩) (by kernel_rfl) (fun v => by kernel_rfl) (fun _ => qaa _)
def T60 : Tab := (89, FE qKa qKZ (k2 qnk)) :: T59
theorem qzy : qan IP T60 := ⟨qam qO3, qzx⟩
abbrev qd6 : Type := Int × List AV × List AV × Int × Int
def qBt : List PSt := [⟨[(1009000, .junk), (0, .int .i64), (1, .view 1), (10, .view 1), (11, .int .i64), (12, .int .i64)], [], 0, 0⟩]
def qG9 (x0 : Int) (x1 x2 : List AV) (x3 x4 : Int) : X × St := (X.ret, ⟨[(0, AV.int IntKind.i64 x0), (1, AV.view 1 x1), (4, AV.int IntKind.i64 0), (5, AV.bool false)], [], 0, 0⟩)
def qHa (x0 : Int) (x1 x2 : List AV) (x3 x4 : Int) : X × St := (X.exit 0, ⟨[(0, AV.int IntKind.i64 x0), (1, AV.view 1 x1), (4, AV.junk), (5, AV.junk)], [], 0, 0⟩)
def qRn : List (qd6 → X × St) := [(k5 qG9), (k5 qHa)]
def qmg (x0 : Int) (x1 x2 : List AV) (x3 x4 : Int) : DT (Rd qd6) :=
 .br (decide (x4 < x3))
 (.br (qaS [CS.int IntKind.i64] x2 x4)
 (.bi (qnB (intOf (cellAt x2 x4 0))) (fun y0 =>
 .br (!y0) (.at (.done 0)) (.at (.next ((x0, x1, x2, x3, IntKind.i64.wrap (x4 + 1))))))
 (.no))
 (.no))
 (.at (.done 1))
def qmf : qd6 → DT (Rd qd6) := (fun v => qmg v.1 v.2.1 v.2.2.1 v.2.2.2.1 v.2.2.2.2)
def qrt (v : qd6) : Option (Nat × qd6) := qaF (qao (fun v => (qmf v).ev) v)
theorem qru (v : qd6) : qrt v = qao (fun v => (qmf v).ev) v := qaa _
def qCb : qb3 := LE (τ := qd6) (hD qBt) (qrt) qRn
theorem qQN : Go.Eng.Told IP (qae F90 0).1 (qae F90 0).2 (qCb) := qaw (inferInstance : Inhabited qd6) (hs := qBt) (st := qmf) (L := []) qzy (qad (l := []) (by kernel_rfl) trivial) (qru) (fun v => by kernel_rfl) (fun v => by kernel_rfl)
abbrev qyF : Type := Int × Bool
def qDb : PArgs := ⟨[.int .i64, .int .i64], []⟩
def qDX : List PRes := [⟨false, .tup [.int .i64, .bool], []⟩]
def qi8 (x0 x1 : Int) : DT qyF :=
 .br (x0 == 16)
 (.at ((5, x1 == 5)))
 (.br (x0 == 9)
 (.bi (br (x1 == 1) (some true) (some (x1 == 2))) (fun y0 =>
 .bi (br y0 (some true) (some (x1 == 3))) (fun y1 =>
 .at ((x1, y1)))
 (.no))
 (.no))
 (.at ((0, false))))
def qj9 (x0 x1 : Int) : Option qyF := qaF (qi8 x0 x1).ev
theorem qwG (x0 x1 : Int) : qj9 x0 x1 = (qi8 x0 x1).ev := qaa _
theorem qMc : FH IP 112 qDb qDX (k2 qj9) := qah (F := qR4) (L := []) (t := (k2 qi8)) qzy (qad (l := []) (by kernel_rfl) trivial) (by kernel_rfl) (fun v => by kernel_rfl) (fun _ => qaa _)
def T61 : Tab := (112, FE qDb qDX (k2 qj9)) :: T60
theorem qOA : qan IP T61 := ⟨qam qMc, qzy⟩
abbrev qHX : Type := List (AV × AV)
def qJ7 : PArgs := ⟨[], []⟩
def qKW : List PRes := [⟨false, .mref 0, [(0, .mp)]⟩]
def qux : DT qHX :=
 .at ([(AV.agg [AV.int IntKind.i64 5, AV.int IntKind.i64 1, AV.int IntKind.i64 1], AV.int IntKind.i64 1),
 (AV.agg [AV.int IntKind.i64 5, AV.int IntKind.i64 2, AV.int IntKind.i64 2], AV.int IntKind.i64 2),
 (AV.agg [AV.int IntKind.i64 5, AV.int IntKind.i64 3, AV.int IntKind.i64 3], AV.int IntKind.i64 3),
 (AV.agg [AV.int IntKind.i64 5, AV.int IntKind.i64 4, AV.int IntKind.i64 1], AV.int IntKind.i64 4),
 (AV.agg [AV.int IntKind.i64 6, AV.int IntKind.i64 1, AV.int IntKind.i64 1], AV.int IntKind.i64 1),
 (AV.agg [AV.int IntKind.i64 6, AV.int IntKind.i64 2, AV.int IntKind.i64 2], AV.int IntKind.i64 2),
 (AV.agg [AV.int IntKind.i64 6, AV.int IntKind.i64 3, AV.int IntKind.i64 3], AV.int IntKind.i64 3),
 (AV.agg [AV.int IntKind.i64 6, AV.int IntKind.i64 4, AV.int IntKind.i64 1], AV.int IntKind.i64 4),
 (AV.agg [AV.int IntKind.i64 6, AV.int IntKind.i64 4, AV.int IntKind.i64 4], AV.int IntKind.i64 1),
 (AV.agg [AV.int IntKind.i64 7, AV.int IntKind.i64 1, AV.int IntKind.i64 1], AV.int IntKind.i64 1),
 (AV.agg [AV.int IntKind.i64 7, AV.int IntKind.i64 1, AV.int IntKind.i64 2], AV.int IntKind.i64 2),
 (AV.agg [AV.int IntKind.i64 7, AV.int IntKind.i64 1, AV.int IntKind.i64 3], AV.int IntKind.i64 3),
 (AV.agg [AV.int IntKind.i64 7, AV.int IntKind.i64 2, AV.int IntKind.i64 1], AV.int IntKind.i64 2),
 (AV.agg [AV.int IntKind.i64 7, AV.int IntKind.i64 2, AV.int IntKind.i64 3], AV.int IntKind.i64 2),
 (AV.agg [AV.int IntKind.i64 7, AV.int IntKind.i64 3, AV.int IntKind.i64 1], AV.int IntKind.i64 3),
 (AV.agg [AV.int IntKind.i64 7, AV.int IntKind.i64 3, AV.int IntKind.i64 2], AV.int IntKind.i64 2),
 (AV.agg [AV.int IntKind.i64 8, AV.int IntKind.i64 1, AV.int IntKind.i64 1], AV.int IntKind.i64 1),
 (AV.agg [AV.int IntKind.i64 8, AV.int IntKind.i64 2, AV.int IntKind.i64 1], AV.int IntKind.i64 2),
 (AV.agg [AV.int IntKind.i64 8, AV.int IntKind.i64 2, AV.int IntKind.i64 2], AV.int IntKind.i64 1),
 (AV.agg [AV.int IntKind.i64 8, AV.int IntKind.i64 3, AV.int IntKind.i64 1], AV.int IntKind.i64 3)])
def qbH : Option qHX := qaF (qux).ev
theorem qAu : qbH = (qux).ev := qaa _
theorem qO0 : FH IP 135 qJ7 qKW (fun _ => qbH) := qPG (fun _ => qaa _) (fun v => by kernel_rfl)
def T62 : Tab := (135, FE qJ7 qKW (fun _ => qbH)) :: T61
theorem qI3 : qan IP T62 := ⟨qam qO0, qOA⟩
abbrev qyG : Type := Int × Bool
def qDc : PArgs := ⟨[.int .i64, .int .i64, .int .i64], []⟩
def qDY : List PRes := [⟨false, .tup [.int .i64, .bool], []⟩]
def qi9 (x0 x1 x2 : Int) : DT qyG :=
 .br (x0 == 10)
 (.br (x0 == 10)
 (.at ((5, x1 == x2)))
 (.br (x0 == 12)
 (.br (x0 == 12)
 (.bi (br (x1 == x2) (some (x1 != 5)) (some false)) (fun y0 =>
 .at ((5, y0)))
 (.no))
 (.br (x0 == 14)
 (.br (x0 == 14)
 (.bi (br (x1 == x2) (some (x1 == 5)) (some false)) (fun y0 =>
 .at ((5, y0)))
 (.no))
 (.br (x0 == 17)
 (.br (x0 == 17)
 (.bi (br (x1 == x2) (some (x1 != 5)) (some false)) (fun y0 =>
 .at ((x1, y0)))
 (.no))
 (.bi (qbH) (fun y0 =>
 .br (qmY (true, [EK.i, EK.i, EK.i]) y0 (AV.agg [AV.int IntKind.i64 x0, AV.int IntKind.i64 x1, AV.int IntKind.i64 x2]))
 (.br (okE false [CS.int IntKind.i64] [qcm (true, [EK.i, EK.i, EK.i]) y0 (AV.agg [AV.int IntKind.i64 x0, AV.int IntKind.i64 x1, AV.int IntKind.i64 x2])] 0)
 (.at ((intOf (cellAt [qcm (true, [EK.i, EK.i, EK.i]) y0 (AV.agg [AV.int IntKind.i64 x0, AV.int IntKind.i64 x1, AV.int IntKind.i64 x2])] 0 0), intOf (cellAt [qcm (true, [EK.i, EK.i, EK.i]) y0 (AV.agg [AV.int IntKind.i64 x0, AV.int IntKind.i64 x1, AV.int IntKind.i64 x2])] 0 0) != 0)))
 (.no))
 (.br (qn2 (true, [EK.i, EK.i, EK.i]) y0 (AV.agg [AV.int IntKind.i64 x0, AV.int IntKind.i64 x1, AV.int IntKind.i64 x2])) (.at ((0, false))) (.no)))
 (.no)))
 (.br (x0 == 18)
 (.bi (br (x1 == x2) (some (x1 != 5)) (some false)) (fun y0 =>
 .at ((x1, y0)))
 (.no))
 (.bi (qbH) (fun y0 =>
 .br (qmY (true, [EK.i, EK.i, EK.i]) y0 (AV.agg [AV.int IntKind.i64 x0, AV.int IntKind.i64 x1, AV.int IntKind.i64 x2]))
 (.br (okE false [CS.int IntKind.i64] [qcm (true, [EK.i, EK.i, EK.i]) y0 (AV.agg [AV.int IntKind.i64 x0, AV.int IntKind.i64 x1, AV.int IntKind.i64 x2])] 0)
 (.at ((intOf (cellAt [qcm (true, [EK.i, EK.i, EK.i]) y0 (AV.agg [AV.int IntKind.i64 x0, AV.int IntKind.i64 x1, AV.int IntKind.i64 x2])] 0 0), intOf (cellAt [qcm (true, [EK.i, EK.i, EK.i]) y0 (AV.agg [AV.int IntKind.i64 x0, AV.int IntKind.i64 x1, AV.int IntKind.i64 x2])] 0 0) != 0)))
 (.no))
 (.br (qn2 (true, [EK.i, EK.i, EK.i]) y0 (AV.agg [AV.int IntKind.i64 x0, AV.int IntKind.i64 x1, AV.int IntKind.i64 x2])) (.at ((0, false))) (.no)))
 (.no)))))
 (.br (x0 == 15)
 (.bi (br (x1 == x2) (some (x1 == 5)) (some false)) (fun y0 =>
 .at ((5, y0)))
 (.no))
 (.br (x0 == 17)
 (.br (x0 == 17)
 (.bi (br (x1 == x2) (some (x1 != 5)) (some false)) (fun y0 =>
 .at ((x1, y0)))
 (.no))
 (.bi (qbH) (fun y0 =>
 .br (qmY (true, [EK.i, EK.i, EK.i]) y0 (AV.agg [AV.int IntKind.i64 x0, AV.int IntKind.i64 x1, AV.int IntKind.i64 x2]))
 (.br (okE false [CS.int IntKind.i64] [qcm (true, [EK.i, EK.i, EK.i]) y0 (AV.agg [AV.int IntKind.i64 x0, AV.int IntKind.i64 x1, AV.int IntKind.i64 x2])] 0)
 (.at ((intOf (cellAt [qcm (true, [EK.i, EK.i, EK.i]) y0 (AV.agg [AV.int IntKind.i64 x0, AV.int IntKind.i64 x1, AV.int IntKind.i64 x2])] 0 0), intOf (cellAt [qcm (true, [EK.i, EK.i, EK.i]) y0 (AV.agg [AV.int IntKind.i64 x0, AV.int IntKind.i64 x1, AV.int IntKind.i64 x2])] 0 0) != 0)))
 (.no))
 (.br (qn2 (true, [EK.i, EK.i, EK.i]) y0 (AV.agg [AV.int IntKind.i64 x0, AV.int IntKind.i64 x1, AV.int IntKind.i64 x2])) (.at ((0, false))) (.no)))
 (.no)))
 (.br (x0 == 18)
 (.bi (br (x1 == x2) (some (x1 != 5)) (some false)) (fun y0 =>
 .at ((x1, y0)))
 (.no))
 (.bi (qbH) (fun y0 =>
 .br (qmY (true, [EK.i, EK.i, EK.i]) y0 (AV.agg [AV.int IntKind.i64 x0, AV.int IntKind.i64 x1, AV.int IntKind.i64 x2]))
 (.br (okE false [CS.int IntKind.i64] [qcm (true, [EK.i, EK.i, EK.i]) y0 (AV.agg [AV.int IntKind.i64 x0, AV.int IntKind.i64 x1, AV.int IntKind.i64 x2])] 0)
 (.at ((intOf (cellAt [qcm (true, [EK.i, EK.i, EK.i]) y0 (AV.agg [AV.int IntKind.i64 x0, AV.int IntKind.i64 x1, AV.int IntKind.i64 x2])] 0 0), intOf (cellAt [qcm (true, [EK.i, EK.i, EK.i]) y0 (AV.agg [AV.int IntKind.i64 x0, AV.int IntKind.i64 x1, AV.int IntKind.i64 x2])] 0 0) != 0)))
 (.no))
 (.br (qn2 (true, [EK.i, EK.i, EK.i]) y0 (AV.agg [AV.int IntKind.i64 x0, AV.int IntKind.i64 x1, AV.int IntKind.i64 x2])) (.at ((0, false))) (.no)))
 (.no)))))))
 (.br (x0 == 13)
 (.bi (br (x1 == x2) (some (x1 != 5)) (some false)) (fun y0 =>
 .at ((5, y0)))
 (.no))
 (.br (x0 == 14)
 (.br (x0 == 14)
 (.bi (br (x1 == x2) (some (x1 == 5)) (some false)) (fun y0 =>
 .at ((5, y0)))
 (.no))
 (.br (x0 == 17)
 (.br (x0 == 17)
 (.bi (br (x1 == x2) (some (x1 != 5)) (some false)) (fun y0 =>
 .at ((x1, y0)))
 (.no))
 (.bi (qbH) (fun y0 =>
 .br (qmY (true, [EK.i, EK.i, EK.i]) y0 (AV.agg [AV.int IntKind.i64 x0, AV.int IntKind.i64 x1, AV.int IntKind.i64 x2]))
 (.br (okE false [CS.int IntKind.i64] [qcm (true, [EK.i, EK.i, EK.i]) y0 (AV.agg [AV.int IntKind.i64 x0, AV.int IntKind.i64 x1, AV.int IntKind.i64 x2])] 0)
 (.at ((intOf (cellAt [qcm (true, [EK.i, EK.i, EK.i]) y0 (AV.agg [AV.int IntKind.i64 x0, AV.int IntKind.i64 x1, AV.int IntKind.i64 x2])] 0 0), intOf (cellAt [qcm (true, [EK.i, EK.i, EK.i]) y0 (AV.agg [AV.int IntKind.i64 x0, AV.int IntKind.i64 x1, AV.int IntKind.i64 x2])] 0 0) != 0)))
 (.no))
 (.br (qn2 (true, [EK.i, EK.i, EK.i]) y0 (AV.agg [AV.int IntKind.i64 x0, AV.int IntKind.i64 x1, AV.int IntKind.i64 x2])) (.at ((0, false))) (.no)))
 (.no)))
 (.br (x0 == 18)
 (.bi (br (x1 == x2) (some (x1 != 5)) (some false)) (fun y0 =>
 .at ((x1, y0)))
 (.no))
 (.bi (qbH) (fun y0 =>
 .br (qmY (true, [EK.i, EK.i, EK.i]) y0 (AV.agg [AV.int IntKind.i64 x0, AV.int IntKind.i64 x1, AV.int IntKind.i64 x2]))
 (.br (okE false [CS.int IntKind.i64] [qcm (true, [EK.i, EK.i, EK.i]) y0 (AV.agg [AV.int IntKind.i64 x0, AV.int IntKind.i64 x1, AV.int IntKind.i64 x2])] 0)
 (.at ((intOf (cellAt [qcm (true, [EK.i, EK.i, EK.i]) y0 (AV.agg [AV.int IntKind.i64 x0, AV.int IntKind.i64 x1, AV.int IntKind.i64 x2])] 0 0), intOf (cellAt [qcm (true, [EK.i, EK.i, EK.i]) y0 (AV.agg [AV.int IntKind.i64 x0, AV.int IntKind.i64 x1, AV.int IntKind.i64 x2])] 0 0) != 0)))
 (.no))
 (.br (qn2 (true, [EK.i, EK.i, EK.i]) y0 (AV.agg [AV.int IntKind.i64 x0, AV.int IntKind.i64 x1, AV.int IntKind.i64 x2])) (.at ((0, false))) (.no)))
 (.no)))))
 (.br (x0 == 15)
 (.bi (br (x1 == x2) (some (x1 == 5)) (some false)) (fun y0 =>
 .at ((5, y0)))
 (.no))
 (.br (x0 == 17)
 (.br (x0 == 17)
 (.bi (br (x1 == x2) (some (x1 != 5)) (some false)) (fun y0 =>
 .at ((x1, y0)))
 (.no))
 (.bi (qbH) (fun y0 =>
 .br (qmY (true, [EK.i, EK.i, EK.i]) y0 (AV.agg [AV.int IntKind.i64 x0, AV.int IntKind.i64 x1, AV.int IntKind.i64 x2]))
 (.br (okE false [CS.int IntKind.i64] [qcm (true, [EK.i, EK.i, EK.i]) y0 (AV.agg [AV.int IntKind.i64 x0, AV.int IntKind.i64 x1, AV.int IntKind.i64 x2])] 0)
 (.at ((intOf (cellAt [qcm (true, [EK.i, EK.i, EK.i]) y0 (AV.agg [AV.int IntKind.i64 x0, AV.int IntKind.i64 x1, AV.int IntKind.i64 x2])] 0 0), intOf (cellAt [qcm (true, [EK.i, EK.i, EK.i]) y0 (AV.agg [AV.int IntKind.i64 x0, AV.int IntKind.i64 x1, AV.int IntKind.i64 x2])] 0 0) != 0)))
 (.no))
 (.br (qn2 (true, [EK.i, EK.i, EK.i]) y0 (AV.agg [AV.int IntKind.i64 x0, AV.int IntKind.i64 x1, AV.int IntKind.i64 x2])) (.at ((0, false))) (.no)))
 (.no)))
 (.br (x0 == 18)
 (.bi (br (x1 == x2) (some (x1 != 5)) (some false)) (fun y0 =>
 .at ((x1, y0)))
 (.no))
 (.bi (qbH) (fun y0 =>
 .br (qmY (true, [EK.i, EK.i, EK.i]) y0 (AV.agg [AV.int IntKind.i64 x0, AV.int IntKind.i64 x1, AV.int IntKind.i64 x2]))
 (.br (okE false [CS.int IntKind.i64] [qcm (true, [EK.i, EK.i, EK.i]) y0 (AV.agg [AV.int IntKind.i64 x0, AV.int IntKind.i64 x1, AV.int IntKind.i64 x2])] 0)
 (.at ((intOf (cellAt [qcm (true, [EK.i, EK.i, EK.i]) y0 (AV.agg [AV.int IntKind.i64 x0, AV.int IntKind.i64 x1, AV.int IntKind.i64 x2])] 0 0), intOf (cellAt [qcm (true, [EK.i, EK.i, EK.i]) y0 (AV.agg [AV.int IntKind.i64 x0, AV.int IntKind.i64 x1, AV.int IntKind.i64 x2])] 0 0) != 0)))
 (.no))
 (.br (qn2 (true, [EK.i, EK.i, EK.i]) y0 (AV.agg [AV.int IntKind.i64 x0, AV.int IntKind.i64 x1, AV.int IntKind.i64 x2])) (.at ((0, false))) (.no)))
 (.no)))))))))
 (.br (x0 == 11)
 (.at ((5, x1 == x2)))
 (.br (x0 == 12)
 (.br (x0 == 12)
 (.bi (br (x1 == x2) (some (x1 != 5)) (some false)) (fun y0 =>
 .at ((5, y0)))
 (.no))
 (.br (x0 == 14)
 (.br (x0 == 14)
 (.bi (br (x1 == x2) (some (x1 == 5)) (some false)) (fun y0 =>
 .at ((5, y0)))
 (.no))
 (.br (x0 == 17)
 (.br (x0 == 17)
 (.bi (br (x1 == x2) (some (x1 != 5)) (some false)) (fun y0 =>
 .at ((x1, y0)))
 (.no))
 (.bi (qbH) (fun y0 =>
 .br (qmY (true, [EK.i, EK.i, EK.i]) y0 (AV.agg [AV.int IntKind.i64 x0, AV.int IntKind.i64 x1, AV.int IntKind.i64 x2]))
 (.br (okE false [CS.int IntKind.i64] [qcm (true, [EK.i, EK.i, EK.i]) y0 (AV.agg [AV.int IntKind.i64 x0, AV.int IntKind.i64 x1, AV.int IntKind.i64 x2])] 0)
 (.at ((intOf (cellAt [qcm (true, [EK.i, EK.i, EK.i]) y0 (AV.agg [AV.int IntKind.i64 x0, AV.int IntKind.i64 x1, AV.int IntKind.i64 x2])] 0 0), intOf (cellAt [qcm (true, [EK.i, EK.i, EK.i]) y0 (AV.agg [AV.int IntKind.i64 x0, AV.int IntKind.i64 x1, AV.int IntKind.i64 x2])] 0 0) != 0)))
 (.no))
 (.br (qn2 (true, [EK.i, EK.i, EK.i]) y0 (AV.agg [AV.int IntKind.i64 x0, AV.int IntKind.i64 x1, AV.int IntKind.i64 x2])) (.at ((0, false))) (.no)))
 (.no)))
 (.br (x0 == 18)
 (.bi (br (x1 == x2) (some (x1 != 5)) (some false)) (fun y0 =>
 .at ((x1, y0)))
 (.no))
 (.bi (qbH) (fun y0 =>
 .br (qmY (true, [EK.i, EK.i, EK.i]) y0 (AV.agg [AV.int IntKind.i64 x0, AV.int IntKind.i64 x1, AV.int IntKind.i64 x2]))
 (.br (okE false [CS.int IntKind.i64] [qcm (true, [EK.i, EK.i, EK.i]) y0 (AV.agg [AV.int IntKind.i64 x0, AV.int IntKind.i64 x1, AV.int IntKind.i64 x2])] 0)
 (.at ((intOf (cellAt [qcm (true, [EK.i, EK.i, EK.i]) y0 (AV.agg [AV.int IntKind.i64 x0, AV.int IntKind.i64 x1, AV.int IntKind.i64 x2])] 0 0), intOf (cellAt [qcm (true, [EK.i, EK.i, EK.i]) y0 (AV.agg [AV.int IntKind.i64 x0, AV.int IntKind.i64 x1, AV.int IntKind.i64 x2])] 0 0) != 0)))
 (.no))
 (.br (qn2 (true, [EK.i, EK.i, EK.i]) y0 (AV.agg [AV.int IntKind.i64 x0, AV.int IntKind.i64 x1, AV.int IntKind.i64 x2])) (.at ((0, false))) (.no)))
 (.no)))))
 (.br (x0 == 15)
 (.bi (br (x1 == x2) (some (x1 == 5)) (some false)) (fun y0 =>
 .at ((5, y0)))
 (.no))
 (.br (x0 == 17)
 (.br (x0 == 17)
 (.bi (br (x1 == x2) (some (x1 != 5)) (some false)) (fun y0 =>
 .at ((x1, y0)))
 (.no))
 (.bi (qbH) (fun y0 =>
 .br (qmY (true, [EK.i, EK.i, EK.i]) y0 (AV.agg [AV.int IntKind.i64 x0, AV.int IntKind.i64 x1, AV.int IntKind.i64 x2]))
 (.br (okE false [CS.int IntKind.i64] [qcm (true, [EK.i, EK.i, EK.i]) y0 (AV.agg [AV.int IntKind.i64 x0, AV.int IntKind.i64 x1, AV.int IntKind.i64 x2])] 0)
 (.at ((intOf (cellAt [qcm (true, [EK.i, EK.i, EK.i]) y0 (AV.agg [AV.int IntKind.i64 x0, AV.int IntKind.i64 x1, AV.int IntKind.i64 x2])] 0 0), intOf (cellAt [qcm (true, [EK.i, EK.i, EK.i]) y0 (AV.agg [AV.int IntKind.i64 x0, AV.int IntKind.i64 x1, AV.int IntKind.i64 x2])] 0 0) != 0)))
 (.no))
 (.br (qn2 (true, [EK.i, EK.i, EK.i]) y0 (AV.agg [AV.int IntKind.i64 x0, AV.int IntKind.i64 x1, AV.int IntKind.i64 x2])) (.at ((0, false))) (.no)))
 (.no)))
 (.br (x0 == 18)
 (.bi (br (x1 == x2) (some (x1 != 5)) (some false)) (fun y0 =>
 .at ((x1, y0)))
 (.no))
 (.bi (qbH) (fun y0 =>
 .br (qmY (true, [EK.i, EK.i, EK.i]) y0 (AV.agg [AV.int IntKind.i64 x0, AV.int IntKind.i64 x1, AV.int IntKind.i64 x2]))
 (.br (okE false [CS.int IntKind.i64] [qcm (true, [EK.i, EK.i, EK.i]) y0 (AV.agg [AV.int IntKind.i64 x0, AV.int IntKind.i64 x1, AV.int IntKind.i64 x2])] 0)
 (.at ((intOf (cellAt [qcm (true, [EK.i, EK.i, EK.i]) y0 (AV.agg [AV.int IntKind.i64 x0, AV.int IntKind.i64 x1, AV.int IntKind.i64 x2])] 0 0), intOf (cellAt [qcm (true, [EK.i, EK.i, EK.i]) y0 (AV.agg [AV.int IntKind.i64 x0, AV.int IntKind.i64 x1, AV.int IntKind.i64 x2])] 0 0) != 0)))
 (.no))
 (.br (qn2 (true, [EK.i, EK.i, EK.i]) y0 (AV.agg [AV.int IntKind.i64 x0, AV.int IntKind.i64 x1, AV.int IntKind.i64 x2])) (.at ((0, false))) (.no)))
 (.no)))))))
 (.br (x0 == 13)
 (.bi (br (x1 == x2) (some (x1 != 5)) (some false)) (fun y0 =>
 .at ((5, y0)))
 (.no))
 (.br (x0 == 14)
 (.br (x0 == 14)
 (.bi (br (x1 == x2) (some (x1 == 5)) (some false)) (fun y0 =>
 .at ((5, y0)))
 (.no))
 (.br (x0 == 17)
 (.br (x0 == 17)
 (.bi (br (x1 == x2) (some (x1 != 5)) (some false)) (fun y0 =>
 .at ((x1, y0)))
 (.no))
 (.bi (qbH) (fun y0 =>
 .br (qmY (true, [EK.i, EK.i, EK.i]) y0 (AV.agg [AV.int IntKind.i64 x0, AV.int IntKind.i64 x1, AV.int IntKind.i64 x2]))
 (.br (okE false [CS.int IntKind.i64] [qcm (true, [EK.i, EK.i, EK.i]) y0 (AV.agg [AV.int IntKind.i64 x0, AV.int IntKind.i64 x1, AV.int IntKind.i64 x2])] 0)
 (.at ((intOf (cellAt [qcm (true, [EK.i, EK.i, EK.i]) y0 (AV.agg [AV.int IntKind.i64 x0, AV.int IntKind.i64 x1, AV.int IntKind.i64 x2])] 0 0), intOf (cellAt [qcm (true, [EK.i, EK.i, EK.i]) y0 (AV.agg [AV.int IntKind.i64 x0, AV.int IntKind.i64 x1, AV.int IntKind.i64 x2])] 0 0) != 0)))
 (.no))
 (.br (qn2 (true, [EK.i, EK.i, EK.i]) y0 (AV.agg [AV.int IntKind.i64 x0, AV.int IntKind.i64 x1, AV.int IntKind.i64 x2])) (.at ((0, false))) (.no)))
 (.no)))
 (.br (x0 == 18)
 (.bi (br (x1 == x2) (some (x1 != 5)) (some false)) (fun y0 =>
 .at ((x1, y0)))
 (.no))
 (.bi (qbH) (fun y0 =>
 .br (qmY (true, [EK.i, EK.i, EK.i]) y0 (AV.agg [AV.int IntKind.i64 x0, AV.int IntKind.i64 x1, AV.int IntKind.i64 x2]))
 (.br (okE false [CS.int IntKind.i64] [qcm (true, [EK.i, EK.i, EK.i]) y0 (AV.agg [AV.int IntKind.i64 x0, AV.int IntKind.i64 x1, AV.int IntKind.i64 x2])] 0)
 (.at ((intOf (cellAt [qcm (true, [EK.i, EK.i, EK.i]) y0 (AV.agg [AV.int IntKind.i64 x0, AV.int IntKind.i64 x1, AV.int IntKind.i64 x2])] 0 0), intOf (cellAt [qcm (true, [EK.i, EK.i, EK.i]) y0 (AV.agg [AV.int IntKind.i64 x0, AV.int IntKind.i64 x1, AV.int IntKind.i64 x2])] 0 0) != 0)))
 (.no))
 (.br (qn2 (true, [EK.i, EK.i, EK.i]) y0 (AV.agg [AV.int IntKind.i64 x0, AV.int IntKind.i64 x1, AV.int IntKind.i64 x2])) (.at ((0, false))) (.no)))
 (.no)))))
 (.br (x0 == 15)
 (.bi (br (x1 == x2) (some (x1 == 5)) (some false)) (fun y0 =>
 .at ((5, y0)))
 (.no))
 (.br (x0 == 17)
 (.br (x0 == 17)
 (.bi (br (x1 == x2) (some (x1 != 5)) (some false)) (fun y0 =>
 .at ((x1, y0)))
 (.no))
 (.bi (qbH) (fun y0 =>
 .br (qmY (true, [EK.i, EK.i, EK.i]) y0 (AV.agg [AV.int IntKind.i64 x0, AV.int IntKind.i64 x1, AV.int IntKind.i64 x2]))
 (.br (okE false [CS.int IntKind.i64] [qcm (true, [EK.i, EK.i, EK.i]) y0 (AV.agg [AV.int IntKind.i64 x0, AV.int IntKind.i64 x1, AV.int IntKind.i64 x2])] 0)
 (.at ((intOf (cellAt [qcm (true, [EK.i, EK.i, EK.i]) y0 (AV.agg [AV.int IntKind.i64 x0, AV.int IntKind.i64 x1, AV.int IntKind.i64 x2])] 0 0), intOf (cellAt [qcm (true, [EK.i, EK.i, EK.i]) y0 (AV.agg [AV.int IntKind.i64 x0, AV.int IntKind.i64 x1, AV.int IntKind.i64 x2])] 0 0) != 0)))
 (.no))
 (.br (qn2 (true, [EK.i, EK.i, EK.i]) y0 (AV.agg [AV.int IntKind.i64 x0, AV.int IntKind.i64 x1, AV.int IntKind.i64 x2])) (.at ((0, false))) (.no)))
 (.no)))
 (.br (x0 == 18)
 (.bi (br (x1 == x2) (some (x1 != 5)) (some false)) (fun y0 =>
 .at ((x1, y0)))
 (.no))
 (.bi (qbH) (fun y0 =>
 .br (qmY (true, [EK.i, EK.i, EK.i]) y0 (AV.agg [AV.int IntKind.i64 x0, AV.int IntKind.i64 x1, AV.int IntKind.i64 x2]))
 (.br (okE false [CS.int IntKind.i64] [qcm (true, [EK.i, EK.i, EK.i]) y0 (AV.agg [AV.int IntKind.i64 x0, AV.int IntKind.i64 x1, AV.int IntKind.i64 x2])] 0)
 (.at ((intOf (cellAt [qcm (true, [EK.i, EK.i, EK.i]) y0 (AV.agg [AV.int IntKind.i64 x0, AV.int IntKind.i64 x1, AV.int IntKind.i64 x2])] 0 0), intOf (cellAt [qcm (true, [EK.i, EK.i, EK.i]) y0 (AV.agg [AV.int IntKind.i64 x0, AV.int IntKind.i64 x1, AV.int IntKind.i64 x2])] 0 0) != 0)))
 (.no))
 (.br (qn2 (true, [EK.i, EK.i, EK.i]) y0 (AV.agg [AV.int IntKind.i64 x0, AV.int IntKind.i64 x1, AV.int IntKind.i64 x2])) (.at ((0, false))) (.no)))
 (.no)))))))))
def qka (x0 x1 x2 : Int) : Option qyG := qaF (qi9 x0 x1 x2).ev
theorem qwH (x0 x1 x2 : Int) : qka x0 x1 x2 = (qi9 x0 x1 x2).ev := qaa _
theorem qMd : FH IP 113 qDc qDY (k3 qka) := qah (F := qR5) (L := []) (t := (k3 qi9)) qI3 (qad (l := []) (by kernel_rfl) trivial) (by kernel_rfl) (fun v => by kernel_rfl) (fun _ => qaa _)
def T63 : Tab := (113, FE qDc qDY (k3 qka)) :: T62
theorem qI4 : qan IP T63 := ⟨qam qMd, qI3⟩
abbrev qIe : Type := Int × Bool
def qKp : PArgs := ⟨[.int .i64, .view 1], []⟩
def qLe : List PRes := [⟨false, .tup [.int .i64, .bool], []⟩]
def qp7 (x0 : Int) (x1 : List AV) : DT qIe :=
 .bi (pj 0 (qrt (x0, x1, x1, (x1.length : Int), 0))) (fun y0 =>
 .at ((0, false)))
 (.bi (pj 1 (qrt (x0, x1, x1, (x1.length : Int), 0))) (fun y0 =>
 .br ((y0.2.1.length : Int) == 1)
 (.br (qaS [CS.int IntKind.i64] y0.2.1 0)
 (.bi (qj9 y0.1 (intOf (cellAt y0.2.1 0 0))) (fun y1 =>
 .br (!y1.2) (.at ((0, false))) (.at ((y1.1, true))))
 (.no))
 (.no))
 (.br ((y0.2.1.length : Int) == 2)
 (.br (qaS [CS.int IntKind.i64] y0.2.1 0)
 (.br (qaS [CS.int IntKind.i64] y0.2.1 1)
 (.bi (qka y0.1 (intOf (cellAt y0.2.1 0 0)) (intOf (cellAt y0.2.1 1 0))) (fun y1 =>
 .br (!y1.2) (.at ((0, false))) (.at ((y1.1, true))))
 (.no))
 (.no))
 (.no))
 (.br ((y0.2.1.length : Int) == 3)
 (.br (qaS [CS.int IntKind.i64] y0.2.1 1)
 (.br (y0.1 == 19)
 (.br (qaS [CS.int IntKind.i64] y0.2.1 0)
 (.br (intOf (cellAt y0.2.1 0 0) == 5)
 (.br (qaS [CS.int IntKind.i64] y0.2.1 1)
 (.br (qaS [CS.int IntKind.i64] y0.2.1 2)
 (.br (!intOf (cellAt y0.2.1 1 0) == intOf (cellAt y0.2.1 2 0)) (.at ((0, false))) (.at ((intOf (cellAt y0.2.1 1 0), true))))
 (.no))
 (.no))
 (.at ((0, false))))
 (.no))
 (.at ((0, false))))
 (.no))
 (.at ((0, false))))))
 (.no))
def qgV (x0 : Int) (x1 : List AV) : Option qIe := qaF (qp7 x0 x1).ev
theorem qAN (x0 : Int) (x1 : List AV) : qgV x0 x1 = (qp7 x0 x1).ev := qaa _
theorem qPk : FH IP 90 qKp qLe (k2 qgV) := qah (F := F90) (L := [(1009000, qCb)]) (t := (k2 qp7)) qI4 (qad (l := [qae F90 0]) (by kernel_rfl) ⟨qax (by kernel_rfl) qQN, trivial⟩) (by kernel_rfl) (fun v => by kernel_rfl) (fun _ => qaa _)
def T64 : Tab := (90, FE qKp qLe (k2 qgV)) :: T63
theorem qI5 : qan IP T64 := ⟨qam qPk, qI4⟩
abbrev qhm : Type := Int × Int
def qlr : PArgs := ⟨[.agg [.int .i64, .int .i64, .str, .view 4], .view 2], []⟩
def qlF : List PRes := [⟨false, .tup [.int .i64, .int .i64], []⟩]
abbrev qa1 : Type := Int → Int → (List UInt8) → (List AV) → (List AV) → Option qhm
def qoz (G_u150q : qa1) : Prop := FH IP 75 qlr qlF (k5 G_u150q)
def qFK (G_u150q : qa1) : Tab := (75, FE qlr qlF (k5 G_u150q)) :: T64
theorem qjF (G_u150q : qa1) (hG : qoz G_u150q) : qan IP (qFK G_u150q) := ⟨qam (hG), qI5⟩
abbrev qbz : Type := (List AV × List AV × Int × Int × Int × Int × List UInt8 × List AV) ⊕ (List AV × List AV × Int × Int × Int × Int × List UInt8 × List AV × List AV)
def quW : List PSt := [⟨[(1007500, .junk), (1, .view 2), (2, .ref 0 0 0), (6, .nils 1), (30, .view 4), (31, .int .i64), (32, .int .i64)], [(0, .box [.int .i64, .int .i64, .str, .view 4] false)], 1, 0⟩, ⟨[(1007500, .junk), (1, .view 2), (2, .ref 0 0 0), (6, .own 1 0), (30, .view 4), (31, .int .i64), (32, .int .i64)], [(0, .box [.int .i64, .int .i64, .str, .view 4] false), (1, .arr 1 false)], 2, 0⟩]
def qEZ (G_u150q : qa1) (x0 x1 : List AV) (x2 x3 : Int) (x4 x5 : Int) (x6 : List UInt8) (x7 : List AV) : X × St := (X.ret,
 ⟨[(2, AV.ref 0 0 0), (4, AV.int IntKind.i64 0),
 (5, AV.int IntKind.i64 (gv (G_u150q (intOf (cellAt x1 x3 0)) (intOf (cellAt x1 x3 1)) (strOf (cellAt x1 x3 2)) (qal (cellAt x1 x3 3)) x0)).2),
 (6, AV.nils ⟨1, NKd.nil⟩)], [(0, Blk.box [AV.int IntKind.i64 x4, AV.int IntKind.i64 x5, AV.str x6, AV.view 4 x7] false)], 1, 0⟩)
def qE0 (G_u150q : qa1) (x0 x1 : List AV) (x2 x3 : Int) (x4 x5 : Int) (x6 : List UInt8) (x7 : List AV) : X × St := (X.exit 1,
 ⟨[(2, AV.ref 0 0 0), (4, AV.junk), (5, AV.junk), (6, AV.nils ⟨1, NKd.nil⟩)], [(0, Blk.box [AV.int IntKind.i64 x4, AV.int IntKind.i64 x5, AV.str x6, AV.view 4 x7] false)], 1, 0⟩)
def qE1 (G_u150q : qa1) (x0 x1 : List AV) (x2 x3 : Int) (x4 x5 : Int) (x6 : List UInt8) (x7 x8 : List AV) : X × St := (X.ret,
 ⟨[(2, AV.ref 0 0 0), (4, AV.int IntKind.i64 0),
 (5, AV.int IntKind.i64 (gv (G_u150q (intOf (cellAt x1 x3 0)) (intOf (cellAt x1 x3 1)) (strOf (cellAt x1 x3 2)) (qal (cellAt x1 x3 3)) x0)).2),
 (6, AV.own 1 0 none)], [(0, Blk.box [AV.int IntKind.i64 x4, AV.int IntKind.i64 x5, AV.str x6, AV.view 4 x7] false), (1, Blk.arr 1 x8 false)], 2, 0⟩)
def qE2 (G_u150q : qa1) (x0 x1 : List AV) (x2 x3 : Int) (x4 x5 : Int) (x6 : List UInt8) (x7 x8 : List AV) : X × St := (X.exit 1,
 ⟨[(2, AV.ref 0 0 0), (4, AV.junk), (5, AV.junk), (6, AV.own 1 0 none)], [(0, Blk.box [AV.int IntKind.i64 x4, AV.int IntKind.i64 x5, AV.str x6, AV.view 4 x7] false), (1, Blk.arr 1 x8 false)], 2, 0⟩)
def qNH (G_u150q : qa1) : List (qbz → X × St) := [fun w => (k8 (qEZ G_u150q)) ((sl w)), fun w => (k8 (qE0 G_u150q)) ((sl w)), fun w => (k9 (qE1 G_u150q)) ((sr w)), fun w => (k9 (qE2 G_u150q)) ((sr w))]
def qfz (G_u150q : qa1) (x0 x1 : List AV) (x2 x3 : Int) (x4 x5 : Int) (x6 : List UInt8) (x7 : List AV) : DT (Rd qbz) :=
 .br (decide (x3 < x2))
 (.br (qaS [CS.int IntKind.i64, CS.int IntKind.i64, CS.str, CS.slice 4] x1 x3)
 (.bi (G_u150q (intOf (cellAt x1 x3 0)) (intOf (cellAt x1 x3 1)) (strOf (cellAt x1 x3 2)) (qal (cellAt x1 x3 3)) x0) (fun y0 =>
 .br (y0.2 != 0) (.at (.done 0)) (.at (.next ((.inr (x0, x1, x2, IntKind.i64.wrap (x3 + 1), x4, x5, x6, x7, [AV.int IntKind.i64 y0.1]))))))
 (.no))
 (.no))
 (.at (.done 1))
def qfA (G_u150q : qa1) (x0 x1 : List AV) (x2 x3 : Int) (x4 x5 : Int) (x6 : List UInt8) (x7 x8 : List AV) : DT (Rd qbz) :=
 .br (decide (x3 < x2))
 (.br (qaS [CS.int IntKind.i64, CS.int IntKind.i64, CS.str, CS.slice 4] x1 x3)
 (.bi (G_u150q (intOf (cellAt x1 x3 0)) (intOf (cellAt x1 x3 1)) (strOf (cellAt x1 x3 2)) (qal (cellAt x1 x3 3)) x0) (fun y0 =>
 .br (y0.2 != 0)
 (.at (.done 2))
 (.br (room (x8.length + 1) 8) (.at (.next ((.inr (x0, x1, x2, IntKind.i64.wrap (x3 + 1), x4, x5, x6, x7, x8 ++ [AV.int IntKind.i64 y0.1]))))) (.no)))
 (.no))
 (.no))
 (.at (.done 3))
def qcn (G_u150q : qa1) : qbz → DT (Rd qbz) := (Sum.elim (fun v => qfz G_u150q v.1 v.2.1 v.2.2.1 v.2.2.2.1 v.2.2.2.2.1 v.2.2.2.2.2.1 v.2.2.2.2.2.2.1 v.2.2.2.2.2.2.2) (fun v => qfA G_u150q v.1 v.2.1 v.2.2.1 v.2.2.2.1 v.2.2.2.2.1 v.2.2.2.2.2.1 v.2.2.2.2.2.2.1 v.2.2.2.2.2.2.2.1 v.2.2.2.2.2.2.2.2))
def qeV (G_u150q : qa1) (v : qbz) : Option (Nat × qbz) := qaF (qao (fun v => (qcn G_u150q v).ev) v)
theorem qfi (G_u150q : qa1) (v : qbz) : qeV G_u150q v = qao (fun v => (qcn G_u150q v).ev) v := qaa _
def qvs (G_u150q : qa1) : qb3 := LE (τ := qbz) (hD quW) (qeV G_u150q) (qNH G_u150q)
theorem qNn (G_u150q : qa1) (hG : qoz G_u150q) : Go.Eng.Told IP (qae F75 0).1 (qae F75 0).2 (qvs G_u150q) := qaw (inferInstance : Inhabited qbz) (hs := quW) (st := qcn G_u150q) (L := []) (qjF G_u150q hG) (qad (l := []) (by kernel_rfl) trivial) (qfi G_u150q) (fun v => match v with | (.inl v) => by kernel_rfl | (.inr v) => by kernel_rfl) (fun v => match v with | (.inl v) => by kernel_rfl | (.inr v) => by kernel_rfl)
def qpD (G_u150q : qa1) (x0 x1 : Int) (x2 : List UInt8) (x3 x4 : List AV) : DT qhm :=
 .br (x0 == 1)
 (.at ((1, 0)))
 (.br (x0 == 2)
 (.at ((2, 0)))
 (.br (x0 == 3)
 (.at ((3, 0)))
 (.br (x0 == 4)
 (.bi (qnk x2 x4) (fun y0 =>
 .at ((y0.1, y0.2)))
 (.no))
 (.bi (pj 0 (qeV G_u150q (Sum.inl (x4, x3, (x3.length : Int), 0, x0, x1, x2, x3)))) (fun y0 =>
 .at ((0, (gv
 (G_u150q (intOf (cellAt (sl y0).2.1 (sl y0).2.2.2.1 0)) (intOf (cellAt (sl y0).2.1 (sl y0).2.2.2.1 1))
 (strOf (cellAt (sl y0).2.1 (sl y0).2.2.2.1 2)) (qal (cellAt (sl y0).2.1 (sl y0).2.2.2.1 3)) (sl y0).1)).2)))
 (.bi (pj 1 (qeV G_u150q (Sum.inl (x4, x3, (x3.length : Int), 0, x0, x1, x2, x3)))) (fun y0 =>
 .bi (qgV (sl y0).2.2.2.2.1 []) (fun y1 =>
 .br (!y1.2) (.at ((0, 3))) (.at ((y1.1, 0))))
 (.no))
 (.bi (pj 2 (qeV G_u150q (Sum.inl (x4, x3, (x3.length : Int), 0, x0, x1, x2, x3)))) (fun y0 =>
 .at ((0, (gv
 (G_u150q (intOf (cellAt (sr y0).2.1 (sr y0).2.2.2.1 0)) (intOf (cellAt (sr y0).2.1 (sr y0).2.2.2.1 1))
 (strOf (cellAt (sr y0).2.1 (sr y0).2.2.2.1 2)) (qal (cellAt (sr y0).2.1 (sr y0).2.2.2.1 3)) (sr y0).1)).2)))
 (.bi (pj 3 (qeV G_u150q (Sum.inl (x4, x3, (x3.length : Int), 0, x0, x1, x2, x3)))) (fun y0 =>
 .bi (qgV (sr y0).2.2.2.2.1 (sr y0).2.2.2.2.2.2.2.2) (fun y1 =>
 .br (!y1.2) (.at ((0, 3))) (.at ((y1.1, 0))))
 (.no))
 (.no))))))))
def qbY : Nat → qa1
 | 0 => fun _ _ _ _ _ => none
 | n + 1 => fun x0 x1 x2 x3 x4 => (qpD ((qbY n)) x0 x1 x2 x3 x4).ev
def qoV (x0 x1 : Int) (x2 : List UInt8) (x3 x4 : List AV) : Option qhm := qiE fun n => (qbY n) x0 x1 x2 x3 x4
theorem qna : ∀ n, qoz ((qbY n))
 | 0 => (fun v y h => nomatch h)
 | n + 1 => have hG := qna n
 qah (F := F75) (L := [(1007500, qvs ((qbY n)))]) (t := (k5 (qpD ((qbY n))))) (qjF ((qbY n)) hG) (qad (l := [qae F75 0]) (by kernel_rfl) ⟨qax (by kernel_rfl) (qNn ((qbY n)) hG), trivial⟩) (by kernel_rfl) (fun v => by kernel_rfl) (fun v => rfl)
theorem qMr : FH IP 75 qlr qlF (k5 qoV) := qbL (p := qlr) (rs := qlF) (s := fun n => (k5 ((qbY n)))) fun n => (qna n)
def T65 : Tab := (75, FE qlr qlF (k5 qoV)) :: T64
theorem qI6 : qan IP T65 := ⟨qam qMr, qI5⟩
abbrev qyP : Type := Int × Int
def qDk : PArgs := ⟨[.agg [.int .i64, .int .i64, .str, .view 4], .view 2], []⟩
def qD6 : List PRes := [⟨false, .tup [.int .i64, .int .i64], []⟩]
def qji (x0 x1 : Int) (x2 : List UInt8) (x3 x4 : List AV) : DT qyP :=
 .bi (qnn x0 x1 x2 x3) (fun y0 =>
 .br (y0 != 0)
 (.at ((0, y0)))
 (.bi (qoV x0 x1 x2 x3 x4) (fun y1 =>
 .at ((y1.1, y1.2)))
 (.no)))
 (.no)
def qkh (x0 x1 : Int) (x2 : List UInt8) (x3 x4 : List AV) : Option qyP := qaF (qji x0 x1 x2 x3 x4).ev
theorem qwP (x0 x1 : Int) (x2 : List UInt8) (x3 x4 : List AV) : qkh x0 x1 x2 x3 x4 = (qji x0 x1 x2 x3 x4).ev := qaa _
theorem qMq : FH IP 62 qDk qD6 (k5 qkh) := qah (F := F62) (L := []) (t := (k5 qji)) qI6 (qad (l := []) (by kernel_rfl) trivial) (by kernel_rfl) (fun v => by kernel_rfl) (fun _ => qaa _)
def T66 : Tab := (62, FE qDk qD6 (k5 qkh)) :: T65
theorem qI7 : qan IP T66 := ⟨qam qMq, qI6⟩
abbrev qIw : Type := Int
def qKH : PArgs := ⟨[.agg [.int .i64, .int .i64, .str, .view 4], .view 2, .int .i64], []⟩
def qLw : List PRes := [⟨false, .int .i64, []⟩]
def qqp (x0 x1 : Int) (x2 : List UInt8) (x3 x4 : List AV) (x5 : Int) : DT qIw :=
 .bi (qkh x0 x1 x2 x3 x4) (fun y0 =>
 .bi (br (y0.2 == 0) (some (y0.1 != x5)) (some false)) (fun y1 =>
 .br (y1) (.at (3)) (.at (y0.2)))
 (.no))
 (.no)
def qkC (x0 x1 : Int) (x2 : List UInt8) (x3 x4 : List AV) (x5 : Int) : Option qIw := qaF (qqp x0 x1 x2 x3 x4 x5).ev
theorem qA6 (x0 x1 : Int) (x2 : List UInt8) (x3 x4 : List AV) (x5 : Int) : qkC x0 x1 x2 x3 x4 x5 = (qqp x0 x1 x2 x3 x4 x5).ev := qaa _
theorem qPD : FH IP 55 qKH qLw (k6 qkC) := qah (F := F55) (L := []) (t := (k6 qqp)) qI7 (qad (l := []) (by kernel_rfl) trivial) (by kernel_rfl) (fun v => by kernel_rfl) (fun _ => qaa _)
def T67 : Tab := (55, FE qKH qLw (k6 qkC)) :: T66
theorem qI8 : qan IP T67 := ⟨qam qPD, qI7⟩
abbrev qyo : Type := Int
def qCV : PArgs := ⟨[.agg [.str, .int .i64, .int .i64, .int .i64, .str, .view 4, .int .i64, .int .i64, .str, .view 4]], []⟩
def qDH : List PRes := [⟨false, .int .i64, []⟩]
def qiS (x0 : List UInt8) (x1 x2 x3 : Int) (x4 : List UInt8) (x5 : List AV) (x6 x7 : Int) (x8 : List UInt8) (x9 : List AV) : DT qyo :=
 .bi (qky x0) (fun y0 =>
 .br (!y0)
 (.at (4))
 (.bi (br (decide (x1 < 1)) (some true) (some (decide (x1 > 4)))) (fun y1 =>
 .br (y1)
 (.at (1))
 (.bi (qip) (fun y2 =>
 .bi (qkC x2 x3 x4 x5 y2 5) (fun y3 =>
 .br (y3 != 0)
 (.at (y3))
 (.bi (qip) (fun y4 =>
 .bi (qkC x6 x7 x8 x9 y4 2) (fun y5 =>
 .at (y5))
 (.no))
 (.no)))
 (.no))
 (.no)))
 (.no)))
 (.no)
def qgd (x0 : List UInt8) (x1 x2 x3 : Int) (x4 : List UInt8) (x5 : List AV) (x6 x7 : Int) (x8 : List UInt8) (x9 : List AV) : Option qyo := qaF (qiS x0 x1 x2 x3 x4 x5 x6 x7 x8 x9).ev
theorem qwr (x0 : List UInt8) (x1 x2 x3 : Int) (x4 : List UInt8) (x5 : List AV) (x6 x7 : Int) (x8 : List UInt8) (x9 : List AV) : qgd x0 x1 x2 x3 x4 x5 x6 x7 x8 x9 = (qiS x0 x1 x2 x3 x4 x5 x6 x7 x8 x9).ev := qaa _
theorem qLT : FH IP 29 qCV qDH (k10 qgd) := qah (F := F29) (L := []) (t := (k10 qiS)) qI8 (qad (l := []) (by kernel_rfl) trivial) (by kernel_rfl) (fun v => by kernel_rfl) (fun _ => qaa _)
def T68 : Tab := (29, FE qCV qDH (k10 qgd)) :: T67
theorem qzz : qan IP T68 := ⟨qam qLT, qI8⟩
abbrev qd1 : Type := List AV × Int × Int × List UInt8 × List UInt8 × List UInt8 × Int × Int × Int × Int × List AV × Bool × Int × Int × Bool × List AV × Bool × Int × Int × Bool × List AV × List AV
def qBo : List PSt := [⟨[(1001201, .junk), (3, .ref 0 0 0), (49, .view 10), (50, .int .i64), (51, .int .i64)], [(0, .box [.str, .str, .str, .int .i64, .int .i64, .int .i64, .int .i64, .view 2, .bool, .int .i64, .int .i64, .bool, .view 2, .bool, .int .i64, .int .i64, .bool, .view 10, .view 6] false)], 1, 0⟩]
def qG2 (x0 : List AV) (x1 x2 : Int) (x3 x4 x5 : List UInt8) (x6 x7 : Int) (x8 x9 : Int) (x10 : List AV) (x11 : Bool) (x12 x13 : Int) (x14 : Bool) (x15 : List AV) (x16 : Bool) (x17 x18 : Int) (x19 : Bool) (x20 x21 : List AV) : X × St := (X.ret,
 ⟨[(3, AV.ref 0 0 0),
 (6,
 AV.int IntKind.i64
 (gv
 (qgd (strOf (cellAt x0 x2 0)) (intOf (cellAt x0 x2 1)) (intOf (cellAt x0 x2 2)) (intOf (cellAt x0 x2 3)) (strOf (cellAt x0 x2 4)) (qal (cellAt x0 x2 5))
 (intOf (cellAt x0 x2 6)) (intOf (cellAt x0 x2 7)) (strOf (cellAt x0 x2 8)) (qal (cellAt x0 x2 9)))))], [(0,
 Blk.box
 [AV.str x3, AV.str x4, AV.str x5, AV.int IntKind.i64 x6, AV.int IntKind.i64 x7, AV.int IntKind.i64 x8, AV.int IntKind.i64 x9, AV.view 2 x10, AV.bool x11,
 AV.int IntKind.i64 x12, AV.int IntKind.i64 x13, AV.bool x14, AV.view 2 x15, AV.bool x16, AV.int IntKind.i64 x17, AV.int IntKind.i64 x18, AV.bool x19, AV.view 10 x20,
 AV.view 6 x21]
 false)], 1, 0⟩)
def qG3 (x0 : List AV) (x1 x2 : Int) (x3 x4 x5 : List UInt8) (x6 x7 : Int) (x8 x9 : Int) (x10 : List AV) (x11 : Bool) (x12 x13 : Int) (x14 : Bool) (x15 : List AV) (x16 : Bool) (x17 x18 : Int) (x19 : Bool) (x20 x21 : List AV) : X × St := (X.exit 2,
 ⟨[(3, AV.ref 0 0 0), (6, AV.junk)], [(0,
 Blk.box
 [AV.str x3, AV.str x4, AV.str x5, AV.int IntKind.i64 x6, AV.int IntKind.i64 x7, AV.int IntKind.i64 x8, AV.int IntKind.i64 x9, AV.view 2 x10, AV.bool x11,
 AV.int IntKind.i64 x12, AV.int IntKind.i64 x13, AV.bool x14, AV.view 2 x15, AV.bool x16, AV.int IntKind.i64 x17, AV.int IntKind.i64 x18, AV.bool x19, AV.view 10 x20,
 AV.view 6 x21]
 false)], 1, 0⟩)
def qRi : List (qd1 → X × St) := [(k22 qG2), (k22 qG3)]
def ql7 (x0 : List AV) (x1 x2 : Int) (x3 x4 x5 : List UInt8) (x6 x7 : Int) (x8 x9 : Int) (x10 : List AV) (x11 : Bool) (x12 x13 : Int) (x14 : Bool) (x15 : List AV) (x16 : Bool) (x17 x18 : Int) (x19 : Bool) (x20 x21 : List AV) : DT (Rd qd1) :=
 .br (decide (x2 < x1))
 (.br (qaS [CS.str, CS.int IntKind.i64, CS.int IntKind.i64, CS.int IntKind.i64, CS.str, CS.slice 4, CS.int IntKind.i64, CS.int IntKind.i64, CS.str, CS.slice 4] x0 x2)
 (.bi (qgd (strOf (cellAt x0 x2 0)) (intOf (cellAt x0 x2 1)) (intOf (cellAt x0 x2 2)) (intOf (cellAt x0 x2 3)) (strOf (cellAt x0 x2 4)) (qal (cellAt x0 x2 5))
 (intOf (cellAt x0 x2 6)) (intOf (cellAt x0 x2 7)) (strOf (cellAt x0 x2 8)) (qal (cellAt x0 x2 9))) (fun y0 =>
 .br (y0 != 0) (.at (.done 0)) (.at (.next ((x0, x1, IntKind.i64.wrap (x2 + 1), x3, x4, x5, x6, x7, x8, x9, x10, x11, x12, x13, x14, x15, x16, x17, x18, x19, x20, x21)))))
 (.no))
 (.no))
 (.at (.done 1))
def qia : qd1 → DT (Rd qd1) := (fun v => ql7 v.1 v.2.1 v.2.2.1 v.2.2.2.1 v.2.2.2.2.1 v.2.2.2.2.2.1 v.2.2.2.2.2.2.1 v.2.2.2.2.2.2.2.1 v.2.2.2.2.2.2.2.2.1 v.2.2.2.2.2.2.2.2.2.1 v.2.2.2.2.2.2.2.2.2.2.1 v.2.2.2.2.2.2.2.2.2.2.2.1 v.2.2.2.2.2.2.2.2.2.2.2.2.1 v.2.2.2.2.2.2.2.2.2.2.2.2.2.1 v.2.2.2.2.2.2.2.2.2.2.2.2.2.2.1 v.2.2.2.2.2.2.2.2.2.2.2.2.2.2.2.1 v.2.2.2.2.2.2.2.2.2.2.2.2.2.2.2.2.1 v.2.2.2.2.2.2.2.2.2.2.2.2.2.2.2.2.2.1 v.2.2.2.2.2.2.2.2.2.2.2.2.2.2.2.2.2.2.1 v.2.2.2.2.2.2.2.2.2.2.2.2.2.2.2.2.2.2.2.1 v.2.2.2.2.2.2.2.2.2.2.2.2.2.2.2.2.2.2.2.2.1 v.2.2.2.2.2.2.2.2.2.2.2.2.2.2.2.2.2.2.2.2.2)
def qrm (v : qd1) : Option (Nat × qd1) := qaF (qao (fun v => (qia v).ev) v)
theorem qrn (v : qd1) : qrm v = qao (fun v => (qia v).ev) v := qaa _
def qB6 : qb3 := LE (τ := qd1) (hD qBo) (qrm) qRi
theorem qQI : Go.Eng.Told IP (qae F12 1).1 (qae F12 1).2 (qB6) := qaw (inferInstance : Inhabited qd1) (hs := qBo) (st := qia) (L := []) qzz (qad (l := []) (by kernel_rfl) trivial) (qrn) (fun v => by kernel_rfl) (fun v => by kernel_rfl)
abbrev qIp : Type := Int
def qKA : PArgs := ⟨[.agg [.str, .int .i64, .int .i64, .int .i64, .str, .view 4]], []⟩
def qLp : List PRes := [⟨false, .int .i64, []⟩]
def qqi (x0 : List UInt8) (x1 x2 x3 : Int) (x4 : List UInt8) (x5 : List AV) : DT qIp :=
 .bi (qky x0) (fun y0 =>
 .br (!y0)
 (.at (4))
 (.bi (br (decide (x1 < 1)) (some true) (some (decide (x1 > 3)))) (fun y1 =>
 .br (y1)
 (.at (1))
 (.bi (qip) (fun y2 =>
 .bi (qkC x2 x3 x4 x5 y2 2) (fun y3 =>
 .at (y3))
 (.no))
 (.no)))
 (.no)))
 (.no)
def qkz (x0 : List UInt8) (x1 x2 x3 : Int) (x4 : List UInt8) (x5 : List AV) : Option qIp := qaF (qqi x0 x1 x2 x3 x4 x5).ev
theorem qAZ (x0 : List UInt8) (x1 x2 x3 : Int) (x4 : List UInt8) (x5 : List AV) : qkz x0 x1 x2 x3 x4 x5 = (qqi x0 x1 x2 x3 x4 x5).ev := qaa _
theorem qPw : FH IP 30 qKA qLp (k6 qkz) := qah (F := F30) (L := []) (t := (k6 qqi)) qzz (qad (l := []) (by kernel_rfl) trivial) (by kernel_rfl) (fun v => by kernel_rfl) (fun _ => qaa _)
def T69 : Tab := (30, FE qKA qLp (k6 qkz)) :: T68
theorem qzA : qan IP T69 := ⟨qam qPw, qzz⟩
end
end Go.Proofs.H15c

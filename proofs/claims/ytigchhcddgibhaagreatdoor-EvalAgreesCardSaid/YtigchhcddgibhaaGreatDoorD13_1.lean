/- Functions over plain data. Printed by a program of mine. -/
import Derived.Test.YtigchhcddgibhaaGreatDoorE3
import Derived.Test.YtigchhcddgibhaaGreatDoorIP13
import Derived.KernelRfl
set_option linter.unusedVariables false
set_option linter.unusedSimpArgs false
set_option linter.unnecessarySimpa false
namespace Go.Proofs.H13
open Go Go.Eng
set_option maxRecDepth 100000
noncomputable section
abbrev k2 {a0 a1 r : Type} (f : a0 → a1 → r) (v : a0 × a1) : r := f v.1 v.2
abbrev k3 {a0 a1 a2 r : Type} (f : a0 → a1 → a2 → r) (v : a0 × a1 × a2) : r := f v.1 v.2.1 v.2.2
abbrev k4 {a0 a1 a2 a3 r : Type} (f : a0 → a1 → a2 → a3 → r) (v : a0 × a1 × a2 × a3) : r := f v.1 v.2.1 v.2.2.1 v.2.2.2
abbrev k5 {a0 a1 a2 a3 a4 r : Type} (f : a0 → a1 → a2 → a3 → a4 → r) (v : a0 × a1 × a2 × a3 × a4) : r := f v.1 v.2.1 v.2.2.1 v.2.2.2.1 v.2.2.2.2
abbrev k6 {a0 a1 a2 a3 a4 a5 r : Type} (f : a0 → a1 → a2 → a3 → a4 → a5 → r) (v : a0 × a1 × a2 × a3 × a4 × a5) : r := f v.1 v.2.1 v.2.2.1 v.2.2.2.1 v.2.2.2.2.1 v.2.2.2.2.2
abbrev k7 {a0 a1 a2 a3 a4 a5 a6 r : Type} (f : a0 → a1 → a2 → a3 → a4 → a5 → a6 → r) (v : a0 × a1 × a2 × a3 × a4 × a5 × a6) : r := f v.1 v.2.1 v.2.2.1 v.2.2.2.1 v.2.2.2.2.1 v.2.2.2.2.2.1 v.2.2.2.2.2.2
abbrev k8 {a0 a1 a2 a3 a4 a5 a6 a7 r : Type} (f : a0 → a1 → a2 → a3 → a4 → a5 → a6 → a7 → r) (v : a0 × a1 × a2 × a3 × a4 × a5 × a6 × a7) : r := f v.1 v.2.1 v.2.2.1 v.2.2.2.1 v.2.2.2.2.1 v.2.2.2.2.2.1 v.2.2.2.2.2.2.1 v.2.2.2.2.2.2.2
abbrev k9 {a0 a1 a2 a3 a4 a5 a6 a7 a8 r : Type} (f : a0 → a1 → a2 → a3 → a4 → a5 → a6 → a7 → a8 → r) (v : a0 × a1 × a2 × a3 × a4 × a5 × a6 × a7 × a8) : r := f v.1 v.2.1 v.2.2.1 v.2.2.2.1 v.2.2.2.2.1 v.2.2.2.2.2.1 v.2.2.2.2.2.2.1 v.2.2.2.2.2.2.2.1 v.2.2.2.2.2.2.2.2
abbrev k10 {a0 a1 a2 a3 a4 a5 a6 a7 a8 a9 r : Type} (f : a0 → a1 → a2 → a3 → a4 → a5 → a6 → a7 → a8 → a9 → r) (v : a0 × a1 × a2 × a3 × a4 × a5 × a6 × a7 × a8 × a9) : r := f v.1 v.2.1 v.2.2.1 v.2.2.2.1 v.2.2.2.2.1 v.2.2.2.2.2.1 v.2.2.2.2.2.2.1 v.2.2.2.2.2.2.2.1 v.2.2.2.2.2.2.2.2.1 v.2.2.2.2.2.2.2.2.2
abbrev k11 {a0 a1 a2 a3 a4 a5 a6 a7 a8 a9 a10 r : Type} (f : a0 → a1 → a2 → a3 → a4 → a5 → a6 → a7 → a8 → a9 → a10 → r) (v : a0 × a1 × a2 × a3 × a4 × a5 × a6 × a7 × a8 × a9 × a10) : r := f v.1 v.2.1 v.2.2.1 v.2.2.2.1 v.2.2.2.2.1 v.2.2.2.2.2.1 v.2.2.2.2.2.2.1 v.2.2.2.2.2.2.2.1 v.2.2.2.2.2.2.2.2.1 v.2.2.2.2.2.2.2.2.2.1 v.2.2.2.2.2.2.2.2.2.2
abbrev k12 {a0 a1 a2 a3 a4 a5 a6 a7 a8 a9 a10 a11 r : Type} (f : a0 → a1 → a2 → a3 → a4 → a5 → a6 → a7 → a8 → a9 → a10 → a11 → r) (v : a0 × a1 × a2 × a3 × a4 × a5 × a6 × a7 × a8 × a9 × a10 × a11) : r := f v.1 v.2.1 v.2.2.1 v.2.2.2.1 v.2.2.2.2.1 v.2.2.2.2.2.1 v.2.2.2.2.2.2.1 v.2.2.2.2.2.2.2.1 v.2.2.2.2.2.2.2.2.1 v.2.2.2.2.2.2.2.2.2.1 v.2.2.2.2.2.2.2.2.2.2.1 v.2.2.2.2.2.2.2.2.2.2.2
def T0 : Tab := [(143, qnU), (166, qiP), (169, q0t), (164, qlE 226), (178, qv4 226), (196, qo5), (115, qpq), (159, qz7), (89, qnI), (88, qqL), (47, qrx 2 24), (139, qrx 1 8)]
theorem q28 : qaj IP T0 := ⟨zai, zal, zam, zak, zan, zao, zag, zaj, zdJ, zdI, zdH, zah, trivial⟩
abbrev qGz : Type := Int × Int
def qMz : PArgs := ⟨[.int .i64, .int .i64], []⟩
def qOa : List PRes := [⟨false, .agg [.int .i64, .int .i64], []⟩]
def qmH (x0 x1 : Int) : DT qGz :=
 .at ((x0, x1))
def qcO (x0 x1 : Int) : Option qGz := qaz (qmH x0 x1).ev
theorem qDN (x0 x1 : Int) : qcO x0 x1 = (qmH x0 x1).ev := qaa _
theorem qZd : FH IP 21 qMz qOa (k2 qcO) := qaf (F := F21) (L := []) (t := (k2 qmH)) q28 (qab (l := []) (by kernel_rfl) trivial) (by kernel_rfl) (fun v => by kernel_rfl) (fun _ => qaa _)
def T1 : Tab := (21, FE qMz qOa (k2 qcO)) :: T0
theorem qYh : qaj IP T1 := ⟨qak qZd, q28⟩
abbrev qdn : Type := (Int × List AV × List AV × Int × Int × Int × Int) ⊕ (Int × List AV × List AV × Int × Int × Int × Int × List AV)
def qAX : List PSt := [⟨[(1001000, .junk), (0, .int .i64), (1, .view 2), (4, .ref 0 0 0), (6, .nils 1), (16, .view 2), (17, .int .i64), (18, .int .i64)], [(0, .box [.int .i64, .int .i64] false)], 1, 0⟩, ⟨[(1001000, .junk), (0, .int .i64), (1, .view 2), (4, .ref 0 0 0), (6, .own 1 0), (16, .view 2), (17, .int .i64), (18, .int .i64)], [(0, .box [.int .i64, .int .i64] false), (1, .arr 1 false)], 2, 0⟩]
def qPK (x0 : Int) (x1 x2 : List AV) (x3 x4 : Int) (x5 x6 : Int) : X × St := (X.exit 0,
 ⟨[(0, AV.int IntKind.i64 x0), (1, AV.view 2 x1), (4, AV.ref 0 0 0), (6, AV.nils ⟨1, NKd.nil⟩)], [(0, Blk.box [AV.int IntKind.i64 x5, AV.int IntKind.i64 x6] false)], 1, 0⟩)
def qPL (x0 : Int) (x1 x2 : List AV) (x3 x4 : Int) (x5 x6 : Int) (x7 : List AV) : X × St := (X.exit 0,
 ⟨[(0, AV.int IntKind.i64 x0), (1, AV.view 2 x1), (4, AV.ref 0 0 0), (6, AV.own 1 0 none)], [(0, Blk.box [AV.int IntKind.i64 x5, AV.int IntKind.i64 x6] false), (1, Blk.arr 1 x7 false)], 2, 0⟩)
def q1I : List (qdn → X × St) := [fun w => (k7 qPK) ((sl w)), fun w => (k8 qPL) ((sr w))]
def qsN (x0 : Int) (x1 x2 : List AV) (x3 x4 : Int) (x5 x6 : Int) : DT (Rd qdn) :=
 .br (decide (x4 < x3))
 (.br (qaB [CS.int IntKind.i64, CS.int IntKind.i64] x2 x4)
 (.at (.next ((.inr (x0, x1, x2, x3, IntKind.i64.wrap (x4 + 1), x5, x6, [AV.int IntKind.i64 (intOf (cellAt x2 x4 0))])))))
 (.no))
 (.at (.done 0))
def qk2 (x0 : Int) (x1 x2 : List AV) (x3 x4 : Int) (x5 x6 : Int) (x7 : List AV) : DT (Rd qdn) :=
 .br (decide (x4 < x3))
 (.br (qaB [CS.int IntKind.i64, CS.int IntKind.i64] x2 x4)
 (.br (room (x7.length + 1) 8) (.at (.next ((.inr (x0, x1, x2, x3, IntKind.i64.wrap (x4 + 1), x5, x6, x7 ++ [AV.int IntKind.i64 (intOf (cellAt x2 x4 0))]))))) (.no))
 (.no))
 (.at (.done 1))
def qhO : qdn → DT (Rd qdn) := (Sum.elim (fun v => qsN v.1 v.2.1 v.2.2.1 v.2.2.2.1 v.2.2.2.2.1 v.2.2.2.2.2.1 v.2.2.2.2.2.2) (fun v => qk2 v.1 v.2.1 v.2.2.1 v.2.2.2.1 v.2.2.2.2.1 v.2.2.2.2.2.1 v.2.2.2.2.2.2.1 v.2.2.2.2.2.2.2))
def qiU (v : qdn) : Option (Nat × qdn) := qaz (qar (fun v => (qhO v).ev) v)
theorem qdb (v : qdn) : qiU v = qar (fun v => (qhO v).ev) v := qaa _
def qBG : qcJ := LE (τ := qdn) (hD qAX) (qiU) q1I
theorem q08 : Go.Eng.Told IP (qah F10 0).1 (qah F10 0).2 (qBG) := qax (inferInstance : Inhabited qdn) (hs := qAX) (st := qhO) (L := []) qYh (qab (l := []) (by kernel_rfl) trivial) (qdb) (fun v => match v with | (.inl v) => by kernel_rfl | (.inr v) => by kernel_rfl) (fun v => match v with | (.inl v) => by kernel_rfl | (.inr v) => by kernel_rfl)
abbrev qF3 : Type := Bool
def qL3 : PArgs := ⟨[.int .i64], []⟩
def qNE : List PRes := [⟨false, .bool, []⟩]
def qmg (x0 : Int) : DT qF3 :=
 .bi (br (decide (x0 ≥ 1)) (some (decide (x0 ≤ 5))) (some false)) (fun y0 =>
 .at (y0))
 (.no)
def qiu (x0 : Int) : Option qF3 := qaz (qmg x0).ev
theorem qDk (x0 : Int) : qiu x0 = (qmg x0).ev := qaa _
theorem qYD : FH IP 50 qL3 qNE qiu := qaf (F := F50) (L := []) (t := qmg) qYh (qab (l := []) (by kernel_rfl) trivial) (by kernel_rfl) (fun v => by kernel_rfl) (fun _ => qaa _)
def T2 : Tab := (50, FE qL3 qNE qiu) :: T1
theorem qYi : qaj IP T2 := ⟨qak qYD, qYh⟩
abbrev qfT : Type := Int × List AV × List AV × Int × Int
def qKK : List PSt := [⟨[(1002200, .junk), (0, .int .i64), (1, .view 1), (10, .view 1), (11, .int .i64), (12, .int .i64)], [], 0, 0⟩]
def qS3 (x0 : Int) (x1 x2 : List AV) (x3 x4 : Int) : X × St := (X.ret, ⟨[(0, AV.int IntKind.i64 x0), (1, AV.view 1 x1), (4, AV.int IntKind.i64 0), (5, AV.bool false)], [], 0, 0⟩)
def qS4 (x0 : Int) (x1 x2 : List AV) (x3 x4 : Int) : X × St := (X.exit 0, ⟨[(0, AV.int IntKind.i64 x0), (1, AV.view 1 x1), (4, AV.junk), (5, AV.junk)], [], 0, 0⟩)
def q6A : List (qfT → X × St) := [(k5 qS3), (k5 qS4)]
def qqu (x0 : Int) (x1 x2 : List AV) (x3 x4 : Int) : DT (Rd qfT) :=
 .br (decide (x4 < x3))
 (.br (qaB [CS.int IntKind.i64] x2 x4)
 (.bi (qiu (intOf (cellAt x2 x4 0))) (fun y0 =>
 .br (!y0) (.at (.done 0)) (.at (.next ((x0, x1, x2, x3, IntKind.i64.wrap (x4 + 1))))))
 (.no))
 (.no))
 (.at (.done 1))
def qqt : qfT → DT (Rd qfT) := (fun v => qqu v.1 v.2.1 v.2.2.1 v.2.2.2.1 v.2.2.2.2)
def qwQ (v : qfT) : Option (Nat × qfT) := qaz (qar (fun v => (qqt v).ev) v)
theorem qwR (v : qfT) : qwQ v = qar (fun v => (qqt v).ev) v := qaa _
def qLg : qcJ := LE (τ := qfT) (hD qKK) (qwQ) q6A
theorem q58 : Go.Eng.Told IP (qah F22 0).1 (qah F22 0).2 (qLg) := qax (inferInstance : Inhabited qfT) (hs := qKK) (st := qqt) (L := []) qYi (qab (l := []) (by kernel_rfl) trivial) (qwR) (fun v => by kernel_rfl) (fun v => by kernel_rfl)
abbrev qGw : Type := Int × Bool
def qMw : PArgs := ⟨[.int .i64, .int .i64], []⟩
def qN7 : List PRes := [⟨false, .tup [.int .i64, .bool], []⟩]
def qmE (x0 x1 : Int) : DT qGw :=
 .br (x0 == 16)
 (.at ((5, x1 == 5)))
 (.br (x0 == 9)
 (.bi (br (x1 == 1) (some true) (some (x1 == 2))) (fun y0 =>
 .bi (br y0 (some true) (some (x1 == 3))) (fun y1 =>
 .at ((x1, y1)))
 (.no))
 (.no))
 (.at ((0, false))))
def qom (x0 x1 : Int) : Option qGw := qaz (qmE x0 x1).ev
theorem qDK (x0 x1 : Int) : qom x0 x1 = (qmE x0 x1).ev := qaa _
theorem qZa : FH IP 51 qMw qN7 (k2 qom) := qaf (F := F51) (L := []) (t := (k2 qmE)) qYi (qab (l := []) (by kernel_rfl) trivial) (by kernel_rfl) (fun v => by kernel_rfl) (fun _ => qaa _)
def T3 : Tab := (51, FE qMw qN7 (k2 qom)) :: T2
theorem q73 : qaj IP T3 := ⟨qak qZa, qYi⟩
abbrev qTy : Type := List (AV × AV)
def qWa : PArgs := ⟨[], []⟩
def qXe : List PRes := [⟨false, .mref 0, [(0, .mp)]⟩]
def qAn : DT qTy :=
 .at ([(AV.agg [AV.int IntKind.i64 5, AV.int IntKind.i64 1, AV.int IntKind.i64 1], AV.int IntKind.i64 1),
 (AV.agg [AV.int IntKind.i64 5, AV.int IntKind.i64 2, AV.int IntKind.i64 2], AV.int IntKind.i64 2),
 (AV.agg [AV.int IntKind.i64 5, AV.int IntKind.i64 3, AV.int IntKind.i64 3], AV.int IntKind.i64 3),
 (AV.agg [AV.int IntKind.i64 5, AV.int IntKind.i64 4, AV.int IntKind.i64 1], AV.int IntKind.i64 4),
 (AV.agg [AV.int IntKind.i64 6, AV.int IntKind.i64 1, AV.int IntKind.i64 1], AV.int IntKind.i64 1),
 (AV.agg [AV.int IntKind.i64 6, AV.int IntKind.i64 2, AV.int IntKind.i64 2], AV.int IntKind.i64 2),
 (AV.agg [AV.int IntKind.i64 6, AV.int IntKind.i64 3, AV.int IntKind.i64 3], AV.int IntKind.i64 3),
 (AV.agg [AV.int IntKind.i64 6, AV.int IntKind.i64 4, AV.int IntKind.i64 1], AV.int IntKind.i64 4),
 (AV.agg [AV.int IntKind.i64 6, AV.int IntKind.i64 4, AV.int IntKind.i64 4], AV.int IntKind.i64 1),
 (AV.agg [AV.int IntKind.i64 7, AV.int IntKind.i64 1, AV.int IntKind.i64 1], AV.int IntKind.i64 1),
 (AV.agg [AV.int IntKind.i64 7, AV.int IntKind.i64 1, AV.int IntKind.i64 2], AV.int IntKind.i64 2),
 (AV.agg [AV.int IntKind.i64 7, AV.int IntKind.i64 1, AV.int IntKind.i64 3], AV.int IntKind.i64 3),
 (AV.agg [AV.int IntKind.i64 7, AV.int IntKind.i64 2, AV.int IntKind.i64 1], AV.int IntKind.i64 2),
 (AV.agg [AV.int IntKind.i64 7, AV.int IntKind.i64 2, AV.int IntKind.i64 3], AV.int IntKind.i64 2),
 (AV.agg [AV.int IntKind.i64 7, AV.int IntKind.i64 3, AV.int IntKind.i64 1], AV.int IntKind.i64 3),
 (AV.agg [AV.int IntKind.i64 7, AV.int IntKind.i64 3, AV.int IntKind.i64 2], AV.int IntKind.i64 2),
 (AV.agg [AV.int IntKind.i64 8, AV.int IntKind.i64 1, AV.int IntKind.i64 1], AV.int IntKind.i64 1),
 (AV.agg [AV.int IntKind.i64 8, AV.int IntKind.i64 2, AV.int IntKind.i64 1], AV.int IntKind.i64 2),
 (AV.agg [AV.int IntKind.i64 8, AV.int IntKind.i64 2, AV.int IntKind.i64 2], AV.int IntKind.i64 1),
 (AV.agg [AV.int IntKind.i64 8, AV.int IntKind.i64 3, AV.int IntKind.i64 1], AV.int IntKind.i64 3)])
def qcw : Option qTy := qaz (qAn).ev
theorem qJy : qcw = (qAn).ev := qaa _
theorem q3K : FH IP 86 qWa qXe (fun _ => qcw) := q4C (fun _ => qaa _) (fun v => by kernel_rfl)
def T4 : Tab := (86, FE qWa qXe (fun _ => qcw)) :: T3
theorem q3c : qaj IP T4 := ⟨qak q3K, q73⟩
abbrev qGx : Type := Int × Bool
def qMx : PArgs := ⟨[.int .i64, .int .i64, .int .i64], []⟩
def qN8 : List PRes := [⟨false, .tup [.int .i64, .bool], []⟩]
def qmF (x0 x1 x2 : Int) : DT qGx :=
 .br (x0 == 10)
 (.br (x0 == 10)
 (.at ((5, x1 == x2)))
 (.br (x0 == 12)
 (.br (x0 == 12)
 (.bi (br (x1 == x2) (some (x1 != 5)) (some false)) (fun y0 =>
 .at ((5, y0)))
 (.no))
 (.br (x0 == 14)
 (.br (x0 == 14)
 (.bi (br (x1 == x2) (some (x1 == 5)) (some false)) (fun y0 =>
 .at ((5, y0)))
 (.no))
 (.br (x0 == 17)
 (.br (x0 == 17)
 (.bi (br (x1 == x2) (some (x1 != 5)) (some false)) (fun y0 =>
 .at ((x1, y0)))
 (.no))
 (.bi (qcw) (fun y0 =>
 .br (qrb (true, [EK.i, EK.i, EK.i]) y0 (AV.agg [AV.int IntKind.i64 x0, AV.int IntKind.i64 x1, AV.int IntKind.i64 x2]))
 (.br (okE false [CS.int IntKind.i64] [qds (true, [EK.i, EK.i, EK.i]) y0 (AV.agg [AV.int IntKind.i64 x0, AV.int IntKind.i64 x1, AV.int IntKind.i64 x2])] 0)
 (.at ((intOf (cellAt [qds (true, [EK.i, EK.i, EK.i]) y0 (AV.agg [AV.int IntKind.i64 x0, AV.int IntKind.i64 x1, AV.int IntKind.i64 x2])] 0 0), intOf (cellAt [qds (true, [EK.i, EK.i, EK.i]) y0 (AV.agg [AV.int IntKind.i64 x0, AV.int IntKind.i64 x1, AV.int IntKind.i64 x2])] 0 0) != 0)))
 (.no))
 (.br (qsy (true, [EK.i, EK.i, EK.i]) y0 (AV.agg [AV.int IntKind.i64 x0, AV.int IntKind.i64 x1, AV.int IntKind.i64 x2])) (.at ((0, false))) (.no)))
 (.no)))
 (.br (x0 == 18)
 (.bi (br (x1 == x2) (some (x1 != 5)) (some false)) (fun y0 =>
 .at ((x1, y0)))
 (.no))
 (.bi (qcw) (fun y0 =>
 .br (qrb (true, [EK.i, EK.i, EK.i]) y0 (AV.agg [AV.int IntKind.i64 x0, AV.int IntKind.i64 x1, AV.int IntKind.i64 x2]))
 (.br (okE false [CS.int IntKind.i64] [qds (true, [EK.i, EK.i, EK.i]) y0 (AV.agg [AV.int IntKind.i64 x0, AV.int IntKind.i64 x1, AV.int IntKind.i64 x2])] 0)
 (.at ((intOf (cellAt [qds (true, [EK.i, EK.i, EK.i]) y0 (AV.agg [AV.int IntKind.i64 x0, AV.int IntKind.i64 x1, AV.int IntKind.i64 x2])] 0 0), intOf (cellAt [qds (true, [EK.i, EK.i, EK.i]) y0 (AV.agg [AV.int IntKind.i64 x0, AV.int IntKind.i64 x1, AV.int IntKind.i64 x2])] 0 0) != 0)))
 (.no))
 (.br (qsy (true, [EK.i, EK.i, EK.i]) y0 (AV.agg [AV.int IntKind.i64 x0, AV.int IntKind.i64 x1, AV.int IntKind.i64 x2])) (.at ((0, false))) (.no)))
 (.no)))))
 (.br (x0 == 15)
 (.bi (br (x1 == x2) (some (x1 == 5)) (some false)) (fun y0 =>
 .at ((5, y0)))
 (.no))
 (.br (x0 == 17)
 (.br (x0 == 17)
 (.bi (br (x1 == x2) (some (x1 != 5)) (some false)) (fun y0 =>
 .at ((x1, y0)))
 (.no))
 (.bi (qcw) (fun y0 =>
 .br (qrb (true, [EK.i, EK.i, EK.i]) y0 (AV.agg [AV.int IntKind.i64 x0, AV.int IntKind.i64 x1, AV.int IntKind.i64 x2]))
 (.br (okE false [CS.int IntKind.i64] [qds (true, [EK.i, EK.i, EK.i]) y0 (AV.agg [AV.int IntKind.i64 x0, AV.int IntKind.i64 x1, AV.int IntKind.i64 x2])] 0)
 (.at ((intOf (cellAt [qds (true, [EK.i, EK.i, EK.i]) y0 (AV.agg [AV.int IntKind.i64 x0, AV.int IntKind.i64 x1, AV.int IntKind.i64 x2])] 0 0), intOf (cellAt [qds (true, [EK.i, EK.i, EK.i]) y0 (AV.agg [AV.int IntKind.i64 x0, AV.int IntKind.i64 x1, AV.int IntKind.i64 x2])] 0 0) != 0)))
 (.no))
 (.br (qsy (true, [EK.i, EK.i, EK.i]) y0 (AV.agg [AV.int IntKind.i64 x0, AV.int IntKind.i64 x1, AV.int IntKind.i64 x2])) (.at ((0, false))) (.no)))
 (.no)))
 (.br (x0 == 18)
 (.bi (br (x1 == x2) (some (x1 != 5)) (some false)) (fun y0 =>
 .at ((x1, y0)))
 (.no))
 (.bi (qcw) (fun y0 =>
 .br (qrb (true, [EK.i, EK.i, EK.i]) y0 (AV.agg [AV.int IntKind.i64 x0, AV.int IntKind.i64 x1, AV.int IntKind.i64 x2]))
 (.br (okE false [CS.int IntKind.i64] [qds (true, [EK.i, EK.i, EK.i]) y0 (AV.agg [AV.int IntKind.i64 x0, AV.int IntKind.i64 x1, AV.int IntKind.i64 x2])] 0)
 (.at ((intOf (cellAt [qds (true, [EK.i, EK.i, EK.i]) y0 (AV.agg [AV.int IntKind.i64 x0, AV.int IntKind.i64 x1, AV.int IntKind.i64 x2])] 0 0), intOf (cellAt [qds (true, [EK.i, EK.i, EK.i]) y0 (AV.agg [AV.int IntKind.i64 x0, AV.int IntKind.i64 x1, AV.int IntKind.i64 x2])] 0 0) != 0)))
 (.no))
 (.br (qsy (true, [EK.i, EK.i, EK.i]) y0 (AV.agg [AV.int IntKind.i64 x0, AV.int IntKind.i64 x1, AV.int IntKind.i64 x2])) (.at ((0, false))) (.no)))
 (.no)))))))
 (.br (x0 == 13)
 (.bi (br (x1 == x2) (some (x1 != 5)) (some false)) (fun y0 =>
 .at ((5, y0)))
 (.no))
 (.br (x0 == 14)
 (.br (x0 == 14)
 (.bi (br (x1 == x2) (some (x1 == 5)) (some false)) (fun y0 =>
 .at ((5, y0)))
 (.no))
 (.br (x0 == 17)
 (.br (x0 == 17)
 (.bi (br (x1 == x2) (some (x1 != 5)) (some false)) (fun y0 =>
 .at ((x1, y0)))
 (.no))
 (.bi (qcw) (fun y0 =>
 .br (qrb (true, [EK.i, EK.i, EK.i]) y0 (AV.agg [AV.int IntKind.i64 x0, AV.int IntKind.i64 x1, AV.int IntKind.i64 x2]))
 (.br (okE false [CS.int IntKind.i64] [qds (true, [EK.i, EK.i, EK.i]) y0 (AV.agg [AV.int IntKind.i64 x0, AV.int IntKind.i64 x1, AV.int IntKind.i64 x2])] 0)
 (.at ((intOf (cellAt [qds (true, [EK.i, EK.i, EK.i]) y0 (AV.agg [AV.int IntKind.i64 x0, AV.int IntKind.i64 x1, AV.int IntKind.i64 x2])] 0 0), intOf (cellAt [qds (true, [EK.i, EK.i, EK.i]) y0 (AV.agg [AV.int IntKind.i64 x0, AV.int IntKind.i64 x1, AV.int IntKind.i64 x2])] 0 0) != 0)))
 (.no))
 (.br (qsy (true, [EK.i, EK.i, EK.i]) y0 (AV.agg [AV.int IntKind.i64 x0, AV.int IntKind.i64 x1, AV.int IntKind.i64 x2])) (.at ((0, false))) (.no)))
 (.no)))
 (.br (x0 == 18)
 (.bi (br (x1 == x2) (some (x1 != 5)) (some false)) (fun y0 =>
 .at ((x1, y0)))
 (.no))
 (.bi (qcw) (fun y0 =>
 .br (qrb (true, [EK.i, EK.i, EK.i]) y0 (AV.agg [AV.int IntKind.i64 x0, AV.int IntKind.i64 x1, AV.int IntKind.i64 x2]))
 (.br (okE false [CS.int IntKind.i64] [qds (true, [EK.i, EK.i, EK.i]) y0 (AV.agg [AV.int IntKind.i64 x0, AV.int IntKind.i64 x1, AV.int IntKind.i64 x2])] 0)
 (.at ((intOf (cellAt [qds (true, [EK.i, EK.i, EK.i]) y0 (AV.agg [AV.int IntKind.i64 x0, AV.int IntKind.i64 x1, AV.int IntKind.i64 x2])] 0 0), intOf (cellAt [qds (true, [EK.i, EK.i, EK.i]) y0 (AV.agg [AV.int IntKind.i64 x0, AV.int IntKind.i64 x1, AV.int IntKind.i64 x2])] 0 0) != 0)))
 (.no))
 (.br (qsy (true, [EK.i, EK.i, EK.i]) y0 (AV.agg [AV.int IntKind.i64 x0, AV.int IntKind.i64 x1, AV.int IntKind.i64 x2])) (.at ((0, false))) (.no)))
 (.no)))))
 (.br (x0 == 15)
 (.bi (br (x1 == x2) (some (x1 == 5)) (some false)) (fun y0 =>
 .at ((5, y0)))
 (.no))
 (.br (x0 == 17)
 (.br (x0 == 17)
 (.bi (br (x1 == x2) (some (x1 != 5)) (some false)) (fun y0 =>
 .at ((x1, y0)))
 (.no))
 (.bi (qcw) (fun y0 =>
 .br (qrb (true, [EK.i, EK.i, EK.i]) y0 (AV.agg [AV.int IntKind.i64 x0, AV.int IntKind.i64 x1, AV.int IntKind.i64 x2]))
 (.br (okE false [CS.int IntKind.i64] [qds (true, [EK.i, EK.i, EK.i]) y0 (AV.agg [AV.int IntKind.i64 x0, AV.int IntKind.i64 x1, AV.int IntKind.i64 x2])] 0)
 (.at ((intOf (cellAt [qds (true, [EK.i, EK.i, EK.i]) y0 (AV.agg [AV.int IntKind.i64 x0, AV.int IntKind.i64 x1, AV.int IntKind.i64 x2])] 0 0), intOf (cellAt [qds (true, [EK.i, EK.i, EK.i]) y0 (AV.agg [AV.int IntKind.i64 x0, AV.int IntKind.i64 x1, AV.int IntKind.i64 x2])] 0 0) != 0)))
 (.no))
 (.br (qsy (true, [EK.i, EK.i, EK.i]) y0 (AV.agg [AV.int IntKind.i64 x0, AV.int IntKind.i64 x1, AV.int IntKind.i64 x2])) (.at ((0, false))) (.no)))
 (.no)))
 (.br (x0 == 18)
 (.bi (br (x1 == x2) (some (x1 != 5)) (some false)) (fun y0 =>
 .at ((x1, y0)))
 (.no))
 (.bi (qcw) (fun y0 =>
 .br (qrb (true, [EK.i, EK.i, EK.i]) y0 (AV.agg [AV.int IntKind.i64 x0, AV.int IntKind.i64 x1, AV.int IntKind.i64 x2]))
 (.br (okE false [CS.int IntKind.i64] [qds (true, [EK.i, EK.i, EK.i]) y0 (AV.agg [AV.int IntKind.i64 x0, AV.int IntKind.i64 x1, AV.int IntKind.i64 x2])] 0)
 (.at ((intOf (cellAt [qds (true, [EK.i, EK.i, EK.i]) y0 (AV.agg [AV.int IntKind.i64 x0, AV.int IntKind.i64 x1, AV.int IntKind.i64 x2])] 0 0), intOf (cellAt [qds (true, [EK.i, EK.i, EK.i]) y0 (AV.agg [AV.int IntKind.i64 x0, AV.int IntKind.i64 x1, AV.int IntKind.i64 x2])] 0 0) != 0)))
 (.no))
 (.br (qsy (true, [EK.i, EK.i, EK.i]) y0 (AV.agg [AV.int IntKind.i64 x0, AV.int IntKind.i64 x1, AV.int IntKind.i64 x2])) (.at ((0, false))) (.no)))
 (.no)))))))))
 (.br (x0 == 11)
 (.at ((5, x1 == x2)))
 (.br (x0 == 12)
 (.br (x0 == 12)
 (.bi (br (x1 == x2) (some (x1 != 5)) (some false)) (fun y0 =>
 .at ((5, y0)))
 (.no))
 (.br (x0 == 14)
 (.br (x0 == 14)
 (.bi (br (x1 == x2) (some (x1 == 5)) (some false)) (fun y0 =>
 .at ((5, y0)))
 (.no))
 (.br (x0 == 17)
 (.br (x0 == 17)
 (.bi (br (x1 == x2) (some (x1 != 5)) (some false)) (fun y0 =>
 .at ((x1, y0)))
 (.no))
 (.bi (qcw) (fun y0 =>
 .br (qrb (true, [EK.i, EK.i, EK.i]) y0 (AV.agg [AV.int IntKind.i64 x0, AV.int IntKind.i64 x1, AV.int IntKind.i64 x2]))
 (.br (okE false [CS.int IntKind.i64] [qds (true, [EK.i, EK.i, EK.i]) y0 (AV.agg [AV.int IntKind.i64 x0, AV.int IntKind.i64 x1, AV.int IntKind.i64 x2])] 0)
 (.at ((intOf (cellAt [qds (true, [EK.i, EK.i, EK.i]) y0 (AV.agg [AV.int IntKind.i64 x0, AV.int IntKind.i64 x1, AV.int IntKind.i64 x2])] 0 0), intOf (cellAt [qds (true, [EK.i, EK.i, EK.i]) y0 (AV.agg [AV.int IntKind.i64 x0, AV.int IntKind.i64 x1, AV.int IntKind.i64 x2])] 0 0) != 0)))
 (.no))
 (.br (qsy (true, [EK.i, EK.i, EK.i]) y0 (AV.agg [AV.int IntKind.i64 x0, AV.int IntKind.i64 x1, AV.int IntKind.i64 x2])) (.at ((0, false))) (.no)))
 (.no)))
 (.br (x0 == 18)
 (.bi (br (x1 == x2) (some (x1 != 5)) (some false)) (fun y0 =>
 .at ((x1, y0)))
 (.no))
 (.bi (qcw) (fun y0 =>
 .br (qrb (true, [EK.i, EK.i, EK.i]) y0 (AV.agg [AV.int IntKind.i64 x0, AV.int IntKind.i64 x1, AV.int IntKind.i64 x2]))
 (.br (okE false [CS.int IntKind.i64] [qds (true, [EK.i, EK.i, EK.i]) y0 (AV.agg [AV.int IntKind.i64 x0, AV.int IntKind.i64 x1, AV.int IntKind.i64 x2])] 0)
 (.at ((intOf (cellAt [qds (true, [EK.i, EK.i, EK.i]) y0 (AV.agg [AV.int IntKind.i64 x0, AV.int IntKind.i64 x1, AV.int IntKind.i64 x2])] 0 0), intOf (cellAt [qds (true, [EK.i, EK.i, EK.i]) y0 (AV.agg [AV.int IntKind.i64 x0, AV.int IntKind.i64 x1, AV.int IntKind.i64 x2])] 0 0) != 0)))
 (.no))
 (.br (qsy (true, [EK.i, EK.i, EK.i]) y0 (AV.agg [AV.int IntKind.i64 x0, AV.int IntKind.i64 x1, AV.int IntKind.i64 x2])) (.at ((0, false))) (.no)))
 (.no)))))
 (.br (x0 == 15)
 (.bi (br (x1 == x2) (some (x1 == 5)) (some false)) (fun y0 =>
 .at ((5, y0)))
 (.no))
 (.br (x0 == 17)
 (.br (x0 == 17)
 (.bi (br (x1 == x2) (some (x1 != 5)) (some false)) (fun y0 =>
 .at ((x1, y0)))
 (.no))
 (.bi (qcw) (fun y0 =>
 .br (qrb (true, [EK.i, EK.i, EK.i]) y0 (AV.agg [AV.int IntKind.i64 x0, AV.int IntKind.i64 x1, AV.int IntKind.i64 x2]))
 (.br (okE false [CS.int IntKind.i64] [qds (true, [EK.i, EK.i, EK.i]) y0 (AV.agg [AV.int IntKind.i64 x0, AV.int IntKind.i64 x1, AV.int IntKind.i64 x2])] 0)
 (.at ((intOf (cellAt [qds (true, [EK.i, EK.i, EK.i]) y0 (AV.agg [AV.int IntKind.i64 x0, AV.int IntKind.i64 x1, AV.int IntKind.i64 x2])] 0 0), intOf (cellAt [qds (true, [EK.i, EK.i, EK.i]) y0 (AV.agg [AV.int IntKind.i64 x0, AV.int IntKind.i64 x1, AV.int IntKind.i64 x2])] 0 0) != 0)))
 (.no))
 (.br (qsy (true, [EK.i, EK.i, EK.i]) y0 (AV.agg [AV.int IntKind.i64 x0, AV.int IntKind.i64 x1, AV.int IntKind.i64 x2])) (.at ((0, false))) (.no)))
 (.no)))
 (.br (x0 == 18)
 (.bi (br (x1 == x2) (some (x1 != 5)) (some false)) (fun y0 =>
 .at ((x1, y0)))
 (.no))
 (.bi (qcw) (fun y0 =>
 .br (qrb (true, [EK.i, EK.i, EK.i]) y0 (AV.agg [AV.int IntKind.i64 x0, AV.int IntKind.i64 x1, AV.int IntKind.i64 x2]))
 (.br (okE false [CS.int IntKind.i64] [qds (true, [EK.i, EK.i, EK.i]) y0 (AV.agg [AV.int IntKind.i64 x0, AV.int IntKind.i64 x1, AV.int IntKind.i64 x2])] 0)
 (.at ((intOf (cellAt [qds (true, [EK.i, EK.i, EK.i]) y0 (AV.agg [AV.int IntKind.i64 x0, AV.int IntKind.i64 x1, AV.int IntKind.i64 x2])] 0 0), intOf (cellAt [qds (true, [EK.i, EK.i, EK.i]) y0 (AV.agg [AV.int IntKind.i64 x0, AV.int IntKind.i64 x1, AV.int IntKind.i64 x2])] 0 0) != 0)))
 (.no))
 (.br (qsy (true, [EK.i, EK.i, EK.i]) y0 (AV.agg [AV.int IntKind.i64 x0, AV.int IntKind.i64 x1, AV.int IntKind.i64 x2])) (.at ((0, false))) (.no)))
 (.no)))))))
 (.br (x0 == 13)
 (.bi (br (x1 == x2) (some (x1 != 5)) (some false)) (fun y0 =>
 .at ((5, y0)))
 (.no))
 (.br (x0 == 14)
 (.br (x0 == 14)
 (.bi (br (x1 == x2) (some (x1 == 5)) (some false)) (fun y0 =>
 .at ((5, y0)))
 (.no))
 (.br (x0 == 17)
 (.br (x0 == 17)
 (.bi (br (x1 == x2) (some (x1 != 5)) (some false)) (fun y0 =>
 .at ((x1, y0)))
 (.no))
 (.bi (qcw) (fun y0 =>
 .br (qrb (true, [EK.i, EK.i, EK.i]) y0 (AV.agg [AV.int IntKind.i64 x0, AV.int IntKind.i64 x1, AV.int IntKind.i64 x2]))
 (.br (okE false [CS.int IntKind.i64] [qds (true, [EK.i, EK.i, EK.i]) y0 (AV.agg [AV.int IntKind.i64 x0, AV.int IntKind.i64 x1, AV.int IntKind.i64 x2])] 0)
 (.at ((intOf (cellAt [qds (true, [EK.i, EK.i, EK.i]) y0 (AV.agg [AV.int IntKind.i64 x0, AV.int IntKind.i64 x1, AV.int IntKind.i64 x2])] 0 0), intOf (cellAt [qds (true, [EK.i, EK.i, EK.i]) y0 (AV.agg [AV.int IntKind.i64 x0, AV.int IntKind.i64 x1, AV.int IntKind.i64 x2])] 0 0) != 0)))
 (.no))
 (.br (qsy (true, [EK.i, EK.i, EK.i]) y0 (AV.agg [AV.int IntKind.i64 x0, AV.int IntKind.i64 x1, AV.int IntKind.i64 x2])) (.at ((0, false))) (.no)))
 (.no)))
 (.br (x0 == 18)
 (.bi (br (x1 == x2) (some (x1 != 5)) (some false)) (fun y0 =>
 .at ((x1, y0)))
 (.no))
 (.bi (qcw) (fun y0 =>
 .br (qrb (true, [EK.i, EK.i, EK.i]) y0 (AV.agg [AV.int IntKind.i64 x0, AV.int IntKind.i64 x1, AV.int IntKind.i64 x2]))
 (.br (okE false [CS.int IntKind.i64] [qds (true, [EK.i, EK.i, EK.i]) y0 (AV.agg [AV.int IntKind.i64 x0, AV.int IntKind.i64 x1, AV.int IntKind.i64 x2])] 0)
 (.at ((intOf (cellAt [qds (true, [EK.i, EK.i, EK.i]) y0 (AV.agg [AV.int IntKind.i64 x0, AV.int IntKind.i64 x1, AV.int IntKind.i64 x2])] 0 0), intOf (cellAt [qds (true, [EK.i, EK.i, EK.i]) y0 (AV.agg [AV.int IntKind.i64 x0, AV.int IntKind.i64 x1, AV.int IntKind.i64 x2])] 0 0) != 0)))
 (.no))
 (.br (qsy (true, [EK.i, EK.i, EK.i]) y0 (AV.agg [AV.int IntKind.i64 x0, AV.int IntKind.i64 x1, AV.int IntKind.i64 x2])) (.at ((0, false))) (.no)))
 (.no)))))
 (.br (x0 == 15)
 (.bi (br (x1 == x2) (some (x1 == 5)) (some false)) (fun y0 =>
 .at ((5, y0)))
 (.no))
 (.br (x0 == 17)
 (.br (x0 == 17)
 (.bi (br (x1 == x2) (some (x1 != 5)) (some false)) (fun y0 =>
 .at ((x1, y0)))
 (.no))
 (.bi (qcw) (fun y0 =>
 .br (qrb (true, [EK.i, EK.i, EK.i]) y0 (AV.agg [AV.int IntKind.i64 x0, AV.int IntKind.i64 x1, AV.int IntKind.i64 x2]))
 (.br (okE false [CS.int IntKind.i64] [qds (true, [EK.i, EK.i, EK.i]) y0 (AV.agg [AV.int IntKind.i64 x0, AV.int IntKind.i64 x1, AV.int IntKind.i64 x2])] 0)
 (.at ((intOf (cellAt [qds (true, [EK.i, EK.i, EK.i]) y0 (AV.agg [AV.int IntKind.i64 x0, AV.int IntKind.i64 x1, AV.int IntKind.i64 x2])] 0 0), intOf (cellAt [qds (true, [EK.i, EK.i, EK.i]) y0 (AV.agg [AV.int IntKind.i64 x0, AV.int IntKind.i64 x1, AV.int IntKind.i64 x2])] 0 0) != 0)))
 (.no))
 (.br (qsy (true, [EK.i, EK.i, EK.i]) y0 (AV.agg [AV.int IntKind.i64 x0, AV.int IntKind.i64 x1, AV.int IntKind.i64 x2])) (.at ((0, false))) (.no)))
 (.no)))
 (.br (x0 == 18)
 (.bi (br (x1 == x2) (some (x1 != 5)) (some false)) (fun y0 =>
 .at ((x1, y0)))
 (.no))
 (.bi (qcw) (fun y0 =>
 .br (qrb (true, [EK.i, EK.i, EK.i]) y0 (AV.agg [AV.int IntKind.i64 x0, AV.int IntKind.i64 x1, AV.int IntKind.i64 x2]))
 (.br (okE false [CS.int IntKind.i64] [qds (true, [EK.i, EK.i, EK.i]) y0 (AV.agg [AV.int IntKind.i64 x0, AV.int IntKind.i64 x1, AV.int IntKind.i64 x2])] 0)
 (.at ((intOf (cellAt [qds (true, [EK.i, EK.i, EK.i]) y0 (AV.agg [AV.int IntKind.i64 x0, AV.int IntKind.i64 x1, AV.int IntKind.i64 x2])] 0 0), intOf (cellAt [qds (true, [EK.i, EK.i, EK.i]) y0 (AV.agg [AV.int IntKind.i64 x0, AV.int IntKind.i64 x1, AV.int IntKind.i64 x2])] 0 0) != 0)))
 (.no))
 (.br (qsy (true, [EK.i, EK.i, EK.i]) y0 (AV.agg [AV.int IntKind.i64 x0, AV.int IntKind.i64 x1, AV.int IntKind.i64 x2])) (.at ((0, false))) (.no)))
 (.no)))))))))
def qon (x0 x1 x2 : Int) : Option qGx := qaz (qmF x0 x1 x2).ev
theorem qDL (x0 x1 x2 : Int) : qon x0 x1 x2 = (qmF x0 x1 x2).ev := qaa _
theorem qZb : FH IP 52 qMx qN8 (k3 qon) := qaf (F := F52) (L := []) (t := (k3 qmF)) q3c (qab (l := []) (by kernel_rfl) trivial) (by kernel_rfl) (fun v => by kernel_rfl) (fun _ => qaa _)
def T5 : Tab := (52, FE qMx qN8 (k3 qon)) :: T4
theorem q3d : qaj IP T5 := ⟨qak qZb, q3c⟩
abbrev qT9 : Type := Int × Bool
def qWO : PArgs := ⟨[.int .i64, .view 1], []⟩
def qXS : List PRes := [⟨false, .tup [.int .i64, .bool], []⟩]
def qvx (x0 : Int) (x1 : List AV) : DT qT9 :=
 .bi (pj 0 (qwQ (x0, x1, x1, (x1.length : Int), 0))) (fun y0 =>
 .at ((0, false)))
 (.bi (pj 1 (qwQ (x0, x1, x1, (x1.length : Int), 0))) (fun y0 =>
 .br ((y0.2.1.length : Int) == 1)
 (.br (qaB [CS.int IntKind.i64] y0.2.1 0)
 (.bi (qom y0.1 (intOf (cellAt y0.2.1 0 0))) (fun y1 =>
 .br (!y1.2) (.at ((0, false))) (.at ((y1.1, true))))
 (.no))
 (.no))
 (.br ((y0.2.1.length : Int) == 2)
 (.br (qaB [CS.int IntKind.i64] y0.2.1 0)
 (.br (qaB [CS.int IntKind.i64] y0.2.1 1)
 (.bi (qon y0.1 (intOf (cellAt y0.2.1 0 0)) (intOf (cellAt y0.2.1 1 0))) (fun y1 =>
 .br (!y1.2) (.at ((0, false))) (.at ((y1.1, true))))
 (.no))
 (.no))
 (.no))
 (.br ((y0.2.1.length : Int) == 3)
 (.br (qaB [CS.int IntKind.i64] y0.2.1 1)
 (.br (y0.1 == 19)
 (.br (qaB [CS.int IntKind.i64] y0.2.1 0)
 (.br (intOf (cellAt y0.2.1 0 0) == 5)
 (.br (qaB [CS.int IntKind.i64] y0.2.1 1)
 (.br (qaB [CS.int IntKind.i64] y0.2.1 2)
 (.br (!intOf (cellAt y0.2.1 1 0) == intOf (cellAt y0.2.1 2 0)) (.at ((0, false))) (.at ((intOf (cellAt y0.2.1 1 0), true))))
 (.no))
 (.no))
 (.at ((0, false))))
 (.no))
 (.at ((0, false))))
 (.no))
 (.at ((0, false))))))
 (.no))
def qcZ (x0 : Int) (x1 : List AV) : Option qT9 := qaz (qvx x0 x1).ev
theorem qKa (x0 : Int) (x1 : List AV) : qcZ x0 x1 = (qvx x0 x1).ev := qaa _
theorem q4l : FH IP 22 qWO qXS (k2 qcZ) := qaf (F := F22) (L := [(1002200, qLg)]) (t := (k2 qvx)) q3d (qab (l := [qah F22 0]) (by kernel_rfl) ⟨qay (by kernel_rfl) q58, trivial⟩) (by kernel_rfl) (fun v => by kernel_rfl) (fun _ => qaa _)
def T6 : Tab := (22, FE qWO qXS (k2 qcZ)) :: T5
theorem q3f : qaj IP T6 := ⟨qak q4l, q3d⟩
abbrev qGr : Type := Bool
def qMr : PArgs := ⟨[.agg [.int .i64, .int .i64]], []⟩
def qN2 : List PRes := [⟨false, .bool, []⟩]
def qmz (x0 x1 : Int) : DT qGr :=
 .br (x0 == 1)
 (.at (true))
 (.br (x0 == 2)
 (.bi (br (decide (x1 ≥ -1000000000000)) (some (decide (x1 ≤ 1000000000000))) (some false)) (fun y0 =>
 .at (y0))
 (.no))
 (.br (x0 == 3)
 (.bi (br (decide (x1 ≥ -1000000000)) (some (decide (x1 ≤ 1000000000))) (some false)) (fun y0 =>
 .at (y0))
 (.no))
 (.br (x0 == 4)
 (.bi (br (decide (x1 ≥ 0)) (some (decide (x1 ≤ 73048))) (some false)) (fun y0 =>
 .at (y0))
 (.no))
 (.br (x0 == 5)
 (.bi (br (x1 == 0) (some true) (some (x1 == 1))) (fun y0 =>
 .at (y0))
 (.no))
 (.at (false))))))
def qfc (x0 x1 : Int) : Option qGr := qaz (qmz x0 x1).ev
theorem qDF (x0 x1 : Int) : qfc x0 x1 = (qmz x0 x1).ev := qaa _
theorem qY2 : FH IP 23 qMr qN2 (k2 qfc) := qaf (F := F23) (L := []) (t := (k2 qmz)) q3f (qab (l := []) (by kernel_rfl) trivial) (by kernel_rfl) (fun v => by kernel_rfl) (fun _ => qaa _)
def T7 : Tab := (23, FE qMr qN2 (k2 qfc)) :: T6
theorem qYj : qaj IP T7 := ⟨qak qY2, q3f⟩
abbrev qdU : Type := Int × List AV × Int × List AV × Int × Int × Int × Int
def qAY : List PSt := [⟨[(1001001, .junk), (0, .int .i64), (1, .view 2), (4, .ref 0 0 0), (9, .int .i64), (37, .view 2), (38, .int .i64), (39, .int .i64)], [(0, .box [.int .i64, .int .i64] false)], 1, 0⟩]
def qPM (x0 : Int) (x1 : List AV) (x2 : Int) (x3 : List AV) (x4 x5 : Int) (x6 x7 : Int) : X × St := (X.ret,
 ⟨[(0, AV.int IntKind.i64 x0), (1, AV.view 2 x1), (4, AV.ref 0 0 0), (5, AV.int IntKind.i64 1), (9, AV.int IntKind.i64 x2)], [(0, Blk.box [AV.int IntKind.i64 0, AV.int IntKind.i64 0] false)], 1, 0⟩)
def qPN (x0 : Int) (x1 : List AV) (x2 : Int) (x3 : List AV) (x4 x5 : Int) (x6 x7 : Int) : X × St := (X.exit 2,
 ⟨[(0, AV.int IntKind.i64 x0), (1, AV.view 2 x1), (4, AV.ref 0 0 0), (5, AV.junk), (9, AV.int IntKind.i64 x2)], [(0, Blk.box [AV.int IntKind.i64 x6, AV.int IntKind.i64 x7] false)], 1, 0⟩)
def q1J : List (qdU → X × St) := [(k8 qPM), (k8 qPN)]
def qk3 (x0 : Int) (x1 : List AV) (x2 : Int) (x3 : List AV) (x4 x5 : Int) (x6 x7 : Int) : DT (Rd qdU) :=
 .br (decide (x5 < x4))
 (.br (qaB [CS.int IntKind.i64, CS.int IntKind.i64] x3 x5)
 (.bi (qfc (intOf (cellAt x3 x5 0)) (intOf (cellAt x3 x5 1))) (fun y0 =>
 .br (!y0) (.at (.done 0)) (.at (.next ((x0, x1, x2, x3, x4, IntKind.i64.wrap (x5 + 1), x6, x7)))))
 (.no))
 (.no))
 (.at (.done 1))
def qhP : qdU → DT (Rd qdU) := (fun v => qk3 v.1 v.2.1 v.2.2.1 v.2.2.2.1 v.2.2.2.2.1 v.2.2.2.2.2.1 v.2.2.2.2.2.2.1 v.2.2.2.2.2.2.2)
def qiV (v : qdU) : Option (Nat × qdU) := qaz (qar (fun v => (qhP v).ev) v)
theorem qfv (v : qdU) : qiV v = qar (fun v => (qhP v).ev) v := qaa _
def qBH : qcJ := LE (τ := qdU) (hD qAY) (qiV) q1J
theorem q09 : Go.Eng.Told IP (qah F10 1).1 (qah F10 1).2 (qBH) := qax (inferInstance : Inhabited qdU) (hs := qAY) (st := qhP) (L := []) qYj (qab (l := []) (by kernel_rfl) trivial) (qfv) (fun v => by kernel_rfl) (fun v => by kernel_rfl)
abbrev qGq : Type := Int
def qMq : PArgs := ⟨[.bool], []⟩
def qN1 : List PRes := [⟨false, .int .i64, []⟩]
def qmy (x0 : Bool) : DT qGq :=
 .br (x0) (.at (1)) (.at (0))
def qgV (x0 : Bool) : Option qGq := qaz (qmy x0).ev
theorem qDE (x0 : Bool) : qgV x0 = (qmy x0).ev := qaa _
theorem qY1 : FH IP 53 qMq qN1 qgV := qaf (F := F53) (L := []) (t := qmy) qYj (qab (l := []) (by kernel_rfl) trivial) (by kernel_rfl) (fun v => by kernel_rfl) (fun _ => qaa _)
def T8 : Tab := (53, FE qMq qN1 qgV) :: T7
theorem q3i : qaj IP T8 := ⟨qak qY1, qYj⟩
abbrev qF8 : Type := Int
def qL8 : PArgs := ⟨[.int .i64, .view 2], []⟩
def qNJ : List PRes := [⟨false, .int .i64, []⟩]
def qh2 (x0 : Int) (x1 : List AV) : DT qF8 :=
 .br (qaB [CS.int IntKind.i64, CS.int IntKind.i64] x1 0)
 (.br (x0 == 16)
 (.at (IntKind.i64.wrap (1 - intOf (cellAt x1 0 1))))
 (.br (x0 == 19)
 (.br (intOf (cellAt x1 0 1) == 1)
 (.br (qaB [CS.int IntKind.i64, CS.int IntKind.i64] x1 1) (.at (intOf (cellAt x1 1 1))) (.no))
 (.br (qaB [CS.int IntKind.i64, CS.int IntKind.i64] x1 2) (.at (intOf (cellAt x1 2 1))) (.no)))
 (.br (qaB [CS.int IntKind.i64, CS.int IntKind.i64] x1 1)
 (.br (x0 == 10)
 (.bi (qgV (intOf (cellAt x1 0 1) == intOf (cellAt x1 1 1))) (fun y0 =>
 .at (y0))
 (.no))
 (.br (x0 == 11)
 (.bi (qgV (intOf (cellAt x1 0 1) != intOf (cellAt x1 1 1))) (fun y0 =>
 .at (y0))
 (.no))
 (.br (x0 == 12)
 (.bi (qgV (decide (intOf (cellAt x1 0 1) < intOf (cellAt x1 1 1)))) (fun y0 =>
 .at (y0))
 (.no))
 (.br (x0 == 13)
 (.bi (qgV (decide (intOf (cellAt x1 0 1) ≤ intOf (cellAt x1 1 1)))) (fun y0 =>
 .at (y0))
 (.no))
 (.br (x0 == 14)
 (.at (IntKind.i64.wrap (intOf (cellAt x1 0 1) * intOf (cellAt x1 1 1))))
 (.br (x0 == 15)
 (.at (if intOf (cellAt x1 1 1) > intOf (cellAt x1 0 1) then intOf (cellAt x1 1 1) else intOf (cellAt x1 0 1)))
 (.br (x0 == 17)
 (.at (if intOf (cellAt x1 1 1) < intOf (cellAt x1 0 1) then intOf (cellAt x1 1 1) else intOf (cellAt x1 0 1)))
 (.at (if intOf (cellAt x1 1 1) > intOf (cellAt x1 0 1) then intOf (cellAt x1 1 1) else intOf (cellAt x1 0 1))))))))))
 (.no))))
 (.no)
def qek (x0 : Int) (x1 : List AV) : Option qF8 := qaz (qh2 x0 x1).ev
theorem qkp (x0 : Int) (x1 : List AV) : qek x0 x1 = (qh2 x0 x1).ev := qaa _
theorem qYI : FH IP 24 qL8 qNJ (k2 qek) := qaf (F := F24) (L := []) (t := (k2 qh2)) q3i (qab (l := []) (by kernel_rfl) trivial) (by kernel_rfl) (fun v => by kernel_rfl) (fun _ => qaa _)
def T9 : Tab := (24, FE qL8 qNJ (k2 qek)) :: T8
theorem q3j : qaj IP T9 := ⟨qak qYI, q3i⟩
abbrev qHi : Type := Int × Int
def qNl : PArgs := ⟨[.int .i64], []⟩
def qOX : List PRes := [⟨false, .agg [.int .i64, .int .u64], []⟩]
def qno (x0 : Int) : DT qHi :=
 .at ((x0.fdiv (2 ^ 63), IntKind.u64.wrap x0))
def qcP (x0 : Int) : Option qHi := qaz (qno x0).ev
theorem qEu (x0 : Int) : qcP x0 = (qno x0).ev := qaa _
theorem qZ5 : FH IP 56 qNl qOX qcP := qaf (F := F56) (L := []) (t := qno) q3j (qab (l := []) (by kernel_rfl) trivial) (by kernel_rfl) (fun v => by kernel_rfl) (fun _ => qaa _)
def T10 : Tab := (56, FE qNl qOX qcP) :: T9
theorem qUl : qaj IP T10 := ⟨qak qZ5, q3j⟩
abbrev qG5 : Type := Int × Int × Int
def qM8 : PArgs := ⟨[.agg [.int .i64, .int .u64], .agg [.int .i64, .int .u64]], []⟩
def qOK : List PRes := [⟨false, .tup [.agg [.int .i64, .int .u64], .int .i64], []⟩]
def qnc (x0 x1 : Int) (x2 x3 : Int) : DT qG5 :=
 .br (qfH x1 && qfH x3 && decide (0 ≤ 1))
 (.bi (br (if true = true then !decide (x0 < 0) == decide (x2 < 0) else decide (x0 < 0) == decide (x2 < 0))
 (some
 (if true = true then !decide (IntKind.i64.wrap (IntKind.i64.wrap (x0 - x2) - IntKind.i64.wrap (if x1 < x3 + 0 then 1 else 0)) < 0) == decide (x0 < 0)
 else decide (IntKind.i64.wrap (IntKind.i64.wrap (x0 - x2) - IntKind.i64.wrap (if x1 < x3 + 0 then 1 else 0)) < 0) == decide (x0 < 0)))
 (some false)) (fun y0 =>
 .br (y0)
 (.at ((0, 0, 6)))
 (.at ((IntKind.i64.wrap (IntKind.i64.wrap (x0 - x2) - IntKind.i64.wrap (if x1 < x3 + 0 then 1 else 0)), (x1 - x3 - 0) % 18446744073709551616, 0))))
 (.no))
 (.no)
def qky (x0 x1 : Int) (x2 x3 : Int) : Option qG5 := qaz (qnc x0 x1 x2 x3).ev
theorem qEi (x0 x1 : Int) (x2 x3 : Int) : qky x0 x1 x2 x3 = (qnc x0 x1 x2 x3).ev := qaa _
theorem qZS : FH IP 55 qM8 qOK (k4 qky) := qaf (F := F55) (L := []) (t := (k4 qnc)) qUl (qab (l := []) (by kernel_rfl) trivial) (by kernel_rfl) (fun v => by kernel_rfl) (fun _ => qaa _)
def T11 : Tab := (55, FE qM8 qOK (k4 qky)) :: T10
theorem qUm : qaj IP T11 := ⟨qak qZS, qUl⟩
abbrev qG3 : Type := Int × Bool
def qM6 : PArgs := ⟨[.agg [.int .i64, .int .u64]], []⟩
def qOI : List PRes := [⟨false, .tup [.int .i64, .bool], []⟩]
def qna (x0 x1 : Int) : DT qG3 :=
 .bi (qcP (IntKind.i64.wrap x1)) (fun y0 =>
 .br (if true = true then !(y0.1 == x0 && (y0.2 == x1 && true)) else y0.1 == x0 && (y0.2 == x1 && true)) (.at ((0, false))) (.at ((IntKind.i64.wrap x1, true))))
 (.no)
def qiJ (x0 x1 : Int) : Option qG3 := qaz (qna x0 x1).ev
theorem qEg (x0 x1 : Int) : qiJ x0 x1 = (qna x0 x1).ev := qaa _
theorem qZQ : FH IP 87 qM6 qOI (k2 qiJ) := qaf (F := F87) (L := []) (t := (k2 qna)) qUm (qab (l := []) (by kernel_rfl) trivial) (by kernel_rfl) (fun v => by kernel_rfl) (fun _ => qaa _)
def T12 : Tab := (87, FE qM6 qOI (k2 qiJ)) :: T11
theorem qUn : qaj IP T12 := ⟨qak qZQ, qUm⟩
abbrev qF9 : Type := Int × Int
def qL9 : PArgs := ⟨[.agg [.int .i64, .int .u64], .int .i64], []⟩
def qNK : List PRes := [⟨false, .tup [.int .i64, .int .i64], []⟩]
def qmk (x0 x1 x2 : Int) : DT qF9 :=
 .bi (qiJ x0 x1) (fun y0 =>
 .bi (br (x2 != 0) (some true) (some !y0.2)) (fun y1 =>
 .br (y1) (.at ((0, 6))) (.at ((y0.1, 0))))
 (.no))
 (.no)
def qgc (x0 x1 x2 : Int) : Option qF9 := qaz (qmk x0 x1 x2).ev
theorem qDp (x0 x1 x2 : Int) : qgc x0 x1 x2 = (qmk x0 x1 x2).ev := qaa _
theorem qYJ : FH IP 54 qL9 qNK (k3 qgc) := qaf (F := F54) (L := []) (t := (k3 qmk)) qUn (qab (l := []) (by kernel_rfl) trivial) (by kernel_rfl) (fun v => by kernel_rfl) (fun _ => qaa _)
def T13 : Tab := (54, FE qL9 qNK (k3 qgc)) :: T12
theorem qUo : qaj IP T13 := ⟨qak qYJ, qUn⟩
abbrev qG1 : Type := Int × Int × Int
def qM4 : PArgs := ⟨[.agg [.int .i64, .int .u64], .agg [.int .i64, .int .u64]], []⟩
def qOG : List PRes := [⟨false, .tup [.agg [.int .i64, .int .u64], .int .i64], []⟩]
def qm8 (x0 x1 : Int) (x2 x3 : Int) : DT qG1 :=
 .br (qfH x1 && qfH x3 && decide (0 ≤ 1))
 (.bi (br (if false = true then !decide (x0 < 0) == decide (x2 < 0) else decide (x0 < 0) == decide (x2 < 0))
 (some
 (if true = true then !decide (IntKind.i64.wrap (IntKind.i64.wrap (x0 + x2) + IntKind.i64.wrap ((x1 + x3 + 0) / 18446744073709551616)) < 0) == decide (x0 < 0)
 else decide (IntKind.i64.wrap (IntKind.i64.wrap (x0 + x2) + IntKind.i64.wrap ((x1 + x3 + 0) / 18446744073709551616)) < 0) == decide (x0 < 0)))
 (some false)) (fun y0 =>
 .br (y0)
 (.at ((0, 0, 6)))
 (.at ((IntKind.i64.wrap (IntKind.i64.wrap (x0 + x2) + IntKind.i64.wrap ((x1 + x3 + 0) / 18446744073709551616)), (x1 + x3 + 0) % 18446744073709551616, 0))))
 (.no))
 (.no)
def qkx (x0 x1 : Int) (x2 x3 : Int) : Option qG1 := qaz (qm8 x0 x1 x2 x3).ev
theorem qEe (x0 x1 : Int) (x2 x3 : Int) : qkx x0 x1 x2 x3 = (qm8 x0 x1 x2 x3).ev := qaa _
theorem qZO : FH IP 57 qM4 qOG (k4 qkx) := qaf (F := F57) (L := []) (t := (k4 qm8)) qUo (qab (l := []) (by kernel_rfl) trivial) (by kernel_rfl) (fun v => by kernel_rfl) (fun _ => qaa _)
def T14 : Tab := (57, FE qM4 qOG (k4 qkx)) :: T13
theorem qUp : qaj IP T14 := ⟨qak qZO, qUo⟩
abbrev qG6 : Type := Int
def qM9 : PArgs := ⟨[.int .i64], []⟩
def qOL : List PRes := [⟨false, .int .u64, []⟩]
def qnd (x0 : Int) : DT qG6 :=
 .br (decide (x0 < 0)) (.at (IntKind.u64.wrap (0 - IntKind.u64.wrap x0))) (.at (IntKind.u64.wrap x0))
def qkz (x0 : Int) : Option qG6 := qaz (qnd x0).ev
theorem qEj (x0 : Int) : qkz x0 = (qnd x0).ev := qaa _
theorem qZT : FH IP 116 qM9 qOL qkz := qaf (F := q7k) (L := []) (t := qnd) qUp (qab (l := []) (by kernel_rfl) trivial) (by kernel_rfl) (fun v => by kernel_rfl) (fun _ => qaa _)
def T15 : Tab := (116, FE qM9 qOL qkz) :: T14
theorem qUq : qaj IP T15 := ⟨qak qZT, qUp⟩
abbrev qGg : Type := Int × Int
def qMg : PArgs := ⟨[.agg [.int .i64, .int .u64]], []⟩
def qNR : List PRes := [⟨false, .agg [.int .i64, .int .u64], []⟩]
def qmr (x0 x1 : Int) : DT qGg :=
 .br (qfH (IntKind.u64.wrap (-1 - x1)) && qfH 1 && decide (0 ≤ 1))
 (.at ((IntKind.i64.wrap (IntKind.u64.wrap (IntKind.u64.wrap (IntKind.i64.wrap (-1 - x0)) + (IntKind.u64.wrap (-1 - x1) + 1 + 0) / 18446744073709551616)), (IntKind.u64.wrap (-1 - x1) + 1 + 0) % 18446744073709551616)))
 (.no)
def qiz (x0 x1 : Int) : Option qGg := qaz (qmr x0 x1).ev
theorem qDx (x0 x1 : Int) : qiz x0 x1 = (qmr x0 x1).ev := qaa _
theorem qYR : FH IP 117 qMg qNR (k2 qiz) := qaf (F := q7l) (L := []) (t := (k2 qmr)) qUq (qab (l := []) (by kernel_rfl) trivial) (by kernel_rfl) (fun v => by kernel_rfl) (fun _ => qaa _)
def T16 : Tab := (117, FE qMg qNR (k2 qiz)) :: T15
theorem qUr : qaj IP T16 := ⟨qak qYR, qUq⟩
abbrev qG4 : Type := Int × Int
def qM7 : PArgs := ⟨[.int .i64, .int .i64], []⟩
def qOJ : List PRes := [⟨false, .agg [.int .i64, .int .u64], []⟩]
def qnb (x0 x1 : Int) : DT qG4 :=
 .bi (qkz x0) (fun y0 =>
 .bi (qkz x1) (fun y1 =>
 .br (qfH y0 && qfH y1)
 (.br (if true = true then !decide (x0 < 0) == decide (x1 < 0) else decide (x0 < 0) == decide (x1 < 0))
 (.bi (qiz (IntKind.i64.wrap (y0 * y1 / 18446744073709551616)) (y0 * y1 % 18446744073709551616)) (fun y2 =>
 .at ((y2.1, y2.2)))
 (.no))
 (.at ((IntKind.i64.wrap (y0 * y1 / 18446744073709551616), y0 * y1 % 18446744073709551616))))
 (.no))
 (.no))
 (.no)
def qoD (x0 x1 : Int) : Option qG4 := qaz (qnb x0 x1).ev
theorem qEh (x0 x1 : Int) : qoD x0 x1 = (qnb x0 x1).ev := qaa _
theorem qZR : FH IP 90 qM7 qOJ (k2 qoD) := qaf (F := F90) (L := []) (t := (k2 qnb)) qUr (qab (l := []) (by kernel_rfl) trivial) (by kernel_rfl) (fun v => by kernel_rfl) (fun _ => qaa _)
def T17 : Tab := (90, FE qM7 qOJ (k2 qoD)) :: T16
theorem qUs : qaj IP T17 := ⟨qak qZR, qUr⟩
abbrev qTL : Type := Bool
def qWn : PArgs := ⟨[.int .i64], []⟩
def qXr : List PRes := [⟨false, .bool, []⟩]
def qu6 (x0 : Int) : DT qTL :=
 .bi (br (decide (x0 ≥ 1)) (some (decide (x0 ≤ 6))) (some false)) (fun y0 =>
 .at (y0))
 (.no)
def qrO (x0 : Int) : Option qTL := qaz (qu6 x0).ev
theorem qJJ (x0 : Int) : qrO x0 = (qu6 x0).ev := qaa _
theorem q3V : FH IP 118 qWn qXr qrO := qaf (F := q7m) (L := []) (t := qu6) qUs (qab (l := []) (by kernel_rfl) trivial) (by kernel_rfl) (fun v => by kernel_rfl) (fun _ => qaa _)
def T18 : Tab := (118, FE qWn qXr qrO) :: T17
theorem qUt : qaj IP T18 := ⟨qak q3V, qUs⟩
abbrev qUa : Type := Int × Int
def qWP : PArgs := ⟨[.agg [.int .i64, .int .u64]], []⟩
def qXT : List PRes := [⟨false, .agg [.int .u64, .int .u64], []⟩]
def qvy (x0 x1 : Int) : DT qUa :=
 .br (decide (x0 < 0))
 (.bi (qiz x0 x1) (fun y0 =>
 .at ((IntKind.u64.wrap y0.1, y0.2)))
 (.no))
 (.at ((IntKind.u64.wrap x0, x1)))
def qwv (x0 x1 : Int) : Option qUa := qaz (qvy x0 x1).ev
theorem qKb (x0 x1 : Int) : qwv x0 x1 = (qvy x0 x1).ev := qaa _
theorem q4m : FH IP 133 qWP qXT (k2 qwv) := qaf (F := q7w) (L := []) (t := (k2 qvy)) qUt (qab (l := []) (by kernel_rfl) trivial) (by kernel_rfl) (fun v => by kernel_rfl) (fun _ => qaa _)
def T19 : Tab := (133, FE qWP qXT (k2 qwv)) :: T18
theorem qAv : qaj IP T19 := ⟨qak q4m, qUt⟩
abbrev qfN : Type := Int × Int × Int × Int × Int × Int × Int × Int × Int
def qKD : List PSt := [⟨[(1014500, .junk), (2, .int .u64), (8, .int .u64), (9, .int .u64), (10, .int .u64), (11, .int .u64), (13, .int .u64), (14, .int .u64), (15, .int .u64), (16, .int .u64)], [], 0, 0⟩]
def qSP (x0 x1 : Int) (x2 x3 : Int) (x4 x5 : Int) (x6 x7 x8 : Int) : X × St := (X.exit 0,
 ⟨[(2, AV.int IntKind.u64 x0), (8, AV.int IntKind.u64 x1), (9, AV.int IntKind.u64 x2), (10, AV.int IntKind.u64 x3), (11, AV.int IntKind.u64 x4), (13, AV.int IntKind.u64 x5),
 (14, AV.int IntKind.u64 x6), (15, AV.int IntKind.u64 (IntKind.u64.wrap (x7 - 1)))], [], 0, 0⟩)
def qSQ (x0 x1 : Int) (x2 x3 : Int) (x4 x5 : Int) (x6 x7 x8 : Int) : X × St := (X.exit 0,
 ⟨[(2, AV.int IntKind.u64 x0), (8, AV.int IntKind.u64 x1), (9, AV.int IntKind.u64 x2), (10, AV.int IntKind.u64 x3), (11, AV.int IntKind.u64 x4), (13, AV.int IntKind.u64 x5),
 (14, AV.int IntKind.u64 x6), (15, AV.int IntKind.u64 x7)], [], 0, 0⟩)
def q6t : List (qfN → X × St) := [(k9 qSP), (k9 qSQ)]
def qxI (x0 x1 : Int) (x2 x3 : Int) (x4 x5 : Int) (x6 x7 x8 : Int) : DT (Rd qfN) :=
 .bi (br (decide (x7 ≥ 4294967296)) (some true) (some (decide (IntKind.u64.wrap (x7 * x3) > IntKind.u64.wrap (IntKind.u64.wrap (4294967296 * x8) + x5))))) (fun y0 =>
 .br (y0)
 (.br (decide (IntKind.u64.wrap (x8 + x2) ≥ 4294967296)) (.at (.done 0)) (.at (.next ((x0, x1, x2, x3, x4, x5, x6, IntKind.u64.wrap (x7 - 1), IntKind.u64.wrap (x8 + x2))))))
 (.at (.done 1)))
 (.no)
def qur : qfN → DT (Rd qfN) := (fun v => qxI v.1 v.2.1 v.2.2.1 v.2.2.2.1 v.2.2.2.2.1 v.2.2.2.2.2.1 v.2.2.2.2.2.2.1 v.2.2.2.2.2.2.2.1 v.2.2.2.2.2.2.2.2)
def qwJ (v : qfN) : Option (Nat × qfN) := qaz (qar (fun v => (qur v).ev) v)
theorem qwK (v : qfN) : qwJ v = qar (fun v => (qur v).ev) v := qaa _
def qK9 : qcJ := LE (τ := qfN) (hD qKD) (qwJ) q6t
theorem q51 : Go.Eng.Told IP (qah qRe 0).1 (qah qRe 0).2 (qK9) := qax (inferInstance : Inhabited qfN) (hs := qKD) (st := qur) (L := []) qAv (qab (l := []) (by kernel_rfl) trivial) (qwK) (fun v => by kernel_rfl) (fun v => by kernel_rfl)
abbrev qfO : Type := Int × Int × Int × Int × Int × Int × Int × Int × Int
def qKE : List PSt := [⟨[(1014501, .junk), (2, .int .u64), (8, .int .u64), (9, .int .u64), (10, .int .u64), (14, .int .u64), (15, .int .u64), (16, .int .u64), (17, .int .u64), (18, .int .u64)], [], 0, 0⟩]
def qSR (x0 x1 : Int) (x2 x3 : Int) (x4 x5 : Int) (x6 x7 x8 : Int) : X × St := (X.exit 2,
 ⟨[(2, AV.int IntKind.u64 x0), (8, AV.int IntKind.u64 x1), (14, AV.int IntKind.u64 x4), (15, AV.int IntKind.u64 x5), (17, AV.int IntKind.u64 x7),
 (18, AV.int IntKind.u64 (IntKind.u64.wrap (x8 - 1)))], [], 0, 0⟩)
def qSS (x0 x1 : Int) (x2 x3 : Int) (x4 x5 : Int) (x6 x7 x8 : Int) : X × St := (X.exit 2,
 ⟨[(2, AV.int IntKind.u64 x0), (8, AV.int IntKind.u64 x1), (14, AV.int IntKind.u64 x4), (15, AV.int IntKind.u64 x5), (17, AV.int IntKind.u64 x7), (18, AV.int IntKind.u64 x8)], [], 0, 0⟩)
def q6u : List (qfO → X × St) := [(k9 qSR), (k9 qSS)]
def qxJ (x0 x1 : Int) (x2 x3 : Int) (x4 x5 : Int) (x6 x7 x8 : Int) : DT (Rd qfO) :=
 .bi (br (decide (x8 ≥ 4294967296)) (some true) (some (decide (IntKind.u64.wrap (x8 * x3) > IntKind.u64.wrap (IntKind.u64.wrap (4294967296 * x6) + x4))))) (fun y0 =>
 .br (y0)
 (.br (decide (IntKind.u64.wrap (x6 + x2) ≥ 4294967296)) (.at (.done 0)) (.at (.next ((x0, x1, x2, x3, x4, x5, IntKind.u64.wrap (x6 + x2), x7, IntKind.u64.wrap (x8 - 1))))))
 (.at (.done 1)))
 (.no)
def qus : qfO → DT (Rd qfO) := (fun v => qxJ v.1 v.2.1 v.2.2.1 v.2.2.2.1 v.2.2.2.2.1 v.2.2.2.2.2.1 v.2.2.2.2.2.2.1 v.2.2.2.2.2.2.2.1 v.2.2.2.2.2.2.2.2)
def qpj (v : qfO) : Option (Nat × qfO) := qaz (qar (fun v => (qus v).ev) v)
theorem qwL (v : qfO) : qpj v = qar (fun v => (qus v).ev) v := qaa _
def qLa : qcJ := LE (τ := qfO) (hD qKE) (qpj) q6u
theorem q52 : Go.Eng.Told IP (qah qRe 1).1 (qah qRe 1).2 (qLa) := qax (inferInstance : Inhabited qfO) (hs := qKE) (st := qus) (L := []) qAv (qab (l := []) (by kernel_rfl) trivial) (qwL) (fun v => by kernel_rfl) (fun v => by kernel_rfl)
end
end Go.Proofs.H13

/- Functions over plain data. Printed by a program of mine. -/
import Derived.Test.YtigchhcddgibhaaGreatDoorE3
import Derived.Test.YtigchhcddgibhaaGreatDoorIP13
import Derived.KernelRfl
import Derived.Test.YtigchhcddgibhaaGreatDoorSpA
namespace Go.Proofs.H13
open Go Go.Eng
set_option maxRecDepth 100000
noncomputable section
abbrev k2 {a0 a1 r : Type} (f : a0 -> a1 -> r) (v : a0 × a1) : r := f v.1 v.2
abbrev k3 {a0 a1 a2 r : Type} (f : a0 -> a1 -> a2 -> r) (v : a0 × a1 × a2) : r := f v.1 v.2.1 v.2.2
abbrev k4 {a0 a1 a2 a3 r : Type} (f : a0 -> a1 -> a2 -> a3 -> r) (v : a0 × a1 × a2 × a3) : r := f v.1 v.2.1 v.2.2.1 v.2.2.2
abbrev k5 {a0 a1 a2 a3 a4 r : Type} (f : a0 -> a1 -> a2 -> a3 -> a4 -> r) (v : a0 × a1 × a2 × a3 × a4) : r := f v.1 v.2.1 v.2.2.1 v.2.2.2.1 v.2.2.2.2
abbrev k6 {a0 a1 a2 a3 a4 a5 r : Type} (f : a0 -> a1 -> a2 -> a3 -> a4 -> a5 -> r) (v : a0 × a1 × a2 × a3 × a4 × a5) : r := f v.1 v.2.1 v.2.2.1 v.2.2.2.1 v.2.2.2.2.1 v.2.2.2.2.2
abbrev k7 {a0 a1 a2 a3 a4 a5 a6 r : Type} (f : a0 -> a1 -> a2 -> a3 -> a4 -> a5 -> a6 -> r) (v : a0 × a1 × a2 × a3 × a4 × a5 × a6) : r := f v.1 v.2.1 v.2.2.1 v.2.2.2.1 v.2.2.2.2.1 v.2.2.2.2.2.1 v.2.2.2.2.2.2
abbrev k8 {a0 a1 a2 a3 a4 a5 a6 a7 r : Type} (f : a0 -> a1 -> a2 -> a3 -> a4 -> a5 -> a6 -> a7 -> r) (v : a0 × a1 × a2 × a3 × a4 × a5 × a6 × a7) : r := f v.1 v.2.1 v.2.2.1 v.2.2.2.1 v.2.2.2.2.1 v.2.2.2.2.2.1 v.2.2.2.2.2.2.1 v.2.2.2.2.2.2.2
abbrev k9 {a0 a1 a2 a3 a4 a5 a6 a7 a8 r : Type} (f : a0 -> a1 -> a2 -> a3 -> a4 -> a5 -> a6 -> a7 -> a8 -> r) (v : a0 × a1 × a2 × a3 × a4 × a5 × a6 × a7 × a8) : r := f v.1 v.2.1 v.2.2.1 v.2.2.2.1 v.2.2.2.2.1 v.2.2.2.2.2.1 v.2.2.2.2.2.2.1 v.2.2.2.2.2.2.2.1 v.2.2.2.2.2.2.2.2
abbrev k10 {a0 a1 a2 a3 a4 a5 a6 a7 a8 a9 r : Type} (f : a0 -> a1 -> a2 -> a3 -> a4 -> a5 -> a6 -> a7 -> a8 -> a9 -> r) (v : a0 × a1 × a2 × a3 × a4 × a5 × a6 × a7 × a8 × a9) : r := f v.1 v.2.1 v.2.2.1 v.2.2.2.1 v.2.2.2.2.1 v.2.2.2.2.2.1 v.2.2.2.2.2.2.1 v.2.2.2.2.2.2.2.1 v.2.2.2.2.2.2.2.2.1 v.2.2.2.2.2.2.2.2.2
def T0 : Tab := [(143, qtb), (166, qng), (169, q3T), (164, qsp 226), (178, qDB 226), (196, qti), (115, qtj), (159, qLe), (89, qs8), (88, qtm), (47, qta 2 24), (139, qta 1 8)]
theorem qZt : qai IP T0 := ⟨q8i, q8l, q8m, q8k, q8n, q8o, q8g, q8j, zds, zdr, zdq, q8h, trivial⟩
abbrev qBi : Type := Int × Int
def qGJ : PArgs := ⟨[.int .i64, .int .i64], []⟩
def qIk : List PRes := [⟨false, .agg [.int .i64, .int .i64], []⟩]
def qjA (x0 x1 : Int) : DT qBi :=
 .at ((x0, x1))
def qbV (x0 x1 : Int) : Option qBi := qav (qjA x0 x1).ev
theorem qyi (x0 x1) : qbV x0 x1 = (qjA x0 x1).ev := qaa _
theorem qUT : FH IP 21 qGJ qIk (k2 qbV) := fh F21 (k2 qjA) qZt
def T1 : Tab := (21, FE qGJ qIk (k2 qbV)) :: T0
theorem qTY : qai IP T1 := ⟨qah qUT, qZt⟩
abbrev qck : Type := (Int × List AV × List AV × Int × Int × Int × Int) ⊕ (Int × List AV × List AV × Int × Int × Int × Int × List AV)
def qvJ : List PSt := [⟨[(1001000, .junk), (0, .int .i64), (1, .view 2), (4, .ref 0 0 0), (6, .nils 1), (16, .view 2), (17, .int .i64), (18, .int .i64)], [(0, .box [.int .i64, .int .i64] false)], 1, 0⟩, ⟨[(1001000, .junk), (0, .int .i64), (1, .view 2), (4, .ref 0 0 0), (6, .own 1 0), (16, .view 2), (17, .int .i64), (18, .int .i64)], [(0, .box [.int .i64, .int .i64] false), (1, .arr 1 false)], 2, 0⟩]
def qJJ (x0 : Int) (x1 x2 : List AV) (x3 x4 : Int) (x5 x6 : Int) : X × St := (.exit 0,
 ⟨[(0, .int .i64 x0), (1, .view 2 x1), (4, .ref 0 0 0), (6, .nils ⟨1, .nil⟩)], [(0, .box [.int .i64 x5, .int .i64 x6] false)], 1, 0⟩)
def qJK (x0 : Int) (x1 x2 : List AV) (x3 x4 : Int) (x5 x6 : Int) (x7 : List AV) : X × St := (.exit 0,
 ⟨[(0, .int .i64 x0), (1, .view 2 x1), (4, .ref 0 0 0), (6, .own 1 0 none)], [(0, .box [.int .i64 x5, .int .i64 x6] false), (1, .arr 1 x7 false)], 2, 0⟩)
def qW5 : List (qck -> X × St) := [fun w => (k7 qJJ) ((sl w)), fun w => (k8 qJK) ((sr w))]
def qoE (x0 : Int) (x1 x2 : List AV) (x3 x4 : Int) (x5 x6 : Int) : DT (Rd qck) :=
 .br (decide (x4 < x3))
 (.br (qay [.int .i64, .int .i64] x2 x4)
 (.at (.next ((.inr (x0, x1, x2, x3, IntKind.i64.wrap (x4 + 1), x5, x6, [.int .i64 (intOf (cellAt x2 x4 0))])))))
 (.no))
 (.at (.done 0))
def qia (x0 : Int) (x1 x2 : List AV) (x3 x4 : Int) (x5 x6 : Int) (x7 : List AV) : DT (Rd qck) :=
 .br (decide (x4 < x3))
 (.br (qay [.int .i64, .int .i64] x2 x4)
 (.br (room (x7.length + 1) 8) (.at (.next ((.inr (x0, x1, x2, x3, IntKind.i64.wrap (x4 + 1), x5, x6, x7 ++ [AV.int IntKind.i64 (intOf (cellAt x2 x4 0))]))))) (.no))
 (.no))
 (.at (.done 1))
def qfJ : qck -> DT (Rd qck) := (Sum.elim (fun v => qoE v.1 v.2.1 v.2.2.1 v.2.2.2.1 v.2.2.2.2.1 v.2.2.2.2.2.1 v.2.2.2.2.2.2) (fun v => qia v.1 v.2.1 v.2.2.1 v.2.2.2.1 v.2.2.2.2.1 v.2.2.2.2.2.1 v.2.2.2.2.2.2.1 v.2.2.2.2.2.2.2))
def qgB (v : qck) : Option (Nat × qck) := qav (qaq (fun v => (qfJ v).ev) v)
theorem qcc (v) : qgB v = qaq (fun v => (qfJ v).ev) v := qaa _
def qwp : qb3 := LE (τ := qck) (hD qvJ) (qgB) qW5
theorem qWu : Go.Eng.Told IP (qaf F10 0).1 (qaf F10 0).2 (qwp) := qat (inferInstance : Inhabited qck) (hs := qvJ) (st := qfJ) (L := []) qTY (qab (l := []) (by kernel_rfl) trivial) (qcc) (fun v => match v with | (.inl v) => by kernel_rfl | (.inr v) => by kernel_rfl) (fun v => match v with | (.inl v) => by kernel_rfl | (.inr v) => by kernel_rfl)
abbrev qAM : Type := Bool
def qGd : PArgs := ⟨[.int .i64], []⟩
def qHO : List PRes := [⟨false, .bool, []⟩]
def qi9 (x0 : Int) : DT qAM :=
 .bi (br (decide (x0 >= 1)) (some (decide (x0 <= 5))) (some false)) (fun y0 =>
 .at (y0))
 (.no)
def qgi (x0 : Int) : Option qAM := qav (qi9 x0).ev
theorem qxL (x0) : qgi x0 = (qi9 x0).ev := qaa _
theorem qUj : FH IP 50 qGd qHO qgi := fh F50 qi9 qTY
def T2 : Tab := (50, FE qGd qHO qgi) :: T1
theorem qTZ : qai IP T2 := ⟨qah qUj, qTY⟩
abbrev qer : Type := Int × List AV × List AV × Int × Int
def qFd : List PSt := [⟨[(1002200, .junk), (0, .int .i64), (1, .view 1), (10, .view 1), (11, .int .i64), (12, .int .i64)], [], 0, 0⟩]
def qN4 (x0 : Int) (x1 x2 : List AV) (x3 x4 : Int) : X × St := (.ret, ⟨[(0, .int .i64 x0), (1, .view 1 x1), (4, .int .i64 0), (5, .bool false)], [], 0, 0⟩)
def qN5 (x0 : Int) (x1 x2 : List AV) (x3 x4 : Int) : X × St := (.exit 0, ⟨[(0, .int .i64 x0), (1, .view 1 x1), (4, .junk), (5, .junk)], [], 0, 0⟩)
def q3G : List (qer -> X × St) := [(k5 qN4), (k5 qN5)]
def qmw (x0 : Int) (x1 x2 : List AV) (x3 x4 : Int) : DT (Rd qer) :=
 .br (decide (x4 < x3))
 (.br (qay [.int .i64] x2 x4)
 (.bi (qgi (intOf (cellAt x2 x4 0))) (fun y0 =>
 .br (!y0) (.at (.done 0)) (.at (.next ((x0, x1, x2, x3, IntKind.i64.wrap (x4 + 1))))))
 (.no))
 (.no))
 (.at (.done 1))
def qmv : qer -> DT (Rd qer) := (fun v => qmw v.1 v.2.1 v.2.2.1 v.2.2.2.1 v.2.2.2.2)
def qr4 (v : qer) : Option (Nat × qer) := qav (qaq (fun v => (qmv v).ev) v)
theorem qr5 (v) : qr4 v = qaq (fun v => (qmv v).ev) v := qaa _
def qFF : qb3 := LE (τ := qer) (hD qFd) (qr4) q3G
theorem q29 : Go.Eng.Told IP (qaf F22 0).1 (qaf F22 0).2 (qFF) := lp (inferInstance : Inhabited qer) (hs := qFd) qmv qTZ qr5
abbrev qBf : Type := Int × Bool
def qGG : PArgs := ⟨[.int .i64, .int .i64], []⟩
def qIh : List PRes := [⟨false, .tup [.int .i64, .bool], []⟩]
def qjx (x0 x1 : Int) : DT qBf :=
 .br (x0 == 16)
 (.at ((5, x1 == 5)))
 (.br (x0 == 9)
 (.bi (br (x1 == 1) (some true) (some (x1 == 2))) (fun y0 =>
 .bi (br y0 (some true) (some (x1 == 3))) (fun y1 =>
 .at ((x1, y1)))
 (.no))
 (.no))
 (.at ((0, false))))
def qkV (x0 x1 : Int) : Option qBf := qav (qjx x0 x1).ev
theorem qyf (x0 x1) : qkV x0 x1 = (qjx x0 x1).ev := qaa _
theorem qUQ : FH IP 51 qGG qIh (k2 qkV) := fh F51 (k2 qjx) qTZ
def T3 : Tab := (51, FE qGG qIh (k2 qkV)) :: T2
theorem q55 : qai IP T3 := ⟨qah qUQ, qTZ⟩
abbrev qOA : Type := List (AV × AV)
def qRq : PArgs := ⟨[], []⟩
def qSt : List PRes := [⟨false, .mref 0, [(0, .mp)]⟩]
def qvf : DT qOA :=
 .at ([(AV.agg [.int .i64 5, .int .i64 1, .int .i64 1], .int .i64 1),
 (AV.agg [.int .i64 5, .int .i64 2, .int .i64 2], .int .i64 2),
 (AV.agg [.int .i64 5, .int .i64 3, .int .i64 3], .int .i64 3),
 (AV.agg [.int .i64 5, .int .i64 4, .int .i64 1], .int .i64 4),
 (AV.agg [.int .i64 6, .int .i64 1, .int .i64 1], .int .i64 1),
 (AV.agg [.int .i64 6, .int .i64 2, .int .i64 2], .int .i64 2),
 (AV.agg [.int .i64 6, .int .i64 3, .int .i64 3], .int .i64 3),
 (AV.agg [.int .i64 6, .int .i64 4, .int .i64 1], .int .i64 4),
 (AV.agg [.int .i64 6, .int .i64 4, .int .i64 4], .int .i64 1),
 (AV.agg [.int .i64 7, .int .i64 1, .int .i64 1], .int .i64 1),
 (AV.agg [.int .i64 7, .int .i64 1, .int .i64 2], .int .i64 2),
 (AV.agg [.int .i64 7, .int .i64 1, .int .i64 3], .int .i64 3),
 (AV.agg [.int .i64 7, .int .i64 2, .int .i64 1], .int .i64 2),
 (AV.agg [.int .i64 7, .int .i64 2, .int .i64 3], .int .i64 2),
 (AV.agg [.int .i64 7, .int .i64 3, .int .i64 1], .int .i64 3),
 (AV.agg [.int .i64 7, .int .i64 3, .int .i64 2], .int .i64 2),
 (AV.agg [.int .i64 8, .int .i64 1, .int .i64 1], .int .i64 1),
 (AV.agg [.int .i64 8, .int .i64 2, .int .i64 1], .int .i64 2),
 (AV.agg [.int .i64 8, .int .i64 2, .int .i64 2], .int .i64 1),
 (AV.agg [.int .i64 8, .int .i64 3, .int .i64 1], .int .i64 3)])
def qbE : Option qOA := qav (qvf).ev
theorem qD0 : qbE = (qvf).ev := qaa _
theorem qZ4 : FH IP 86 qRq qSt (fun _ => qbE) := q4V (fun _ => qaa _) (fun v => by kernel_rfl)
def T4 : Tab := (86, FE qRq qSt (fun _ => qbE)) :: T3
theorem qZx : qai IP T4 := ⟨qah qZ4, q55⟩
abbrev qBg : Type := Int × Bool
def qGH : PArgs := ⟨[.int .i64, .int .i64, .int .i64], []⟩
def qIi : List PRes := [⟨false, .tup [.int .i64, .bool], []⟩]
def qjy (x0 x1 x2 : Int) : DT qBg :=
 .br (x0 == 10)
 (.br (x0 == 10)
 (.at ((5, x1 == x2)))
 (.br (x0 == 12)
 (.br (x0 == 12)
 (.bi (br (x1 == x2) (some (x1 != 5)) (some false)) (fun y0 =>
 .at ((5, y0)))
 (.no))
 (.br (x0 == 14)
 (.br (x0 == 14)
 (.bi (br (x1 == x2) (some (x1 == 5)) (some false)) (fun y0 =>
 .at ((5, y0)))
 (.no))
 (.br (x0 == 17)
 (.br (x0 == 17)
 (.bi (br (x1 == x2) (some (x1 != 5)) (some false)) (fun y0 =>
 .at ((x1, y0)))
 (.no))
 (.bi (qbE) (fun y0 =>
 .br (qre (true, [EK.i, EK.i, EK.i]) y0 (AV.agg [.int .i64 x0, .int .i64 x1, .int .i64 x2]))
 (.br (okE false [CS.int IntKind.i64] [qcK (true, [EK.i, EK.i, EK.i]) y0 (AV.agg [.int .i64 x0, .int .i64 x1, .int .i64 x2])] 0)
 (.at ((intOf (cellAt [qcK (true, [EK.i, EK.i, EK.i]) y0 (AV.agg [.int .i64 x0, .int .i64 x1, .int .i64 x2])] 0 0), intOf (cellAt [qcK (true, [EK.i, EK.i, EK.i]) y0 (AV.agg [.int .i64 x0, .int .i64 x1, .int .i64 x2])] 0 0) != 0)))
 (.no))
 (.br (qrf (true, [EK.i, EK.i, EK.i]) y0 (AV.agg [.int .i64 x0, .int .i64 x1, .int .i64 x2])) (.at ((0, false))) (.no)))
 (.no)))
 (.br (x0 == 18)
 (.bi (br (x1 == x2) (some (x1 != 5)) (some false)) (fun y0 =>
 .at ((x1, y0)))
 (.no))
 (.bi (qbE) (fun y0 =>
 .br (qre (true, [EK.i, EK.i, EK.i]) y0 (AV.agg [.int .i64 x0, .int .i64 x1, .int .i64 x2]))
 (.br (okE false [CS.int IntKind.i64] [qcK (true, [EK.i, EK.i, EK.i]) y0 (AV.agg [.int .i64 x0, .int .i64 x1, .int .i64 x2])] 0)
 (.at ((intOf (cellAt [qcK (true, [EK.i, EK.i, EK.i]) y0 (AV.agg [.int .i64 x0, .int .i64 x1, .int .i64 x2])] 0 0), intOf (cellAt [qcK (true, [EK.i, EK.i, EK.i]) y0 (AV.agg [.int .i64 x0, .int .i64 x1, .int .i64 x2])] 0 0) != 0)))
 (.no))
 (.br (qrf (true, [EK.i, EK.i, EK.i]) y0 (AV.agg [.int .i64 x0, .int .i64 x1, .int .i64 x2])) (.at ((0, false))) (.no)))
 (.no)))))
 (.br (x0 == 15)
 (.bi (br (x1 == x2) (some (x1 == 5)) (some false)) (fun y0 =>
 .at ((5, y0)))
 (.no))
 (.br (x0 == 17)
 (.br (x0 == 17)
 (.bi (br (x1 == x2) (some (x1 != 5)) (some false)) (fun y0 =>
 .at ((x1, y0)))
 (.no))
 (.bi (qbE) (fun y0 =>
 .br (qre (true, [EK.i, EK.i, EK.i]) y0 (AV.agg [.int .i64 x0, .int .i64 x1, .int .i64 x2]))
 (.br (okE false [CS.int IntKind.i64] [qcK (true, [EK.i, EK.i, EK.i]) y0 (AV.agg [.int .i64 x0, .int .i64 x1, .int .i64 x2])] 0)
 (.at ((intOf (cellAt [qcK (true, [EK.i, EK.i, EK.i]) y0 (AV.agg [.int .i64 x0, .int .i64 x1, .int .i64 x2])] 0 0), intOf (cellAt [qcK (true, [EK.i, EK.i, EK.i]) y0 (AV.agg [.int .i64 x0, .int .i64 x1, .int .i64 x2])] 0 0) != 0)))
 (.no))
 (.br (qrf (true, [EK.i, EK.i, EK.i]) y0 (AV.agg [.int .i64 x0, .int .i64 x1, .int .i64 x2])) (.at ((0, false))) (.no)))
 (.no)))
 (.br (x0 == 18)
 (.bi (br (x1 == x2) (some (x1 != 5)) (some false)) (fun y0 =>
 .at ((x1, y0)))
 (.no))
 (.bi (qbE) (fun y0 =>
 .br (qre (true, [EK.i, EK.i, EK.i]) y0 (AV.agg [.int .i64 x0, .int .i64 x1, .int .i64 x2]))
 (.br (okE false [CS.int IntKind.i64] [qcK (true, [EK.i, EK.i, EK.i]) y0 (AV.agg [.int .i64 x0, .int .i64 x1, .int .i64 x2])] 0)
 (.at ((intOf (cellAt [qcK (true, [EK.i, EK.i, EK.i]) y0 (AV.agg [.int .i64 x0, .int .i64 x1, .int .i64 x2])] 0 0), intOf (cellAt [qcK (true, [EK.i, EK.i, EK.i]) y0 (AV.agg [.int .i64 x0, .int .i64 x1, .int .i64 x2])] 0 0) != 0)))
 (.no))
 (.br (qrf (true, [EK.i, EK.i, EK.i]) y0 (AV.agg [.int .i64 x0, .int .i64 x1, .int .i64 x2])) (.at ((0, false))) (.no)))
 (.no)))))))
 (.br (x0 == 13)
 (.bi (br (x1 == x2) (some (x1 != 5)) (some false)) (fun y0 =>
 .at ((5, y0)))
 (.no))
 (.br (x0 == 14)
 (.br (x0 == 14)
 (.bi (br (x1 == x2) (some (x1 == 5)) (some false)) (fun y0 =>
 .at ((5, y0)))
 (.no))
 (.br (x0 == 17)
 (.br (x0 == 17)
 (.bi (br (x1 == x2) (some (x1 != 5)) (some false)) (fun y0 =>
 .at ((x1, y0)))
 (.no))
 (.bi (qbE) (fun y0 =>
 .br (qre (true, [EK.i, EK.i, EK.i]) y0 (AV.agg [.int .i64 x0, .int .i64 x1, .int .i64 x2]))
 (.br (okE false [CS.int IntKind.i64] [qcK (true, [EK.i, EK.i, EK.i]) y0 (AV.agg [.int .i64 x0, .int .i64 x1, .int .i64 x2])] 0)
 (.at ((intOf (cellAt [qcK (true, [EK.i, EK.i, EK.i]) y0 (AV.agg [.int .i64 x0, .int .i64 x1, .int .i64 x2])] 0 0), intOf (cellAt [qcK (true, [EK.i, EK.i, EK.i]) y0 (AV.agg [.int .i64 x0, .int .i64 x1, .int .i64 x2])] 0 0) != 0)))
 (.no))
 (.br (qrf (true, [EK.i, EK.i, EK.i]) y0 (AV.agg [.int .i64 x0, .int .i64 x1, .int .i64 x2])) (.at ((0, false))) (.no)))
 (.no)))
 (.br (x0 == 18)
 (.bi (br (x1 == x2) (some (x1 != 5)) (some false)) (fun y0 =>
 .at ((x1, y0)))
 (.no))
 (.bi (qbE) (fun y0 =>
 .br (qre (true, [EK.i, EK.i, EK.i]) y0 (AV.agg [.int .i64 x0, .int .i64 x1, .int .i64 x2]))
 (.br (okE false [CS.int IntKind.i64] [qcK (true, [EK.i, EK.i, EK.i]) y0 (AV.agg [.int .i64 x0, .int .i64 x1, .int .i64 x2])] 0)
 (.at ((intOf (cellAt [qcK (true, [EK.i, EK.i, EK.i]) y0 (AV.agg [.int .i64 x0, .int .i64 x1, .int .i64 x2])] 0 0), intOf (cellAt [qcK (true, [EK.i, EK.i, EK.i]) y0 (AV.agg [.int .i64 x0, .int .i64 x1, .int .i64 x2])] 0 0) != 0)))
 (.no))
 (.br (qrf (true, [EK.i, EK.i, EK.i]) y0 (AV.agg [.int .i64 x0, .int .i64 x1, .int .i64 x2])) (.at ((0, false))) (.no)))
 (.no)))))
 (.br (x0 == 15)
 (.bi (br (x1 == x2) (some (x1 == 5)) (some false)) (fun y0 =>
 .at ((5, y0)))
 (.no))
 (.br (x0 == 17)
 (.br (x0 == 17)
 (.bi (br (x1 == x2) (some (x1 != 5)) (some false)) (fun y0 =>
 .at ((x1, y0)))
 (.no))
 (.bi (qbE) (fun y0 =>
 .br (qre (true, [EK.i, EK.i, EK.i]) y0 (AV.agg [.int .i64 x0, .int .i64 x1, .int .i64 x2]))
 (.br (okE false [CS.int IntKind.i64] [qcK (true, [EK.i, EK.i, EK.i]) y0 (AV.agg [.int .i64 x0, .int .i64 x1, .int .i64 x2])] 0)
 (.at ((intOf (cellAt [qcK (true, [EK.i, EK.i, EK.i]) y0 (AV.agg [.int .i64 x0, .int .i64 x1, .int .i64 x2])] 0 0), intOf (cellAt [qcK (true, [EK.i, EK.i, EK.i]) y0 (AV.agg [.int .i64 x0, .int .i64 x1, .int .i64 x2])] 0 0) != 0)))
 (.no))
 (.br (qrf (true, [EK.i, EK.i, EK.i]) y0 (AV.agg [.int .i64 x0, .int .i64 x1, .int .i64 x2])) (.at ((0, false))) (.no)))
 (.no)))
 (.br (x0 == 18)
 (.bi (br (x1 == x2) (some (x1 != 5)) (some false)) (fun y0 =>
 .at ((x1, y0)))
 (.no))
 (.bi (qbE) (fun y0 =>
 .br (qre (true, [EK.i, EK.i, EK.i]) y0 (AV.agg [.int .i64 x0, .int .i64 x1, .int .i64 x2]))
 (.br (okE false [CS.int IntKind.i64] [qcK (true, [EK.i, EK.i, EK.i]) y0 (AV.agg [.int .i64 x0, .int .i64 x1, .int .i64 x2])] 0)
 (.at ((intOf (cellAt [qcK (true, [EK.i, EK.i, EK.i]) y0 (AV.agg [.int .i64 x0, .int .i64 x1, .int .i64 x2])] 0 0), intOf (cellAt [qcK (true, [EK.i, EK.i, EK.i]) y0 (AV.agg [.int .i64 x0, .int .i64 x1, .int .i64 x2])] 0 0) != 0)))
 (.no))
 (.br (qrf (true, [EK.i, EK.i, EK.i]) y0 (AV.agg [.int .i64 x0, .int .i64 x1, .int .i64 x2])) (.at ((0, false))) (.no)))
 (.no)))))))))
 (.br (x0 == 11)
 (.at ((5, x1 == x2)))
 (.br (x0 == 12)
 (.br (x0 == 12)
 (.bi (br (x1 == x2) (some (x1 != 5)) (some false)) (fun y0 =>
 .at ((5, y0)))
 (.no))
 (.br (x0 == 14)
 (.br (x0 == 14)
 (.bi (br (x1 == x2) (some (x1 == 5)) (some false)) (fun y0 =>
 .at ((5, y0)))
 (.no))
 (.br (x0 == 17)
 (.br (x0 == 17)
 (.bi (br (x1 == x2) (some (x1 != 5)) (some false)) (fun y0 =>
 .at ((x1, y0)))
 (.no))
 (.bi (qbE) (fun y0 =>
 .br (qre (true, [EK.i, EK.i, EK.i]) y0 (AV.agg [.int .i64 x0, .int .i64 x1, .int .i64 x2]))
 (.br (okE false [CS.int IntKind.i64] [qcK (true, [EK.i, EK.i, EK.i]) y0 (AV.agg [.int .i64 x0, .int .i64 x1, .int .i64 x2])] 0)
 (.at ((intOf (cellAt [qcK (true, [EK.i, EK.i, EK.i]) y0 (AV.agg [.int .i64 x0, .int .i64 x1, .int .i64 x2])] 0 0), intOf (cellAt [qcK (true, [EK.i, EK.i, EK.i]) y0 (AV.agg [.int .i64 x0, .int .i64 x1, .int .i64 x2])] 0 0) != 0)))
 (.no))
 (.br (qrf (true, [EK.i, EK.i, EK.i]) y0 (AV.agg [.int .i64 x0, .int .i64 x1, .int .i64 x2])) (.at ((0, false))) (.no)))
 (.no)))
 (.br (x0 == 18)
 (.bi (br (x1 == x2) (some (x1 != 5)) (some false)) (fun y0 =>
 .at ((x1, y0)))
 (.no))
 (.bi (qbE) (fun y0 =>
 .br (qre (true, [EK.i, EK.i, EK.i]) y0 (AV.agg [.int .i64 x0, .int .i64 x1, .int .i64 x2]))
 (.br (okE false [CS.int IntKind.i64] [qcK (true, [EK.i, EK.i, EK.i]) y0 (AV.agg [.int .i64 x0, .int .i64 x1, .int .i64 x2])] 0)
 (.at ((intOf (cellAt [qcK (true, [EK.i, EK.i, EK.i]) y0 (AV.agg [.int .i64 x0, .int .i64 x1, .int .i64 x2])] 0 0), intOf (cellAt [qcK (true, [EK.i, EK.i, EK.i]) y0 (AV.agg [.int .i64 x0, .int .i64 x1, .int .i64 x2])] 0 0) != 0)))
 (.no))
 (.br (qrf (true, [EK.i, EK.i, EK.i]) y0 (AV.agg [.int .i64 x0, .int .i64 x1, .int .i64 x2])) (.at ((0, false))) (.no)))
 (.no)))))
 (.br (x0 == 15)
 (.bi (br (x1 == x2) (some (x1 == 5)) (some false)) (fun y0 =>
 .at ((5, y0)))
 (.no))
 (.br (x0 == 17)
 (.br (x0 == 17)
 (.bi (br (x1 == x2) (some (x1 != 5)) (some false)) (fun y0 =>
 .at ((x1, y0)))
 (.no))
 (.bi (qbE) (fun y0 =>
 .br (qre (true, [EK.i, EK.i, EK.i]) y0 (AV.agg [.int .i64 x0, .int .i64 x1, .int .i64 x2]))
 (.br (okE false [CS.int IntKind.i64] [qcK (true, [EK.i, EK.i, EK.i]) y0 (AV.agg [.int .i64 x0, .int .i64 x1, .int .i64 x2])] 0)
 (.at ((intOf (cellAt [qcK (true, [EK.i, EK.i, EK.i]) y0 (AV.agg [.int .i64 x0, .int .i64 x1, .int .i64 x2])] 0 0), intOf (cellAt [qcK (true, [EK.i, EK.i, EK.i]) y0 (AV.agg [.int .i64 x0, .int .i64 x1, .int .i64 x2])] 0 0) != 0)))
 (.no))
 (.br (qrf (true, [EK.i, EK.i, EK.i]) y0 (AV.agg [.int .i64 x0, .int .i64 x1, .int .i64 x2])) (.at ((0, false))) (.no)))
 (.no)))
 (.br (x0 == 18)
 (.bi (br (x1 == x2) (some (x1 != 5)) (some false)) (fun y0 =>
 .at ((x1, y0)))
 (.no))
 (.bi (qbE) (fun y0 =>
 .br (qre (true, [EK.i, EK.i, EK.i]) y0 (AV.agg [.int .i64 x0, .int .i64 x1, .int .i64 x2]))
 (.br (okE false [CS.int IntKind.i64] [qcK (true, [EK.i, EK.i, EK.i]) y0 (AV.agg [.int .i64 x0, .int .i64 x1, .int .i64 x2])] 0)
 (.at ((intOf (cellAt [qcK (true, [EK.i, EK.i, EK.i]) y0 (AV.agg [.int .i64 x0, .int .i64 x1, .int .i64 x2])] 0 0), intOf (cellAt [qcK (true, [EK.i, EK.i, EK.i]) y0 (AV.agg [.int .i64 x0, .int .i64 x1, .int .i64 x2])] 0 0) != 0)))
 (.no))
 (.br (qrf (true, [EK.i, EK.i, EK.i]) y0 (AV.agg [.int .i64 x0, .int .i64 x1, .int .i64 x2])) (.at ((0, false))) (.no)))
 (.no)))))))
 (.br (x0 == 13)
 (.bi (br (x1 == x2) (some (x1 != 5)) (some false)) (fun y0 =>
 .at ((5, y0)))
 (.no))
 (.br (x0 == 14)
 (.br (x0 == 14)
 (.bi (br (x1 == x2) (some (x1 == 5)) (some false)) (fun y0 =>
 .at ((5, y0)))
 (.no))
 (.br (x0 == 17)
 (.br (x0 == 17)
 (.bi (br (x1 == x2) (some (x1 != 5)) (some false)) (fun y0 =>
 .at ((x1, y0)))
 (.no))
 (.bi (qbE) (fun y0 =>
 .br (qre (true, [EK.i, EK.i, EK.i]) y0 (AV.agg [.int .i64 x0, .int .i64 x1, .int .i64 x2]))
 (.br (okE false [CS.int IntKind.i64] [qcK (true, [EK.i, EK.i, EK.i]) y0 (AV.agg [.int .i64 x0, .int .i64 x1, .int .i64 x2])] 0)
 (.at ((intOf (cellAt [qcK (true, [EK.i, EK.i, EK.i]) y0 (AV.agg [.int .i64 x0, .int .i64 x1, .int .i64 x2])] 0 0), intOf (cellAt [qcK (true, [EK.i, EK.i, EK.i]) y0 (AV.agg [.int .i64 x0, .int .i64 x1, .int .i64 x2])] 0 0) != 0)))
 (.no))
 (.br (qrf (true, [EK.i, EK.i, EK.i]) y0 (AV.agg [.int .i64 x0, .int .i64 x1, .int .i64 x2])) (.at ((0, false))) (.no)))
 (.no)))
 (.br (x0 == 18)
 (.bi (br (x1 == x2) (some (x1 != 5)) (some false)) (fun y0 =>
 .at ((x1, y0)))
 (.no))
 (.bi (qbE) (fun y0 =>
 .br (qre (true, [EK.i, EK.i, EK.i]) y0 (AV.agg [.int .i64 x0, .int .i64 x1, .int .i64 x2]))
 (.br (okE false [CS.int IntKind.i64] [qcK (true, [EK.i, EK.i, EK.i]) y0 (AV.agg [.int .i64 x0, .int .i64 x1, .int .i64 x2])] 0)
 (.at ((intOf (cellAt [qcK (true, [EK.i, EK.i, EK.i]) y0 (AV.agg [.int .i64 x0, .int .i64 x1, .int .i64 x2])] 0 0), intOf (cellAt [qcK (true, [EK.i, EK.i, EK.i]) y0 (AV.agg [.int .i64 x0, .int .i64 x1, .int .i64 x2])] 0 0) != 0)))
 (.no))
 (.br (qrf (true, [EK.i, EK.i, EK.i]) y0 (AV.agg [.int .i64 x0, .int .i64 x1, .int .i64 x2])) (.at ((0, false))) (.no)))
 (.no)))))
 (.br (x0 == 15)
 (.bi (br (x1 == x2) (some (x1 == 5)) (some false)) (fun y0 =>
 .at ((5, y0)))
 (.no))
 (.br (x0 == 17)
 (.br (x0 == 17)
 (.bi (br (x1 == x2) (some (x1 != 5)) (some false)) (fun y0 =>
 .at ((x1, y0)))
 (.no))
 (.bi (qbE) (fun y0 =>
 .br (qre (true, [EK.i, EK.i, EK.i]) y0 (AV.agg [.int .i64 x0, .int .i64 x1, .int .i64 x2]))
 (.br (okE false [CS.int IntKind.i64] [qcK (true, [EK.i, EK.i, EK.i]) y0 (AV.agg [.int .i64 x0, .int .i64 x1, .int .i64 x2])] 0)
 (.at ((intOf (cellAt [qcK (true, [EK.i, EK.i, EK.i]) y0 (AV.agg [.int .i64 x0, .int .i64 x1, .int .i64 x2])] 0 0), intOf (cellAt [qcK (true, [EK.i, EK.i, EK.i]) y0 (AV.agg [.int .i64 x0, .int .i64 x1, .int .i64 x2])] 0 0) != 0)))
 (.no))
 (.br (qrf (true, [EK.i, EK.i, EK.i]) y0 (AV.agg [.int .i64 x0, .int .i64 x1, .int .i64 x2])) (.at ((0, false))) (.no)))
 (.no)))
 (.br (x0 == 18)
 (.bi (br (x1 == x2) (some (x1 != 5)) (some false)) (fun y0 =>
 .at ((x1, y0)))
 (.no))
 (.bi (qbE) (fun y0 =>
 .br (qre (true, [EK.i, EK.i, EK.i]) y0 (AV.agg [.int .i64 x0, .int .i64 x1, .int .i64 x2]))
 (.br (okE false [CS.int IntKind.i64] [qcK (true, [EK.i, EK.i, EK.i]) y0 (AV.agg [.int .i64 x0, .int .i64 x1, .int .i64 x2])] 0)
 (.at ((intOf (cellAt [qcK (true, [EK.i, EK.i, EK.i]) y0 (AV.agg [.int .i64 x0, .int .i64 x1, .int .i64 x2])] 0 0), intOf (cellAt [qcK (true, [EK.i, EK.i, EK.i]) y0 (AV.agg [.int .i64 x0, .int .i64 x1, .int .i64 x2])] 0 0) != 0)))
 (.no))
 (.br (qrf (true, [EK.i, EK.i, EK.i]) y0 (AV.agg [.int .i64 x0, .int .i64 x1, .int .i64 x2])) (.at ((0, false))) (.no)))
 (.no)))))))))
def qkW (x0 x1 x2 : Int) : Option qBg := qav (qjy x0 x1 x2).ev
theorem qyg (x0 x1 x2) : qkW x0 x1 x2 = (qjy x0 x1 x2).ev := qaa _
theorem qUR : FH IP 52 qGH qIi (k3 qkW) := fh F52 (k3 qjy) qZx
def T5 : Tab := (52, FE qGH qIi (k3 qkW)) :: T4
theorem qZy : qai IP T5 := ⟨qah qUR, qZx⟩
abbrev qPb : Type := Int × Bool
def qR4 : PArgs := ⟨[.int .i64, .view 1], []⟩
def qS7 : List PRes := [⟨false, .tup [.int .i64, .bool], []⟩]
def qqR (x0 : Int) (x1 : List AV) : DT qPb :=
 .bi (pj 0 (qr4 (x0, x1, x1, (x1.length : Int), 0))) (fun y0 =>
 .at ((0, false)))
 (.bi (pj 1 (qr4 (x0, x1, x1, (x1.length : Int), 0))) (fun y0 =>
 .br ((y0.2.1.length : Int) == 1)
 (.br (qay [.int .i64] y0.2.1 0)
 (.bi (qkV y0.1 (intOf (cellAt y0.2.1 0 0))) (fun y1 =>
 .br (!y1.2) (.at ((0, false))) (.at ((y1.1, true))))
 (.no))
 (.no))
 (.br ((y0.2.1.length : Int) == 2)
 (.br (qay [.int .i64] y0.2.1 0)
 (.br (qay [.int .i64] y0.2.1 1)
 (.bi (qkW y0.1 (intOf (cellAt y0.2.1 0 0)) (intOf (cellAt y0.2.1 1 0))) (fun y1 =>
 .br (!y1.2) (.at ((0, false))) (.at ((y1.1, true))))
 (.no))
 (.no))
 (.no))
 (.br ((y0.2.1.length : Int) == 3)
 (.br (qay [.int .i64] y0.2.1 1)
 (.br (y0.1 == 19)
 (.br (qay [.int .i64] y0.2.1 0)
 (.br (intOf (cellAt y0.2.1 0 0) == 5)
 (.br (qay [.int .i64] y0.2.1 1)
 (.br (qay [.int .i64] y0.2.1 2)
 (.br (!intOf (cellAt y0.2.1 1 0) == intOf (cellAt y0.2.1 2 0)) (.at ((0, false))) (.at ((intOf (cellAt y0.2.1 1 0), true))))
 (.no))
 (.no))
 (.at ((0, false))))
 (.no))
 (.at ((0, false))))
 (.no))
 (.at ((0, false))))))
 (.no))
def qb4 (x0 : Int) (x1 : List AV) : Option qPb := qav (qqR x0 x1).ev
theorem qEC (x0 x1) : qb4 x0 x1 = (qqR x0 x1).ev := qaa _
theorem q0F : FH IP 22 qR4 qS7 (k2 qb4) := qae (F := F22) (L := [(1002200, qFF)]) (t := (k2 qqR)) qZy (qab (l := [qaf F22 0]) (by kernel_rfl) ⟨qau (by kernel_rfl) q29, trivial⟩) (by kernel_rfl) (fun v => by kernel_rfl) (fun _ => qaa _)
def T6 : Tab := (22, FE qR4 qS7 (k2 qb4)) :: T5
theorem qZA : qai IP T6 := ⟨qah q0F, qZy⟩
abbrev qBa : Type := Bool
def qGB : PArgs := ⟨[.agg [.int .i64, .int .i64]], []⟩
def qIc : List PRes := [⟨false, .bool, []⟩]
def qjs (x0 x1 : Int) : DT qBa :=
 .br (x0 == 1)
 (.at (true))
 (.br (x0 == 2)
 (.bi (br (decide (x1 >= -1000000000000)) (some (decide (x1 <= 1000000000000))) (some false)) (fun y0 =>
 .at (y0))
 (.no))
 (.br (x0 == 3)
 (.bi (br (decide (x1 >= -1000000000)) (some (decide (x1 <= 1000000000))) (some false)) (fun y0 =>
 .at (y0))
 (.no))
 (.br (x0 == 4)
 (.bi (br (decide (x1 >= 0)) (some (decide (x1 <= 73048))) (some false)) (fun y0 =>
 .at (y0))
 (.no))
 (.br (x0 == 5)
 (.bi (br (x1 == 0) (some true) (some (x1 == 1))) (fun y0 =>
 .at (y0))
 (.no))
 (.at (false))))))
def qdS (x0 x1 : Int) : Option qBa := qav (qjs x0 x1).ev
theorem qya (x0 x1) : qdS x0 x1 = (qjs x0 x1).ev := qaa _
theorem qUI : FH IP 23 qGB qIc (k2 qdS) := fh F23 (k2 qjs) qZA
def T7 : Tab := (23, FE qGB qIc (k2 qdS)) :: T6
theorem qT0 : qai IP T7 := ⟨qah qUI, qZA⟩
abbrev qcO : Type := Int × List AV × Int × List AV × Int × Int × Int × Int
def qvK : List PSt := [⟨[(1001001, .junk), (0, .int .i64), (1, .view 2), (4, .ref 0 0 0), (9, .int .i64), (37, .view 2), (38, .int .i64), (39, .int .i64)], [(0, .box [.int .i64, .int .i64] false)], 1, 0⟩]
def qJL (x0 : Int) (x1 : List AV) (x2 : Int) (x3 : List AV) (x4 x5 : Int) (x6 x7 : Int) : X × St := (.ret,
 ⟨[(0, .int .i64 x0), (1, .view 2 x1), (4, .ref 0 0 0), (5, .int .i64 1), (9, .int .i64 x2)], [(0, .box [.int .i64 0, .int .i64 0] false)], 1, 0⟩)
def qJM (x0 : Int) (x1 : List AV) (x2 : Int) (x3 : List AV) (x4 x5 : Int) (x6 x7 : Int) : X × St := (.exit 2,
 ⟨[(0, .int .i64 x0), (1, .view 2 x1), (4, .ref 0 0 0), (5, .junk), (9, .int .i64 x2)], [(0, .box [.int .i64 x6, .int .i64 x7] false)], 1, 0⟩)
def qW6 : List (qcO -> X × St) := [(k8 qJL), (k8 qJM)]
def qib (x0 : Int) (x1 : List AV) (x2 : Int) (x3 : List AV) (x4 x5 : Int) (x6 x7 : Int) : DT (Rd qcO) :=
 .br (decide (x5 < x4))
 (.br (qay [.int .i64, .int .i64] x3 x5)
 (.bi (qdS (intOf (cellAt x3 x5 0)) (intOf (cellAt x3 x5 1))) (fun y0 =>
 .br (!y0) (.at (.done 0)) (.at (.next ((x0, x1, x2, x3, x4, IntKind.i64.wrap (x5 + 1), x6, x7)))))
 (.no))
 (.no))
 (.at (.done 1))
def qfK : qcO -> DT (Rd qcO) := (fun v => qib v.1 v.2.1 v.2.2.1 v.2.2.2.1 v.2.2.2.2.1 v.2.2.2.2.2.1 v.2.2.2.2.2.2.1 v.2.2.2.2.2.2.2)
def qgC (v : qcO) : Option (Nat × qcO) := qav (qaq (fun v => (qfK v).ev) v)
theorem qd5 (v) : qgC v = qaq (fun v => (qfK v).ev) v := qaa _
def qwq : qb3 := LE (τ := qcO) (hD qvK) (qgC) qW6
theorem qWv : Go.Eng.Told IP (qaf F10 1).1 (qaf F10 1).2 (qwq) := lp (inferInstance : Inhabited qcO) (hs := qvK) qfK qT0 qd5
abbrev qA9 : Type := Int
def qGA : PArgs := ⟨[.bool], []⟩
def qIb : List PRes := [⟨false, .int .i64, []⟩]
def qjr (x0 : Bool) : DT qA9 :=
 .br (x0) (.at (1)) (.at (0))
def qe7 (x0 : Bool) : Option qA9 := qav (qjr x0).ev
theorem qx9 (x0) : qe7 x0 = (qjr x0).ev := qaa _
theorem qUH : FH IP 53 qGA qIb qe7 := fh F53 qjr qT0
def T8 : Tab := (53, FE qGA qIb qe7) :: T7
theorem qZD : qai IP T8 := ⟨qah qUH, qT0⟩
abbrev qAR : Type := Int
def qGi : PArgs := ⟨[.int .i64, .view 2], []⟩
def qHT : List PRes := [⟨false, .int .i64, []⟩]
def qfW (x0 : Int) (x1 : List AV) : DT qAR :=
 .br (qay [.int .i64, .int .i64] x1 0)
 (.br (x0 == 16)
 (.at (IntKind.i64.wrap (1 - intOf (cellAt x1 0 1))))
 (.br (x0 == 19)
 (.br (intOf (cellAt x1 0 1) == 1)
 (.br (qay [.int .i64, .int .i64] x1 1) (.at (intOf (cellAt x1 1 1))) (.no))
 (.br (qay [.int .i64, .int .i64] x1 2) (.at (intOf (cellAt x1 2 1))) (.no)))
 (.br (qay [.int .i64, .int .i64] x1 1)
 (.br (x0 == 10)
 (.bi (qe7 (intOf (cellAt x1 0 1) == intOf (cellAt x1 1 1))) (fun y0 =>
 .at (y0))
 (.no))
 (.br (x0 == 11)
 (.bi (qe7 (intOf (cellAt x1 0 1) != intOf (cellAt x1 1 1))) (fun y0 =>
 .at (y0))
 (.no))
 (.br (x0 == 12)
 (.bi (qe7 (decide (intOf (cellAt x1 0 1) < intOf (cellAt x1 1 1)))) (fun y0 =>
 .at (y0))
 (.no))
 (.br (x0 == 13)
 (.bi (qe7 (decide (intOf (cellAt x1 0 1) <= intOf (cellAt x1 1 1)))) (fun y0 =>
 .at (y0))
 (.no))
 (.br (x0 == 14)
 (.at (IntKind.i64.wrap (intOf (cellAt x1 0 1) * intOf (cellAt x1 1 1))))
 (.br (x0 == 15)
 (.at (if intOf (cellAt x1 1 1) > intOf (cellAt x1 0 1) then intOf (cellAt x1 1 1) else intOf (cellAt x1 0 1)))
 (.br (x0 == 17)
 (.at (if intOf (cellAt x1 1 1) < intOf (cellAt x1 0 1) then intOf (cellAt x1 1 1) else intOf (cellAt x1 0 1)))
 (.at (if intOf (cellAt x1 1 1) > intOf (cellAt x1 0 1) then intOf (cellAt x1 1 1) else intOf (cellAt x1 0 1))))))))))
 (.no))))
 (.no)
def qde (x0 : Int) (x1 : List AV) : Option qAR := qav (qfW x0 x1).ev
theorem qhI (x0 x1) : qde x0 x1 = (qfW x0 x1).ev := qaa _
theorem qUo : FH IP 24 qGi qHT (k2 qde) := fh F24 (k2 qfW) qZD
def T9 : Tab := (24, FE qGi qHT (k2 qde)) :: T8
theorem qZE : qai IP T9 := ⟨qah qUo, qZD⟩
abbrev qB0 : Type := Int × Int
def qHu : PArgs := ⟨[.int .i64], []⟩
def qI5 : List PRes := [⟨false, .agg [.int .i64, .int .u64], []⟩]
def qkg (x0 : Int) : DT qB0 :=
 .at ((x0.fdiv (2 ^ 63), IntKind.u64.wrap x0))
def qbW (x0 : Int) : Option qB0 := qav (qkg x0).ev
theorem qyY (x0) : qbW x0 = (qkg x0).ev := qaa _
theorem qVL : FH IP 56 qHu qI5 qbW := fh F56 qkg qZE
def T10 : Tab := (56, FE qHu qI5 qbW) :: T9
theorem qPn : qai IP T10 := ⟨qah qVL, qZE⟩
abbrev qBN : Type := Int × Int × Int
def qHh : PArgs := ⟨[.agg [.int .i64, .int .u64], .agg [.int .i64, .int .u64]], []⟩
def qIS : List PRes := [⟨false, .tup [.agg [.int .i64, .int .u64], .int .i64], []⟩]
def qj4 (x0 x1 : Int) (x2 x3 : Int) : DT qBN :=
 .br (qfs x1 && qfs x3 && decide (0 <= 1))
 (.bi (br (if true = true then !decide (x0 < 0) == decide (x2 < 0) else decide (x0 < 0) == decide (x2 < 0))
 (some
 (if true = true then !decide (IntKind.i64.wrap (IntKind.i64.wrap (x0 - x2) - IntKind.i64.wrap (if x1 < x3 + 0 then 1 else 0)) < 0) == decide (x0 < 0)
 else decide (IntKind.i64.wrap (IntKind.i64.wrap (x0 - x2) - IntKind.i64.wrap (if x1 < x3 + 0 then 1 else 0)) < 0) == decide (x0 < 0)))
 (some false)) (fun y0 =>
 .br (y0)
 (.at ((0, 0, 6)))
 (.at ((IntKind.i64.wrap (IntKind.i64.wrap (x0 - x2) - IntKind.i64.wrap (if x1 < x3 + 0 then 1 else 0)), (x1 - x3 - 0) % 18446744073709551616, 0))))
 (.no))
 (.no)
def qhT (x0 x1 : Int) (x2 x3 : Int) : Option qBN := qav (qj4 x0 x1 x2 x3).ev
theorem qyM (x0 x1 x2 x3) : qhT x0 x1 x2 x3 = (qj4 x0 x1 x2 x3).ev := qaa _
theorem qVy : FH IP 55 qHh qIS (k4 qhT) := fh F55 (k4 qj4) qPn
def T11 : Tab := (55, FE qHh qIS (k4 qhT)) :: T10
theorem qPo : qai IP T11 := ⟨qah qVy, qPn⟩
abbrev qBL : Type := Int × Bool
def qHf : PArgs := ⟨[.agg [.int .i64, .int .u64]], []⟩
def qIQ : List PRes := [⟨false, .tup [.int .i64, .bool], []⟩]
def qj2 (x0 x1 : Int) : DT qBL :=
 .bi (qbW (IntKind.i64.wrap x1)) (fun y0 =>
 .br (if true = true then !(y0.1 == x0 && (y0.2 == x1 && true)) else y0.1 == x0 && (y0.2 == x1 && true)) (.at ((0, false))) (.at ((IntKind.i64.wrap x1, true))))
 (.no)
def qgv (x0 x1 : Int) : Option qBL := qav (qj2 x0 x1).ev
theorem qyK (x0 x1) : qgv x0 x1 = (qj2 x0 x1).ev := qaa _
theorem qVw : FH IP 87 qHf qIQ (k2 qgv) := fh F87 (k2 qj2) qPo
def T12 : Tab := (87, FE qHf qIQ (k2 qgv)) :: T11
theorem qPp : qai IP T12 := ⟨qah qVw, qPo⟩
abbrev qAS : Type := Int × Int
def qGj : PArgs := ⟨[.agg [.int .i64, .int .u64], .int .i64], []⟩
def qHU : List PRes := [⟨false, .tup [.int .i64, .int .i64], []⟩]
def qjd (x0 x1 x2 : Int) : DT qAS :=
 .bi (qgv x0 x1) (fun y0 =>
 .bi (br (x2 != 0) (some true) (some !y0.2)) (fun y1 =>
 .br (y1) (.at ((0, 6))) (.at ((y0.1, 0))))
 (.no))
 (.no)
def qeF (x0 x1 x2 : Int) : Option qAS := qav (qjd x0 x1 x2).ev
theorem qxQ (x0 x1 x2) : qeF x0 x1 x2 = (qjd x0 x1 x2).ev := qaa _
theorem qUp : FH IP 54 qGj qHU (k3 qeF) := fh F54 (k3 qjd) qPp
def T13 : Tab := (54, FE qGj qHU (k3 qeF)) :: T12
theorem qPq : qai IP T13 := ⟨qah qUp, qPp⟩
abbrev qBJ : Type := Int × Int × Int
def qHd : PArgs := ⟨[.agg [.int .i64, .int .u64], .agg [.int .i64, .int .u64]], []⟩
def qIO : List PRes := [⟨false, .tup [.agg [.int .i64, .int .u64], .int .i64], []⟩]
def qj0 (x0 x1 : Int) (x2 x3 : Int) : DT qBJ :=
 .br (qfs x1 && qfs x3 && decide (0 <= 1))
 (.bi (br (if false = true then !decide (x0 < 0) == decide (x2 < 0) else decide (x0 < 0) == decide (x2 < 0))
 (some
 (if true = true then !decide (IntKind.i64.wrap (IntKind.i64.wrap (x0 + x2) + IntKind.i64.wrap ((x1 + x3 + 0) / 18446744073709551616)) < 0) == decide (x0 < 0)
 else decide (IntKind.i64.wrap (IntKind.i64.wrap (x0 + x2) + IntKind.i64.wrap ((x1 + x3 + 0) / 18446744073709551616)) < 0) == decide (x0 < 0)))
 (some false)) (fun y0 =>
 .br (y0)
 (.at ((0, 0, 6)))
 (.at ((IntKind.i64.wrap (IntKind.i64.wrap (x0 + x2) + IntKind.i64.wrap ((x1 + x3 + 0) / 18446744073709551616)), (x1 + x3 + 0) % 18446744073709551616, 0))))
 (.no))
 (.no)
def qhS (x0 x1 : Int) (x2 x3 : Int) : Option qBJ := qav (qj0 x0 x1 x2 x3).ev
theorem qyI (x0 x1 x2 x3) : qhS x0 x1 x2 x3 = (qj0 x0 x1 x2 x3).ev := qaa _
theorem qVu : FH IP 57 qHd qIO (k4 qhS) := fh F57 (k4 qj0) qPq
def T14 : Tab := (57, FE qHd qIO (k4 qhS)) :: T13
theorem qPr : qai IP T14 := ⟨qah qVu, qPq⟩
abbrev qBO : Type := Int
def qHi : PArgs := ⟨[.int .i64], []⟩
def qIT : List PRes := [⟨false, .int .u64, []⟩]
def qj5 (x0 : Int) : DT qBO :=
 .br (decide (x0 < 0)) (.at (IntKind.u64.wrap (0 - IntKind.u64.wrap x0))) (.at (IntKind.u64.wrap x0))
def qhU (x0 : Int) : Option qBO := qav (qj5 x0).ev
theorem qyN (x0) : qhU x0 = (qj5 x0).ev := qaa _
theorem qVz : FH IP 116 qHi qIT qhU := fh q5m qj5 qPr
def T15 : Tab := (116, FE qHi qIT qhU) :: T14
theorem qPs : qai IP T15 := ⟨qah qVz, qPr⟩
abbrev qAZ : Type := Int × Int
def qGq : PArgs := ⟨[.agg [.int .i64, .int .u64]], []⟩
def qH1 : List PRes := [⟨false, .agg [.int .i64, .int .u64], []⟩]
def qjk (x0 x1 : Int) : DT qAZ :=
 .br (qfs (IntKind.u64.wrap (-1 - x1)) && qfs 1 && decide (0 <= 1))
 (.at ((IntKind.i64.wrap (IntKind.u64.wrap (IntKind.u64.wrap (IntKind.i64.wrap (-1 - x0)) + (IntKind.u64.wrap (-1 - x1) + 1 + 0) / 18446744073709551616)), (IntKind.u64.wrap (-1 - x1) + 1 + 0) % 18446744073709551616)))
 (.no)
def qgm (x0 x1 : Int) : Option qAZ := qav (qjk x0 x1).ev
theorem qxY (x0 x1) : qgm x0 x1 = (qjk x0 x1).ev := qaa _
theorem qUx : FH IP 117 qGq qH1 (k2 qgm) := fh q5n (k2 qjk) qPs
def T16 : Tab := (117, FE qGq qH1 (k2 qgm)) :: T15
theorem qPt : qai IP T16 := ⟨qah qUx, qPs⟩
abbrev qBM : Type := Int × Int
def qHg : PArgs := ⟨[.int .i64, .int .i64], []⟩
def qIR : List PRes := [⟨false, .agg [.int .i64, .int .u64], []⟩]
def qj3 (x0 x1 : Int) : DT qBM :=
 .bi (qhU x0) (fun y0 =>
 .bi (qhU x1) (fun y1 =>
 .br (qfs y0 && qfs y1)
 (.br (if true = true then !decide (x0 < 0) == decide (x1 < 0) else decide (x0 < 0) == decide (x1 < 0))
 (.bi (qgm (IntKind.i64.wrap (y0 * y1 / 18446744073709551616)) (y0 * y1 % 18446744073709551616)) (fun y2 =>
 .at ((y2.1, y2.2)))
 (.no))
 (.at ((IntKind.i64.wrap (y0 * y1 / 18446744073709551616), y0 * y1 % 18446744073709551616))))
 (.no))
 (.no))
 (.no)
def qlc (x0 x1 : Int) : Option qBM := qav (qj3 x0 x1).ev
theorem qyL (x0 x1) : qlc x0 x1 = (qj3 x0 x1).ev := qaa _
theorem qVx : FH IP 90 qHg qIR (k2 qlc) := fh F90 (k2 qj3) qPt
def T17 : Tab := (90, FE qHg qIR (k2 qlc)) :: T16
theorem qPu : qai IP T17 := ⟨qah qVx, qPt⟩
abbrev qON : Type := Bool
def qRD : PArgs := ⟨[.int .i64], []⟩
def qSG : List PRes := [⟨false, .bool, []⟩]
def qqq (x0 : Int) : DT qON :=
 .bi (br (decide (x0 >= 1)) (some (decide (x0 <= 6))) (some false)) (fun y0 =>
 .at (y0))
 (.no)
def qnT (x0 : Int) : Option qON := qav (qqq x0).ev
theorem qEb (x0) : qnT x0 = (qqq x0).ev := qaa _
theorem q0f : FH IP 118 qRD qSG qnT := fh q5o qqq qPu
def T18 : Tab := (118, FE qRD qSG qnT) :: T17
theorem qPv : qai IP T18 := ⟨qah q0f, qPu⟩
abbrev qPc : Type := Int × Int
def qR5 : PArgs := ⟨[.agg [.int .i64, .int .u64]], []⟩
def qS8 : List PRes := [⟨false, .agg [.int .u64, .int .u64], []⟩]
def qqS (x0 x1 : Int) : DT qPc :=
 .br (decide (x0 < 0))
 (.bi (qgm x0 x1) (fun y0 =>
 .at ((IntKind.u64.wrap y0.1, y0.2)))
 (.no))
 (.at ((IntKind.u64.wrap x0, x1)))
def qrJ (x0 x1 : Int) : Option qPc := qav (qqS x0 x1).ev
theorem qED (x0 x1) : qrJ x0 x1 = (qqS x0 x1).ev := qaa _
theorem q0G : FH IP 133 qR5 qS8 (k2 qrJ) := fh q5y (k2 qqS) qPv
def T19 : Tab := (133, FE qR5 qS8 (k2 qrJ)) :: T18
theorem qvk : qai IP T19 := ⟨qah q0G, qPv⟩
abbrev qel : Type := Int × Int × Int × Int × Int × Int × Int × Int × Int
def qE6 : List PSt := [⟨[(1014500, .junk), (2, .int .u64), (8, .int .u64), (9, .int .u64), (10, .int .u64), (11, .int .u64), (13, .int .u64), (14, .int .u64), (15, .int .u64), (16, .int .u64)], [], 0, 0⟩]
def qNQ (x0 x1 : Int) (x2 x3 : Int) (x4 x5 : Int) (x6 x7 x8 : Int) : X × St := (.exit 0,
 ⟨[(2, .int .u64 x0), (8, .int .u64 x1), (9, .int .u64 x2), (10, .int .u64 x3), (11, .int .u64 x4), (13, .int .u64 x5),
 (14, .int .u64 x6), (15, .int .u64 (IntKind.u64.wrap (x7 - 1)))], [], 0, 0⟩)
def qNR (x0 x1 : Int) (x2 x3 : Int) (x4 x5 : Int) (x6 x7 x8 : Int) : X × St := (.exit 0,
 ⟨[(2, .int .u64 x0), (8, .int .u64 x1), (9, .int .u64 x2), (10, .int .u64 x3), (11, .int .u64 x4), (13, .int .u64 x5),
 (14, .int .u64 x6), (15, .int .u64 x7)], [], 0, 0⟩)
def q3z : List (qel -> X × St) := [(k9 qNQ), (k9 qNR)]
def qsy (x0 x1 : Int) (x2 x3 : Int) (x4 x5 : Int) (x6 x7 x8 : Int) : DT (Rd qel) :=
 .bi (br (decide (x7 >= 4294967296)) (some true) (some (decide (IntKind.u64.wrap (x7 * x3) > IntKind.u64.wrap (IntKind.u64.wrap (4294967296 * x8) + x5))))) (fun y0 =>
 .br (y0)
 (.br (decide (IntKind.u64.wrap (x8 + x2) >= 4294967296)) (.at (.done 0)) (.at (.next ((x0, x1, x2, x3, x4, x5, x6, IntKind.u64.wrap (x7 - 1), IntKind.u64.wrap (x8 + x2))))))
 (.at (.done 1)))
 (.no)
def qpN : qel -> DT (Rd qel) := (fun v => qsy v.1 v.2.1 v.2.2.1 v.2.2.2.1 v.2.2.2.2.1 v.2.2.2.2.2.1 v.2.2.2.2.2.2.1 v.2.2.2.2.2.2.2.1 v.2.2.2.2.2.2.2.2)
def qrX (v : qel) : Option (Nat × qel) := qav (qaq (fun v => (qpN v).ev) v)
theorem qrY (v) : qrX v = qaq (fun v => (qpN v).ev) v := qaa _
def qFy : qb3 := LE (τ := qel) (hD qE6) (qrX) q3z
theorem q2Y : Go.Eng.Told IP (qaf qMc 0).1 (qaf qMc 0).2 (qFy) := lp (inferInstance : Inhabited qel) (hs := qE6) qpN qvk qrY
abbrev qem : Type := Int × Int × Int × Int × Int × Int × Int × Int × Int
def qE7 : List PSt := [⟨[(1014501, .junk), (2, .int .u64), (8, .int .u64), (9, .int .u64), (10, .int .u64), (14, .int .u64), (15, .int .u64), (16, .int .u64), (17, .int .u64), (18, .int .u64)], [], 0, 0⟩]
def qNS (x0 x1 : Int) (x2 x3 : Int) (x4 x5 : Int) (x6 x7 x8 : Int) : X × St := (.exit 2,
 ⟨[(2, .int .u64 x0), (8, .int .u64 x1), (14, .int .u64 x4), (15, .int .u64 x5), (17, .int .u64 x7),
 (18, .int .u64 (IntKind.u64.wrap (x8 - 1)))], [], 0, 0⟩)
def qNT (x0 x1 : Int) (x2 x3 : Int) (x4 x5 : Int) (x6 x7 x8 : Int) : X × St := (.exit 2,
 ⟨[(2, .int .u64 x0), (8, .int .u64 x1), (14, .int .u64 x4), (15, .int .u64 x5), (17, .int .u64 x7), (18, .int .u64 x8)], [], 0, 0⟩)
def q3A : List (qem -> X × St) := [(k9 qNS), (k9 qNT)]
def qsz (x0 x1 : Int) (x2 x3 : Int) (x4 x5 : Int) (x6 x7 x8 : Int) : DT (Rd qem) :=
 .bi (br (decide (x8 >= 4294967296)) (some true) (some (decide (IntKind.u64.wrap (x8 * x3) > IntKind.u64.wrap (IntKind.u64.wrap (4294967296 * x6) + x4))))) (fun y0 =>
 .br (y0)
 (.br (decide (IntKind.u64.wrap (x6 + x2) >= 4294967296)) (.at (.done 0)) (.at (.next ((x0, x1, x2, x3, x4, x5, IntKind.u64.wrap (x6 + x2), x7, IntKind.u64.wrap (x8 - 1))))))
 (.at (.done 1)))
 (.no)
def qpO : qem -> DT (Rd qem) := (fun v => qsz v.1 v.2.1 v.2.2.1 v.2.2.2.1 v.2.2.2.2.1 v.2.2.2.2.2.1 v.2.2.2.2.2.2.1 v.2.2.2.2.2.2.2.1 v.2.2.2.2.2.2.2.2)
def qlE (v : qem) : Option (Nat × qem) := qav (qaq (fun v => (qpO v).ev) v)
theorem qrZ (v) : qlE v = qaq (fun v => (qpO v).ev) v := qaa _
def qFz : qb3 := LE (τ := qem) (hD qE7) (qlE) q3A
theorem q2Z : Go.Eng.Told IP (qaf qMc 1).1 (qaf qMc 1).2 (qFz) := lp (inferInstance : Inhabited qem) (hs := qE7) qpO qvk qrZ
end
end Go.Proofs.H13

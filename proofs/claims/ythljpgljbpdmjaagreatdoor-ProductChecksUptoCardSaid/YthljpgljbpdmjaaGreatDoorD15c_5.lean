/- Functions over plain data. Printed by a program of mine. -/
import Derived.Test.YthljpgljbpdmjaaGreatDoorD15c_4
import Derived.KernelRfl
set_option linter.unusedVariables false
set_option linter.unusedSimpArgs false
set_option linter.unnecessarySimpa false
namespace Go.Proofs.H15c
open Go Go.Eng
set_option maxRecDepth 100000
noncomputable section
abbrev qd2 : Type := List AV × Int × Int
def qBp : List PSt := [⟨[(1001202, .junk), (62, .view 6), (63, .int .i64), (64, .int .i64)], [], 0, 0⟩]
def qG4 (x0 : List AV) (x1 x2 : Int) : X × St := (X.ret,
 ⟨[(6,
 AV.int IntKind.i64
 (gv
 (qkz (strOf (cellAt x0 x2 0)) (intOf (cellAt x0 x2 1)) (intOf (cellAt x0 x2 2)) (intOf (cellAt x0 x2 3)) (strOf (cellAt x0 x2 4))
 (qal (cellAt x0 x2 5)))))], [], 0, 0⟩)
def qG5 (x0 : List AV) (x1 x2 : Int) : X × St := (X.exit 4, ⟨[(6, AV.junk)], [], 0, 0⟩)
def qRj : List (qd2 → X × St) := [(k3 qG4), (k3 qG5)]
def ql8 (x0 : List AV) (x1 x2 : Int) : DT (Rd qd2) :=
 .br (decide (x2 < x1))
 (.br (qaS [CS.str, CS.int IntKind.i64, CS.int IntKind.i64, CS.int IntKind.i64, CS.str, CS.slice 4] x0 x2)
 (.bi (qkz (strOf (cellAt x0 x2 0)) (intOf (cellAt x0 x2 1)) (intOf (cellAt x0 x2 2)) (intOf (cellAt x0 x2 3)) (strOf (cellAt x0 x2 4)) (qal (cellAt x0 x2 5))) (fun y0 =>
 .br (y0 != 0) (.at (.done 0)) (.at (.next ((x0, x1, IntKind.i64.wrap (x2 + 1))))))
 (.no))
 (.no))
 (.at (.done 1))
def qib : qd2 → DT (Rd qd2) := (fun v => ql8 v.1 v.2.1 v.2.2)
def qro (v : qd2) : Option (Nat × qd2) := qaF (qao (fun v => (qib v).ev) v)
theorem qrp (v : qd2) : qro v = qao (fun v => (qib v).ev) v := qaa _
def qB7 : qb3 := LE (τ := qd2) (hD qBp) (qro) qRj
theorem qQJ : Go.Eng.Told IP (qae F12 2).1 (qae F12 2).2 (qB7) := qaw (inferInstance : Inhabited qd2) (hs := qBp) (st := qib) (L := []) qzA (qad (l := []) (by kernel_rfl) trivial) (qrp) (fun v => by kernel_rfl) (fun v => by kernel_rfl)
abbrev qH9 : Type := Int
def qKk : PArgs := ⟨[.agg [.str, .str, .str, .int .i64, .int .i64, .int .i64, .int .i64, .view 2, .bool, .int .i64, .int .i64, .bool, .view 2, .bool, .int .i64, .int .i64, .bool, .view 10, .view 6], .view 2, .view 3], []⟩
def qK9 : List PRes := [⟨false, .int .i64, []⟩]
def qp2 (x0 x1 x2 : List UInt8) (x3 x4 : Int) (x5 x6 : Int) (x7 : List AV) (x8 : Bool) (x9 x10 : Int) (x11 : Bool) (x12 : List AV) (x13 : Bool) (x14 x15 : Int) (x16 : Bool) (x17 x18 : List AV) (x19 x20 : List AV) : DT qH9 :=
 .bi (qq2 x0 x1 x2 x3 x4 x5 x6 x7 x8 x9 x10 x11 x12 x13 x14 x15 x16 x17 x18 x19 x20) (fun y0 =>
 .br (y0 != 0)
 (.at (y0))
 (.bi (pj 0 (qnZ (x7, x8, x9, x10, x11, x12, x13, x14, x15, x16, 0, x0, x1, x2, x3, x4, x5, x6, x7, x8, x9, x10, x11, x12, x13, x14, x15, x16, x17, x18))) (fun y1 =>
 .at (gv (qfQ y1.1 y1.2.1 y1.2.2.1 y1.2.2.2.1 y1.2.2.2.2.1)))
 (.bi (pj 1 (qnZ (x7, x8, x9, x10, x11, x12, x13, x14, x15, x16, 0, x0, x1, x2, x3, x4, x5, x6, x7, x8, x9, x10, x11, x12, x13, x14, x15, x16, x17, x18))) (fun y1 =>
 .at (gv
 (qfQ y1.2.2.2.2.2.1 y1.2.2.2.2.2.2.1 y1.2.2.2.2.2.2.2.1 y1.2.2.2.2.2.2.2.2.1
 y1.2.2.2.2.2.2.2.2.2.1)))
 (.bi (pj 2 (qnZ (x7, x8, x9, x10, x11, x12, x13, x14, x15, x16, 0, x0, x1, x2, x3, x4, x5, x6, x7, x8, x9, x10, x11, x12, x13, x14, x15, x16, x17, x18))) (fun y1 =>
 .bi (br (decide ((y1.2.2.2.2.2.2.2.2.2.2.2.2.2.2.2.2.2.2.2.2.2.2.2.2.2.2.2.2.1.length : Int) > 4)) (some true)
 (some (decide ((y1.2.2.2.2.2.2.2.2.2.2.2.2.2.2.2.2.2.2.2.2.2.2.2.2.2.2.2.2.2.length : Int) > 4)))) (fun y2 =>
 .br (y2)
 (.at (5))
 (.bi (pj 0
 (qrm
 (y1.2.2.2.2.2.2.2.2.2.2.2.2.2.2.2.2.2.2.2.2.2.2.2.2.2.2.2.2.1,
 (y1.2.2.2.2.2.2.2.2.2.2.2.2.2.2.2.2.2.2.2.2.2.2.2.2.2.2.2.2.1.length : Int), 0,
 y1.2.2.2.2.2.2.2.2.2.2.2.1, y1.2.2.2.2.2.2.2.2.2.2.2.2.1, y1.2.2.2.2.2.2.2.2.2.2.2.2.2.1,
 y1.2.2.2.2.2.2.2.2.2.2.2.2.2.2.1, y1.2.2.2.2.2.2.2.2.2.2.2.2.2.2.2.1,
 y1.2.2.2.2.2.2.2.2.2.2.2.2.2.2.2.2.1, y1.2.2.2.2.2.2.2.2.2.2.2.2.2.2.2.2.2.1,
 y1.2.2.2.2.2.2.2.2.2.2.2.2.2.2.2.2.2.2.1, y1.2.2.2.2.2.2.2.2.2.2.2.2.2.2.2.2.2.2.2.1,
 y1.2.2.2.2.2.2.2.2.2.2.2.2.2.2.2.2.2.2.2.2.1,
 y1.2.2.2.2.2.2.2.2.2.2.2.2.2.2.2.2.2.2.2.2.2.1,
 y1.2.2.2.2.2.2.2.2.2.2.2.2.2.2.2.2.2.2.2.2.2.2.1,
 y1.2.2.2.2.2.2.2.2.2.2.2.2.2.2.2.2.2.2.2.2.2.2.2.1,
 y1.2.2.2.2.2.2.2.2.2.2.2.2.2.2.2.2.2.2.2.2.2.2.2.2.1,
 y1.2.2.2.2.2.2.2.2.2.2.2.2.2.2.2.2.2.2.2.2.2.2.2.2.2.1,
 y1.2.2.2.2.2.2.2.2.2.2.2.2.2.2.2.2.2.2.2.2.2.2.2.2.2.2.1,
 y1.2.2.2.2.2.2.2.2.2.2.2.2.2.2.2.2.2.2.2.2.2.2.2.2.2.2.2.1,
 y1.2.2.2.2.2.2.2.2.2.2.2.2.2.2.2.2.2.2.2.2.2.2.2.2.2.2.2.2.1,
 y1.2.2.2.2.2.2.2.2.2.2.2.2.2.2.2.2.2.2.2.2.2.2.2.2.2.2.2.2.2))) (fun y3 =>
 .at (gv
 (qgd (strOf (cellAt y3.1 y3.2.2.1 0)) (intOf (cellAt y3.1 y3.2.2.1 1)) (intOf (cellAt y3.1 y3.2.2.1 2)) (intOf (cellAt y3.1 y3.2.2.1 3))
 (strOf (cellAt y3.1 y3.2.2.1 4)) (qal (cellAt y3.1 y3.2.2.1 5)) (intOf (cellAt y3.1 y3.2.2.1 6)) (intOf (cellAt y3.1 y3.2.2.1 7))
 (strOf (cellAt y3.1 y3.2.2.1 8)) (qal (cellAt y3.1 y3.2.2.1 9)))))
 (.bi (pj 1
 (qrm
 (y1.2.2.2.2.2.2.2.2.2.2.2.2.2.2.2.2.2.2.2.2.2.2.2.2.2.2.2.2.1,
 (y1.2.2.2.2.2.2.2.2.2.2.2.2.2.2.2.2.2.2.2.2.2.2.2.2.2.2.2.2.1.length : Int), 0,
 y1.2.2.2.2.2.2.2.2.2.2.2.1, y1.2.2.2.2.2.2.2.2.2.2.2.2.1, y1.2.2.2.2.2.2.2.2.2.2.2.2.2.1,
 y1.2.2.2.2.2.2.2.2.2.2.2.2.2.2.1, y1.2.2.2.2.2.2.2.2.2.2.2.2.2.2.2.1,
 y1.2.2.2.2.2.2.2.2.2.2.2.2.2.2.2.2.1, y1.2.2.2.2.2.2.2.2.2.2.2.2.2.2.2.2.2.1,
 y1.2.2.2.2.2.2.2.2.2.2.2.2.2.2.2.2.2.2.1, y1.2.2.2.2.2.2.2.2.2.2.2.2.2.2.2.2.2.2.2.1,
 y1.2.2.2.2.2.2.2.2.2.2.2.2.2.2.2.2.2.2.2.2.1,
 y1.2.2.2.2.2.2.2.2.2.2.2.2.2.2.2.2.2.2.2.2.2.1,
 y1.2.2.2.2.2.2.2.2.2.2.2.2.2.2.2.2.2.2.2.2.2.2.1,
 y1.2.2.2.2.2.2.2.2.2.2.2.2.2.2.2.2.2.2.2.2.2.2.2.1,
 y1.2.2.2.2.2.2.2.2.2.2.2.2.2.2.2.2.2.2.2.2.2.2.2.2.1,
 y1.2.2.2.2.2.2.2.2.2.2.2.2.2.2.2.2.2.2.2.2.2.2.2.2.2.1,
 y1.2.2.2.2.2.2.2.2.2.2.2.2.2.2.2.2.2.2.2.2.2.2.2.2.2.2.1,
 y1.2.2.2.2.2.2.2.2.2.2.2.2.2.2.2.2.2.2.2.2.2.2.2.2.2.2.2.1,
 y1.2.2.2.2.2.2.2.2.2.2.2.2.2.2.2.2.2.2.2.2.2.2.2.2.2.2.2.2.1,
 y1.2.2.2.2.2.2.2.2.2.2.2.2.2.2.2.2.2.2.2.2.2.2.2.2.2.2.2.2.2))) (fun y3 =>
 .bi (pj 0
 (qro
 (y3.2.2.2.2.2.2.2.2.2.2.2.2.2.2.2.2.2.2.2.2.2,
 (y3.2.2.2.2.2.2.2.2.2.2.2.2.2.2.2.2.2.2.2.2.2.length : Int), 0))) (fun y4 =>
 .at (gv
 (qkz (strOf (cellAt y4.1 y4.2.2 0)) (intOf (cellAt y4.1 y4.2.2 1)) (intOf (cellAt y4.1 y4.2.2 2)) (intOf (cellAt y4.1 y4.2.2 3))
 (strOf (cellAt y4.1 y4.2.2 4)) (qal (cellAt y4.1 y4.2.2 5)))))
 (.bi (pj 1
 (qro
 (y3.2.2.2.2.2.2.2.2.2.2.2.2.2.2.2.2.2.2.2.2.2,
 (y3.2.2.2.2.2.2.2.2.2.2.2.2.2.2.2.2.2.2.2.2.2.length : Int), 0))) (fun y4 =>
 .at (0))
 (.no)))
 (.no))))
 (.no))
 (.no)))))
 (.no)
def qgU (x0 x1 x2 : List UInt8) (x3 x4 : Int) (x5 x6 : Int) (x7 : List AV) (x8 : Bool) (x9 x10 : Int) (x11 : Bool) (x12 : List AV) (x13 : Bool) (x14 x15 : Int) (x16 : Bool) (x17 x18 : List AV) (x19 x20 : List AV) : Option qH9 := qaF (qp2 x0 x1 x2 x3 x4 x5 x6 x7 x8 x9 x10 x11 x12 x13 x14 x15 x16 x17 x18 x19 x20).ev
theorem qAI (x0 x1 x2 : List UInt8) (x3 x4 : Int) (x5 x6 : Int) (x7 : List AV) (x8 : Bool) (x9 x10 : Int) (x11 : Bool) (x12 : List AV) (x13 : Bool) (x14 x15 : Int) (x16 : Bool) (x17 x18 : List AV) (x19 x20 : List AV) : qgU x0 x1 x2 x3 x4 x5 x6 x7 x8 x9 x10 x11 x12 x13 x14 x15 x16 x17 x18 x19 x20 = (qp2 x0 x1 x2 x3 x4 x5 x6 x7 x8 x9 x10 x11 x12 x13 x14 x15 x16 x17 x18 x19 x20).ev := qaa _
theorem qPf : FH IP 12 qKk qK9 (k21 qgU) := qah (F := F12) (L := [(1001200, qB5), (1001201, qB6), (1001202, qB7)]) (t := (k21 qp2)) qzA (qad (l := [qae F12 0, qae F12 1, qae F12 2]) (by kernel_rfl) ⟨qax (by kernel_rfl) qQH, qax (by kernel_rfl) qQI, qax (by kernel_rfl) qQJ, trivial⟩) (by kernel_rfl) (fun v => by kernel_rfl) (fun _ => qaa _)
def T70 : Tab := (12, FE qKk qK9 (k21 qgU)) :: T69
theorem qI9 : qan IP T70 := ⟨qam qPf, qzA⟩
abbrev qy4 : Type := Int × Int × List UInt8 × List AV
def qsh : PArgs := ⟨[.agg [.int .i64, .int .i64, .str, .view 4]], []⟩
def qsm : List PRes := [⟨false, .agg [.int .i64, .int .i64, .str, .view 4], []⟩]
abbrev qct : Type := Int → Int → (List UInt8) → (List AV) → Option qy4
def qsZ (G_u49q : qct) : Prop := FH IP 40 qsh qsm (k4 G_u49q)
def qLK (G_u49q : qct) : Tab := (40, FE qsh qsm (k4 G_u49q)) :: T70
theorem qnd (G_u49q : qct) (hG : qsZ G_u49q) : qan IP (qLK G_u49q) := ⟨qam (hG), qI9⟩
abbrev qdt : Type := (Int × Int × Int × Int × List UInt8 × Int × Int × List UInt8) ⊕ (Int × Int × Int × Int × List UInt8 × Int × Int × List UInt8 × List AV)
def qBl : List PSt := [⟨[(1004000, .junk), (1, .ref 0 0 0), (2, .ref 1 0 0), (10, .int .i64), (11, .int .i64)], [(0, .box [.int .i64, .int .i64, .str, .nils ⟨4, .any⟩] false), (1, .box [.int .i64, .int .i64, .str, .nils 4] false)], 2, 0⟩, ⟨[(1004000, .junk), (1, .ref 0 0 0), (2, .ref 1 0 0), (10, .int .i64), (11, .int .i64)], [(0, .box [.int .i64, .int .i64, .str, .own 2 0] false), (1, .box [.int .i64, .int .i64, .str, .nils 4] false), (2, .arr 4 false)], 3, 0⟩]
def qGT (x0 x1 : Int) (x2 x3 : Int) (x4 : List UInt8) (x5 x6 : Int) (x7 : List UInt8) : X × St := (X.exit 0,
 ⟨[(1, AV.ref 0 0 0), (2, AV.ref 1 0 0)], [(0, Blk.box [AV.int IntKind.i64 x2, AV.int IntKind.i64 x3, AV.str x4, AV.nils ⟨4, NKd.any⟩] false),
 (1, Blk.box [AV.int IntKind.i64 x5, AV.int IntKind.i64 x6, AV.str x7, AV.nils ⟨4, NKd.nil⟩] false)], 2, 0⟩)
def qGU (x0 x1 : Int) (x2 x3 : Int) (x4 : List UInt8) (x5 x6 : Int) (x7 : List UInt8) (x8 : List AV) : X × St := (X.exit 0,
 ⟨[(1, AV.ref 0 0 0), (2, AV.ref 1 0 0)], [(0, Blk.box [AV.int IntKind.i64 x2, AV.int IntKind.i64 x3, AV.str x4, AV.own 2 0 none] false),
 (1, Blk.box [AV.int IntKind.i64 x5, AV.int IntKind.i64 x6, AV.str x7, AV.nils ⟨4, NKd.nil⟩] false), (2, Blk.arr 4 x8 false)], 3, 0⟩)
def qRf : List (qdt → X × St) := [fun w => (k8 qGT) ((sl w)), fun w => (k9 qGU) ((sr w))]
def qEx (G_u49q : qct) (x0 x1 : Int) (x2 x3 : Int) (x4 : List UInt8) (x5 x6 : Int) (x7 : List UInt8) : DT (Rd qdt) :=
 .br (decide (x1 < x0)) (.no) (.at (.done 0))
def ql5 (G_u49q : qct) (x0 x1 : Int) (x2 x3 : Int) (x4 : List UInt8) (x5 x6 : Int) (x7 : List UInt8) (x8 : List AV) : DT (Rd qdt) :=
 .br (decide (x1 < x0))
 (.br (inB x8.length x1)
 (.br (okP [CS.int IntKind.i64, CS.int IntKind.i64, CS.str, CS.slice 4] x8 x1.toNat 0)
 (.bi (G_u49q (intOf (qht x8 x1.toNat 0)) (intOf (qht x8 x1.toNat 1)) (strOf (qht x8 x1.toNat 2)) (qal (qht x8 x1.toNat 3))) (fun y0 =>
 .br (inB x8.length x1)
 (.br (okS x8 x1.toNat 0 4)
 (.at (.next ((.inr (x0, IntKind.i64.wrap (x1 + 1), x2, x3, x4, x5, x6, x7, qOf x8 x1.toNat 0 [AV.int IntKind.i64 y0.1, AV.int IntKind.i64 y0.2.1, AV.str y0.2.2.1, AV.view 4 y0.2.2.2])))))
 (.no))
 (.no))
 (.no))
 (.no))
 (.no))
 (.at (.done 1))
def qgz (G_u49q : qct) : qdt → DT (Rd qdt) := (Sum.elim (fun v => qEx G_u49q v.1 v.2.1 v.2.2.1 v.2.2.2.1 v.2.2.2.2.1 v.2.2.2.2.2.1 v.2.2.2.2.2.2.1 v.2.2.2.2.2.2.2) (fun v => ql5 G_u49q v.1 v.2.1 v.2.2.1 v.2.2.2.1 v.2.2.2.2.1 v.2.2.2.2.2.1 v.2.2.2.2.2.2.1 v.2.2.2.2.2.2.2.1 v.2.2.2.2.2.2.2.2))
def qiq (G_u49q : qct) (v : qdt) : Option (Nat × qdt) := qaF (qao (fun v => (qgz G_u49q v).ev) v)
theorem qk4 (G_u49q : qct) (v : qdt) : qiq G_u49q v = qao (fun v => (qgz G_u49q v).ev) v := qaa _
def qB3 (G_u49q : qct) : qb3 := LE (τ := qdt) (hD qBl) (qiq G_u49q) qRf
theorem qQF (G_u49q : qct) (hG : qsZ G_u49q) : Go.Eng.Told IP (qae F40 0).1 (qae F40 0).2 (qB3 G_u49q) := qaw (inferInstance : Inhabited qdt) (hs := qBl) (st := qgz G_u49q) (L := []) (qnd G_u49q hG) (qad (l := []) (by kernel_rfl) trivial) (qk4 G_u49q) (fun v => match v with | (.inl v) => by kernel_rfl | (.inr v) => by kernel_rfl) (fun v => match v with | (.inl v) => by kernel_rfl | (.inr v) => by kernel_rfl)
def qmN (G_u49q : qct) (x0 x1 : Int) (x2 : List UInt8) (x3 : List AV) : DT qy4 :=
 .br (decide (x3.length = 0))
 (.bi (pj 0 (qiq G_u49q (Sum.inl (0, 0, x0, x1, x2, 0, 0, [])))) (fun y0 =>
 .at (((sl y0).2.2.1, (sl y0).2.2.2.1, (sl y0).2.2.2.2.1, [])))
 (.bi (pj 1 (qiq G_u49q (Sum.inl (0, 0, x0, x1, x2, 0, 0, [])))) (fun y0 =>
 .at (((sr y0).2.2.1, (sr y0).2.2.2.1, (sr y0).2.2.2.2.1, (sr y0).2.2.2.2.2.2.2.2)))
 (.no)))
 (.br (decide (x3.length ≠ 0) && decide (x3.length * 56 ≤ lim))
 (.bi (pj 0 (qiq G_u49q (Sum.inr ((x3.length : Int), 0, x0, x1, x2, 0, 0, [], x3)))) (fun y0 =>
 .at (((sl y0).2.2.1, (sl y0).2.2.2.1, (sl y0).2.2.2.2.1, [])))
 (.bi (pj 1 (qiq G_u49q (Sum.inr ((x3.length : Int), 0, x0, x1, x2, 0, 0, [], x3)))) (fun y0 =>
 .at (((sr y0).2.2.1, (sr y0).2.2.2.1, (sr y0).2.2.2.2.1, (sr y0).2.2.2.2.2.2.2.2)))
 (.no)))
 (.no))
def qde : Nat → qct
 | 0 => fun _ _ _ _ => none
 | n + 1 => fun x0 x1 x2 x3 => (qmN ((qde n)) x0 x1 x2 x3).ev
def qkw (x0 x1 : Int) (x2 : List UInt8) (x3 : List AV) : Option qy4 := qiE fun n => (qde n) x0 x1 x2 x3
theorem qqw : ∀ n, qsZ ((qde n))
 | 0 => (fun v y h => nomatch h)
 | n + 1 => have hG := qqw n
 qah (F := F40) (L := [(1004000, qB3 ((qde n)))]) (t := (k4 (qmN ((qde n))))) (qnd ((qde n)) hG) (qad (l := [qae F40 0]) (by kernel_rfl) ⟨qax (by kernel_rfl) (qQF ((qde n)) hG), trivial⟩) (by kernel_rfl) (fun v => by kernel_rfl) (fun v => rfl)
theorem qO6 : FH IP 40 qsh qsm (k4 qkw) := qbL (p := qsh) (rs := qsm) (s := fun n => (k4 ((qde n)))) fun n => (qqw n)
def T71 : Tab := (40, FE qsh qsm (k4 qkw)) :: T70
theorem qzB : qan IP T71 := ⟨qam qO6, qI9⟩
abbrev qcV : Type := (Int × List AV × Int × Int) ⊕ (Int × List AV × Int × Int × List AV)
def qBv : List PSt := [⟨[(1001800, .junk), (1, .int .i64), (5, .nils 10), (9, .view 10), (10, .int .i64), (11, .int .i64)], [], 0, 0⟩, ⟨[(1001800, .junk), (1, .int .i64), (5, .own 0 0), (9, .view 10), (10, .int .i64), (11, .int .i64)], [(0, .arr 10 false)], 1, 0⟩]
def qHd (x0 : Int) (x1 : List AV) (x2 x3 : Int) : X × St := (X.exit 0, ⟨[(5, AV.nils ⟨10, NKd.nil⟩)], [], 0, 0⟩)
def qHe (x0 : Int) (x1 : List AV) (x2 x3 : Int) (x4 : List AV) : X × St := (X.exit 0, ⟨[(5, AV.own 0 0 none)], [(0, Blk.arr 10 x4 false)], 1, 0⟩)
def qRp : List (qcV → X × St) := [fun w => (k4 qHd) ((sl w)), fun w => (k5 qHe) ((sr w))]
def qmj (x0 : Int) (x1 : List AV) (x2 x3 : Int) : DT (Rd qcV) :=
 .br (decide (x3 < x2))
 (.br (qaS [CS.str, CS.int IntKind.i64, CS.int IntKind.i64, CS.int IntKind.i64, CS.str, CS.slice 4, CS.int IntKind.i64, CS.int IntKind.i64, CS.str, CS.slice 4] x1 x3)
 (.br (intOf (cellAt x1 x3 1) == x0)
 (.bi (qkw (intOf (cellAt x1 x3 2)) (intOf (cellAt x1 x3 3)) (strOf (cellAt x1 x3 4)) (qal (cellAt x1 x3 5))) (fun y0 =>
 .bi (qkw (intOf (cellAt x1 x3 6)) (intOf (cellAt x1 x3 7)) (strOf (cellAt x1 x3 8)) (qal (cellAt x1 x3 9))) (fun y1 =>
 .at (.next ((.inr (x0, x1, x2, IntKind.i64.wrap (x3 + 1), [AV.agg
 [AV.str (strOf (cellAt x1 x3 0)), AV.int IntKind.i64 (intOf (cellAt x1 x3 1)), AV.int IntKind.i64 y0.1, AV.int IntKind.i64 y0.2.1, AV.str y0.2.2.1,
 AV.view 4 y0.2.2.2, AV.int IntKind.i64 y1.1, AV.int IntKind.i64 y1.2.1, AV.str y1.2.2.1, AV.view 4 y1.2.2.2]])))))
 (.no))
 (.no))
 (.at (.next ((.inl (x0, x1, x2, IntKind.i64.wrap (x3 + 1)))))))
 (.no))
 (.at (.done 0))
def qmk (x0 : Int) (x1 : List AV) (x2 x3 : Int) (x4 : List AV) : DT (Rd qcV) :=
 .br (decide (x3 < x2))
 (.br (qaS [CS.str, CS.int IntKind.i64, CS.int IntKind.i64, CS.int IntKind.i64, CS.str, CS.slice 4, CS.int IntKind.i64, CS.int IntKind.i64, CS.str, CS.slice 4] x1 x3)
 (.br (intOf (cellAt x1 x3 1) == x0)
 (.bi (qkw (intOf (cellAt x1 x3 2)) (intOf (cellAt x1 x3 3)) (strOf (cellAt x1 x3 4)) (qal (cellAt x1 x3 5))) (fun y0 =>
 .bi (qkw (intOf (cellAt x1 x3 6)) (intOf (cellAt x1 x3 7)) (strOf (cellAt x1 x3 8)) (qal (cellAt x1 x3 9))) (fun y1 =>
 .br (room (x4.length + 1) 136)
 (.at (.next ((.inr (x0, x1, x2, IntKind.i64.wrap (x3 + 1), x4 ++
 [AV.agg
 [AV.str (strOf (cellAt x1 x3 0)), AV.int IntKind.i64 (intOf (cellAt x1 x3 1)), AV.int IntKind.i64 y0.1, AV.int IntKind.i64 y0.2.1, AV.str y0.2.2.1,
 AV.view 4 y0.2.2.2, AV.int IntKind.i64 y1.1, AV.int IntKind.i64 y1.2.1, AV.str y1.2.2.1, AV.view 4 y1.2.2.2]])))))
 (.no))
 (.no))
 (.no))
 (.at (.next ((.inr (x0, x1, x2, IntKind.i64.wrap (x3 + 1), x4))))))
 (.no))
 (.at (.done 1))
def qe6 : qcV → DT (Rd qcV) := (Sum.elim (fun v => qmj v.1 v.2.1 v.2.2.1 v.2.2.2) (fun v => qmk v.1 v.2.1 v.2.2.1 v.2.2.2.1 v.2.2.2.2))
def qrx (v : qcV) : Option (Nat × qcV) := qaF (qao (fun v => (qe6 v).ev) v)
theorem qry (v : qcV) : qrx v = qao (fun v => (qe6 v).ev) v := qaa _
def qCd : qb3 := LE (τ := qcV) (hD qBv) (qrx) qRp
theorem qQP : Go.Eng.Told IP (qae F18 0).1 (qae F18 0).2 (qCd) := qaw (inferInstance : Inhabited qcV) (hs := qBv) (st := qe6) (L := []) qzB (qad (l := []) (by kernel_rfl) trivial) (qry) (fun v => match v with | (.inl v) => by kernel_rfl | (.inr v) => by kernel_rfl) (fun v => match v with | (.inl v) => by kernel_rfl | (.inr v) => by kernel_rfl)
abbrev qIj : Type := List AV
def qKu : PArgs := ⟨[.agg [.str, .str, .str, .int .i64, .int .i64, .int .i64, .int .i64, .view 2, .bool, .int .i64, .int .i64, .bool, .view 2, .bool, .int .i64, .int .i64, .bool, .view 10, .view 6], .int .i64], []⟩
def qLj : List PRes := [⟨false, .view 10, []⟩]
def qqc (x0 x1 x2 : List UInt8) (x3 x4 : Int) (x5 x6 : Int) (x7 : List AV) (x8 : Bool) (x9 x10 : Int) (x11 : Bool) (x12 : List AV) (x13 : Bool) (x14 x15 : Int) (x16 : Bool) (x17 x18 : List AV) (x19 : Int) : DT qIj :=
 .bi (pj 0 (qrx (Sum.inl (x19, x17, (x17.length : Int), 0)))) (fun y0 =>
 .at ([]))
 (.bi (pj 1 (qrx (Sum.inl (x19, x17, (x17.length : Int), 0)))) (fun y0 =>
 .at ((sr y0).2.2.2.2))
 (.no))
def qnt (x0 x1 x2 : List UInt8) (x3 x4 : Int) (x5 x6 : Int) (x7 : List AV) (x8 : Bool) (x9 x10 : Int) (x11 : Bool) (x12 : List AV) (x13 : Bool) (x14 x15 : Int) (x16 : Bool) (x17 x18 : List AV) (x19 : Int) : Option qIj := qaF (qqc x0 x1 x2 x3 x4 x5 x6 x7 x8 x9 x10 x11 x12 x13 x14 x15 x16 x17 x18 x19).ev
theorem qAS (x0 x1 x2 : List UInt8) (x3 x4 : Int) (x5 x6 : Int) (x7 : List AV) (x8 : Bool) (x9 x10 : Int) (x11 : Bool) (x12 : List AV) (x13 : Bool) (x14 x15 : Int) (x16 : Bool) (x17 x18 : List AV) (x19 : Int) : qnt x0 x1 x2 x3 x4 x5 x6 x7 x8 x9 x10 x11 x12 x13 x14 x15 x16 x17 x18 x19 = (qqc x0 x1 x2 x3 x4 x5 x6 x7 x8 x9 x10 x11 x12 x13 x14 x15 x16 x17 x18 x19).ev := qaa _
theorem qPq : FH IP 18 qKu qLj (k20 qnt) := qah (F := F18) (L := [(1001800, qCd)]) (t := (k20 qqc)) qzB (qad (l := [qae F18 0]) (by kernel_rfl) ⟨qax (by kernel_rfl) qQP, trivial⟩) (by kernel_rfl) (fun v => by kernel_rfl) (fun _ => qaa _)
def T72 : Tab := (18, FE qKu qLj (k20 qnt)) :: T71
theorem qJa : qan IP T72 := ⟨qam qPq, qzB⟩
abbrev qIl : Type := List AV × Bool × Int × Int × Bool
def qKw : PArgs := ⟨[.agg [.str, .str, .str, .int .i64, .int .i64, .int .i64, .int .i64, .view 2, .bool, .int .i64, .int .i64, .bool, .view 2, .bool, .int .i64, .int .i64, .bool, .view 10, .view 6], .int .i64], []⟩
def qLl : List PRes := [⟨false, .agg [.view 2, .bool, .int .i64, .int .i64, .bool], []⟩]
def qqe (x0 x1 x2 : List UInt8) (x3 x4 : Int) (x5 x6 : Int) (x7 : List AV) (x8 : Bool) (x9 x10 : Int) (x11 : Bool) (x12 : List AV) (x13 : Bool) (x14 x15 : Int) (x16 : Bool) (x17 x18 : List AV) (x19 : Int) : DT qIl :=
 .br (decide (x19 < 0))
 (.br (decide (x12.length = 0))
 (.at (([], x13, x14, x15, x16)))
 (.br (decide (x12.length ≠ 0) && decide (x12.length * 16 ≤ lim)) (.at ((x12, x13, x14, x15, x16))) (.no)))
 (.br (decide (x7.length = 0))
 (.at (([], x8, x9, x10, x11)))
 (.br (decide (x7.length ≠ 0) && decide (x7.length * 16 ≤ lim)) (.at ((x7, x8, x9, x10, x11))) (.no)))
def qnv (x0 x1 x2 : List UInt8) (x3 x4 : Int) (x5 x6 : Int) (x7 : List AV) (x8 : Bool) (x9 x10 : Int) (x11 : Bool) (x12 : List AV) (x13 : Bool) (x14 x15 : Int) (x16 : Bool) (x17 x18 : List AV) (x19 : Int) : Option qIl := qaF (qqe x0 x1 x2 x3 x4 x5 x6 x7 x8 x9 x10 x11 x12 x13 x14 x15 x16 x17 x18 x19).ev
theorem qAU (x0 x1 x2 : List UInt8) (x3 x4 : Int) (x5 x6 : Int) (x7 : List AV) (x8 : Bool) (x9 x10 : Int) (x11 : Bool) (x12 : List AV) (x13 : Bool) (x14 x15 : Int) (x16 : Bool) (x17 x18 : List AV) (x19 : Int) : qnv x0 x1 x2 x3 x4 x5 x6 x7 x8 x9 x10 x11 x12 x13 x14 x15 x16 x17 x18 x19 = (qqe x0 x1 x2 x3 x4 x5 x6 x7 x8 x9 x10 x11 x12 x13 x14 x15 x16 x17 x18 x19).ev := qaa _
theorem qPs : FH IP 15 qKw qLl (k20 qnv) := qah (F := F15) (L := []) (t := (k20 qqe)) qJa (qad (l := []) (by kernel_rfl) trivial) (by kernel_rfl) (fun v => by kernel_rfl) (fun _ => qaa _)
def T73 : Tab := (15, FE qKw qLl (k20 qnv)) :: T72
theorem qzC : qan IP T73 := ⟨qam qPs, qJa⟩
abbrev qdZ : Type := Int × Int × List AV × Bool × Int × Int × Bool × List AV × Bool × Int × Int × Bool
def qBj : List PSt := [⟨[(1004100, .junk), (2, .ref 0 0 0), (3, .ref 1 0 0), (15, .int .i64), (16, .int .i64)], [(0, .box [.view 2, .bool, .int .i64, .int .i64, .bool] false), (1, .box [.view 2, .bool, .int .i64, .int .i64, .bool] false)], 2, 0⟩]
def qGO (x0 x1 : Int) (x2 : List AV) (x3 : Bool) (x4 x5 : Int) (x6 : Bool) (x7 : List AV) (x8 : Bool) (x9 x10 : Int) (x11 : Bool) : X × St := (X.ret,
 ⟨[(2, AV.ref 0 0 0), (3, AV.ref 1 0 0), (4, AV.bool false)], [(0, Blk.box [AV.view 2 x2, AV.bool x3, AV.int IntKind.i64 x4, AV.int IntKind.i64 x5, AV.bool x6] false),
 (1, Blk.box [AV.view 2 x7, AV.bool x8, AV.int IntKind.i64 x9, AV.int IntKind.i64 x10, AV.bool x11] false)], 2, 0⟩)
def qGP (x0 x1 : Int) (x2 : List AV) (x3 : Bool) (x4 x5 : Int) (x6 : Bool) (x7 : List AV) (x8 : Bool) (x9 x10 : Int) (x11 : Bool) : X × St := (X.exit 0,
 ⟨[(2, AV.ref 0 0 0), (3, AV.ref 1 0 0), (4, AV.junk)], [(0, Blk.box [AV.view 2 x2, AV.bool x3, AV.int IntKind.i64 x4, AV.int IntKind.i64 x5, AV.bool x6] false),
 (1, Blk.box [AV.view 2 x7, AV.bool x8, AV.int IntKind.i64 x9, AV.int IntKind.i64 x10, AV.bool x11] false)], 2, 0⟩)
def qRd : List (qdZ → X × St) := [(k12 qGO), (k12 qGP)]
def ql2 (x0 x1 : Int) (x2 : List AV) (x3 : Bool) (x4 x5 : Int) (x6 : Bool) (x7 : List AV) (x8 : Bool) (x9 x10 : Int) (x11 : Bool) : DT (Rd qdZ) :=
 .br (decide (x1 < x0))
 (.br (qaS [CS.int IntKind.i64, CS.int IntKind.i64] x2 x1)
 (.br (qaS [CS.int IntKind.i64, CS.int IntKind.i64] x7 x1)
 (.br (if true = true then !(intOf (cellAt x2 x1 0) == intOf (cellAt x7 x1 0) && (intOf (cellAt x2 x1 1) == intOf (cellAt x7 x1 1) && true))
 else intOf (cellAt x2 x1 0) == intOf (cellAt x7 x1 0) && (intOf (cellAt x2 x1 1) == intOf (cellAt x7 x1 1) && true))
 (.at (.done 0))
 (.at (.next ((x0, IntKind.i64.wrap (x1 + 1), x2, x3, x4, x5, x6, x7, x8, x9, x10, x11)))))
 (.no))
 (.no))
 (.at (.done 1))
def qh9 : qdZ → DT (Rd qdZ) := (fun v => ql2 v.1 v.2.1 v.2.2.1 v.2.2.2.1 v.2.2.2.2.1 v.2.2.2.2.2.1 v.2.2.2.2.2.2.1 v.2.2.2.2.2.2.2.1 v.2.2.2.2.2.2.2.2.1 v.2.2.2.2.2.2.2.2.2.1 v.2.2.2.2.2.2.2.2.2.2.1 v.2.2.2.2.2.2.2.2.2.2.2)
def qri (v : qdZ) : Option (Nat × qdZ) := qaF (qao (fun v => (qh9 v).ev) v)
theorem qrj (v : qdZ) : qri v = qao (fun v => (qh9 v).ev) v := qaa _
def qB1 : qb3 := LE (τ := qdZ) (hD qBj) (qri) qRd
theorem qQD : Go.Eng.Told IP (qae F41 0).1 (qae F41 0).2 (qB1) := qaw (inferInstance : Inhabited qdZ) (hs := qBj) (st := qh9) (L := []) qzC (qad (l := []) (by kernel_rfl) trivial) (qrj) (fun v => by kernel_rfl) (fun v => by kernel_rfl)
abbrev qHT : Type := Bool
def qJ4 : PArgs := ⟨[.agg [.view 2, .bool, .int .i64, .int .i64, .bool], .agg [.view 2, .bool, .int .i64, .int .i64, .bool]], []⟩
def qKS : List PRes := [⟨false, .bool, []⟩]
def qpM (x0 : List AV) (x1 : Bool) (x2 x3 : Int) (x4 : Bool) (x5 : List AV) (x6 : Bool) (x7 x8 : Int) (x9 : Bool) : DT qHT :=
 .br ((x0.length : Int) != (x5.length : Int))
 (.at (false))
 (.bi (pj 0 (qri ((x0.length : Int), 0, x0, x1, x2, x3, x4, x5, x6, x7, x8, x9))) (fun y0 =>
 .at (false))
 (.bi (pj 1 (qri ((x0.length : Int), 0, x0, x1, x2, x3, x4, x5, x6, x7, x8, x9))) (fun y0 =>
 .bi (br (if false = true then !y0.2.2.2.1 == y0.2.2.2.2.2.2.2.2.1 else y0.2.2.2.1 == y0.2.2.2.2.2.2.2.2.1)
 (some (y0.2.2.2.2.1 == y0.2.2.2.2.2.2.2.2.2.1)) (some false)) (fun y1 =>
 .bi (br y1 (some (y0.2.2.2.2.2.1 == y0.2.2.2.2.2.2.2.2.2.2.1)) (some false)) (fun y2 =>
 .bi (br y2
 (some
 (if false = true then !y0.2.2.2.2.2.2.1 == y0.2.2.2.2.2.2.2.2.2.2.2
 else y0.2.2.2.2.2.2.1 == y0.2.2.2.2.2.2.2.2.2.2.2))
 (some false)) (fun y3 =>
 .at (y3))
 (.no))
 (.no))
 (.no))
 (.no)))
def qkv (x0 : List AV) (x1 : Bool) (x2 x3 : Int) (x4 : Bool) (x5 : List AV) (x6 : Bool) (x7 x8 : Int) (x9 : Bool) : Option qHT := qaF (qpM x0 x1 x2 x3 x4 x5 x6 x7 x8 x9).ev
theorem qAq (x0 : List AV) (x1 : Bool) (x2 x3 : Int) (x4 : Bool) (x5 : List AV) (x6 : Bool) (x7 x8 : Int) (x9 : Bool) : qkv x0 x1 x2 x3 x4 x5 x6 x7 x8 x9 = (qpM x0 x1 x2 x3 x4 x5 x6 x7 x8 x9).ev := qaa _
theorem qOX : FH IP 41 qJ4 qKS (k10 qkv) := qah (F := F41) (L := [(1004100, qB1)]) (t := (k10 qpM)) qzC (qad (l := [qae F41 0]) (by kernel_rfl) ⟨qax (by kernel_rfl) qQD, trivial⟩) (by kernel_rfl) (fun v => by kernel_rfl) (fun _ => qaa _)
def T74 : Tab := (41, FE qJ4 qKS (k10 qkv)) :: T73
theorem qJb : qan IP T74 := ⟨qam qOX, qzC⟩
abbrev qsX : Type := Bool
def qlq : PArgs := ⟨[.agg [.int .i64, .int .i64, .str, .view 4], .agg [.int .i64, .int .i64, .str, .view 4]], []⟩
def qlE : List PRes := [⟨false, .bool, []⟩]
abbrev qby : Type := Int → Int → (List UInt8) → (List AV) → Int → Int → (List UInt8) → (List AV) → Option qsX
abbrev qLC : Type := Bool
def qDA : PArgs := ⟨[.view 4, .view 4, .fn (.func 44) []], []⟩
def qEl : List PRes := [⟨false, .bool, []⟩]
abbrev qeF : Type := (List AV) → (List AV) → Option qLC
def qoy (G_u148q : qby) (G_u2q : qeF) : Prop := FH IP 44 qlq qlE (k8 G_u148q) ∧ FH IP 59 qDA qEl (k2 G_u2q)
def qFJ (G_u148q : qby) (G_u2q : qeF) : Tab := (44, FE qlq qlE (k8 G_u148q)) :: (59, FE qDA qEl (k2 G_u2q)) :: T74
theorem qfY (G_u148q : qby) (G_u2q : qeF) (hG : qoy G_u148q G_u2q) : qan IP (qFJ G_u148q G_u2q) := ⟨qam (hG.1), qam (hG.2), qJb⟩
abbrev qgJ : Type := List AV × List AV × Int × Int
def qJG : List PSt := [⟨[(1005900, .junk), (1, .view 4), (2, .fn (.func 44) []), (15, .view 4), (16, .int .i64), (17, .int .i64)], [], 0, 0⟩]
def qNB (x0 x1 : List AV) (x2 x3 : Int) : X × St := (X.ret, ⟨[(6, AV.bool false)], [], 0, 0⟩)
def qNC (x0 x1 : List AV) (x2 x3 : Int) : X × St := (X.exit 0, ⟨[(6, AV.junk)], [], 0, 0⟩)
def qUx : List (qgJ → X × St) := [(k4 qNB), (k4 qNC)]
def qpm (G_u148q : qby) (G_u2q : qeF) (x0 x1 : List AV) (x2 x3 : Int) : DT (Rd qgJ) :=
 .br (decide (x3 < x2))
 (.br (qaS [CS.int IntKind.i64, CS.int IntKind.i64, CS.str, CS.slice 4] x1 x3)
 (.br (qaS [CS.int IntKind.i64, CS.int IntKind.i64, CS.str, CS.slice 4] x0 x3)
 (.bi (G_u148q (intOf (cellAt x1 x3 0)) (intOf (cellAt x1 x3 1)) (strOf (cellAt x1 x3 2)) (qal (cellAt x1 x3 3)) (intOf (cellAt x0 x3 0)) (intOf (cellAt x0 x3 1))
 (strOf (cellAt x0 x3 2)) (qal (cellAt x0 x3 3))) (fun y0 =>
 .br (!y0) (.at (.done 0)) (.at (.next ((x0, x1, x2, IntKind.i64.wrap (x3 + 1))))))
 (.no))
 (.no))
 (.no))
 (.at (.done 1))
def qog (G_u148q : qby) (G_u2q : qeF) : qgJ → DT (Rd qgJ) := (fun v => qpm G_u148q G_u2q v.1 v.2.1 v.2.2.1 v.2.2.2)
def qBQ (G_u148q : qby) (G_u2q : qeF) (v : qgJ) : Option (Nat × qgJ) := qaF (qao (fun v => (qog G_u148q G_u2q v).ev) v)
theorem qu9 (G_u148q : qby) (G_u2q : qeF) (v : qgJ) : qBQ G_u148q G_u2q v = qao (fun v => (qog G_u148q G_u2q v).ev) v := qaa _
def qJN (G_u148q : qby) (G_u2q : qeF) : qb3 := LE (τ := qgJ) (hD qJG) (qBQ G_u148q G_u2q) qUx
theorem qUn (G_u148q : qby) (G_u2q : qeF) (hG : qoy G_u148q G_u2q) : Go.Eng.Told IP (qae F59 0).1 (qae F59 0).2 (qJN G_u148q G_u2q) := qaw (inferInstance : Inhabited qgJ) (hs := qJG) (st := qog G_u148q G_u2q) (L := []) (qfY G_u148q G_u2q hG) (qad (l := []) (by kernel_rfl) trivial) (qu9 G_u148q G_u2q) (fun v => by kernel_rfl) (fun v => by kernel_rfl)
def qjh (G_u148q : qby) (G_u2q : qeF) (x0 x1 : Int) (x2 : List UInt8) (x3 : List AV) (x4 x5 : Int) (x6 : List UInt8) (x7 : List AV) : DT qsX :=
 .bi (br (x0 == x4) (some (x1 == x5)) (some false)) (fun y0 =>
 .bi (br y0 (some (x2 == x6)) (some false)) (fun y1 =>
 .bi (br y1 (br (sm (G_u2q x3 x7)) (some (gv (G_u2q x3 x7))) none) (some false)) (fun y2 =>
 .at (y2))
 (.no))
 (.no))
 (.no)
def qvY (G_u148q : qby) (G_u2q : qeF) (x0 x1 : List AV) : DT qLC :=
 .br ((x0.length : Int) != (x1.length : Int))
 (.at (false))
 (.bi (pj 0 (qBQ G_u148q G_u2q (x1, x0, (x0.length : Int), 0))) (fun y0 =>
 .at (false))
 (.bi (pj 1 (qBQ G_u148q G_u2q (x1, x0, (x0.length : Int), 0))) (fun y0 =>
 .at (true))
 (.no)))
def qaM : Nat → qby × qeF
 | 0 => (fun _ _ _ _ _ _ _ _ => none, fun _ _ => none)
 | n + 1 => (fun x0 x1 x2 x3 x4 x5 x6 x7 => (qjh ((qaM n).1) ((qaM n).2) x0 x1 x2 x3 x4 x5 x6 x7).ev, fun x0 x1 => (qvY ((qaM n).1) ((qaM n).2) x0 x1).ev)
def qet (x0 x1 : Int) (x2 : List UInt8) (x3 : List AV) (x4 x5 : Int) (x6 : List UInt8) (x7 : List AV) : Option qsX := qiE fun n => (qaM n).1 x0 x1 x2 x3 x4 x5 x6 x7
def qPK (x0 x1 : List AV) : Option qLC := qiE fun n => (qaM n).2 x0 x1
theorem qho : ∀ n, qoy ((qaM n).1) ((qaM n).2)
 | 0 => ⟨(fun v y h => nomatch h), (fun v y h => nomatch h)⟩
 | n + 1 => have hG := qho n
 ⟨qah (F := F44) (L := []) (t := (k8 (qjh ((qaM n).1) ((qaM n).2)))) (qfY ((qaM n).1) ((qaM n).2) hG) (qad (l := []) (by kernel_rfl) trivial) (by kernel_rfl) (fun v => by kernel_rfl) (fun v => rfl), qah (F := F59) (L := [(1005900, qJN ((qaM n).1) ((qaM n).2))]) (t := (k2 (qvY ((qaM n).1) ((qaM n).2)))) (qfY ((qaM n).1) ((qaM n).2) hG) (qad (l := [qae F59 0]) (by kernel_rfl) ⟨qax (by kernel_rfl) (qUn ((qaM n).1) ((qaM n).2) hG), trivial⟩) (by kernel_rfl) (fun v => by kernel_rfl) (fun v => rfl)⟩
theorem qMp : FH IP 44 qlq qlE (k8 qet) := qbL (p := qlq) (rs := qlE) (s := fun n => (k8 ((qaM n).1))) fun n => (qho n).1
theorem qSH : FH IP 59 qDA qEl (k2 qPK) := qbL (p := qDA) (rs := qEl) (s := fun n => (k2 ((qaM n).2))) fun n => (qho n).2
def T75 : Tab := (44, FE qlq qlE (k8 qet)) :: T74
theorem qOB : qan IP T75 := ⟨qam qMp, qJb⟩
def T76 : Tab := (59, FE qDA qEl (k2 qPK)) :: T75
theorem qJc : qan IP T76 := ⟨qam qSH, qOB⟩
abbrev qH1 : Type := Bool
def qKb : PArgs := ⟨[.agg [.str, .int .i64, .int .i64, .int .i64, .str, .view 4, .int .i64, .int .i64, .str, .view 4], .agg [.str, .int .i64, .int .i64, .int .i64, .str, .view 4, .int .i64, .int .i64, .str, .view 4]], []⟩
def qK0 : List PRes := [⟨false, .bool, []⟩]
def qpT (x0 : List UInt8) (x1 x2 x3 : Int) (x4 : List UInt8) (x5 : List AV) (x6 x7 : Int) (x8 : List UInt8) (x9 : List AV) (x10 : List UInt8) (x11 x12 x13 : Int) (x14 : List UInt8) (x15 : List AV) (x16 x17 : Int) (x18 : List UInt8) (x19 : List AV) : DT qH1 :=
 .bi (br (x0 == x10) (some (x1 == x11)) (some false)) (fun y0 =>
 .bi (br y0 (br (sm (qet x2 x3 x4 x5 x12 x13 x14 x15)) (some (gv (qet x2 x3 x4 x5 x12 x13 x14 x15))) none) (some false)) (fun y1 =>
 .bi (br y1 (br (sm (qet x6 x7 x8 x9 x16 x17 x18 x19)) (some (gv (qet x6 x7 x8 x9 x16 x17 x18 x19))) none) (some false)) (fun y2 =>
 .at (y2))
 (.no))
 (.no))
 (.no)
def qqT (x0 : List UInt8) (x1 x2 x3 : Int) (x4 : List UInt8) (x5 : List AV) (x6 x7 : Int) (x8 : List UInt8) (x9 : List AV) (x10 : List UInt8) (x11 x12 x13 : Int) (x14 : List UInt8) (x15 : List AV) (x16 x17 : Int) (x18 : List UInt8) (x19 : List AV) : Option qH1 := qaF (qpT x0 x1 x2 x3 x4 x5 x6 x7 x8 x9 x10 x11 x12 x13 x14 x15 x16 x17 x18 x19).ev
theorem qAy (x0 : List UInt8) (x1 x2 x3 : Int) (x4 : List UInt8) (x5 : List AV) (x6 x7 : Int) (x8 : List UInt8) (x9 : List AV) (x10 : List UInt8) (x11 x12 x13 : Int) (x14 : List UInt8) (x15 : List AV) (x16 x17 : Int) (x18 : List UInt8) (x19 : List AV) : qqT x0 x1 x2 x3 x4 x5 x6 x7 x8 x9 x10 x11 x12 x13 x14 x15 x16 x17 x18 x19 = (qpT x0 x1 x2 x3 x4 x5 x6 x7 x8 x9 x10 x11 x12 x13 x14 x15 x16 x17 x18 x19).ev := qaa _
theorem qO4 : FH IP 43 qKb qK0 (k20 qqT) := qah (F := F43) (L := []) (t := (k20 qpT)) qJc (qad (l := []) (by kernel_rfl) trivial) (by kernel_rfl) (fun v => by kernel_rfl) (fun _ => qaa _)
def T77 : Tab := (43, FE qKb qK0 (k20 qqT)) :: T76
theorem qzD : qan IP T77 := ⟨qam qO4, qJc⟩
abbrev qgL : Type := List AV × List AV × Int × Int
def qJI : List PSt := [⟨[(1004200, .junk), (1, .view 10), (2, .fn (.func 43) []), (15, .view 10), (16, .int .i64), (17, .int .i64)], [], 0, 0⟩]
def qNU (x0 x1 : List AV) (x2 x3 : Int) : X × St := (X.ret, ⟨[(6, AV.bool false)], [], 0, 0⟩)
def qNV (x0 x1 : List AV) (x2 x3 : Int) : X × St := (X.exit 0, ⟨[(6, AV.junk)], [], 0, 0⟩)
def qUz : List (qgL → X × St) := [(k4 qNU), (k4 qNV)]
def qpo (x0 x1 : List AV) (x2 x3 : Int) : DT (Rd qgL) :=
 .br (decide (x3 < x2))
 (.br (qaS [CS.str, CS.int IntKind.i64, CS.int IntKind.i64, CS.int IntKind.i64, CS.str, CS.slice 4, CS.int IntKind.i64, CS.int IntKind.i64, CS.str, CS.slice 4] x1 x3)
 (.br (qaS [CS.str, CS.int IntKind.i64, CS.int IntKind.i64, CS.int IntKind.i64, CS.str, CS.slice 4, CS.int IntKind.i64, CS.int IntKind.i64, CS.str, CS.slice 4] x0 x3)
 (.bi (qqT (strOf (cellAt x1 x3 0)) (intOf (cellAt x1 x3 1)) (intOf (cellAt x1 x3 2)) (intOf (cellAt x1 x3 3)) (strOf (cellAt x1 x3 4)) (qal (cellAt x1 x3 5))
 (intOf (cellAt x1 x3 6)) (intOf (cellAt x1 x3 7)) (strOf (cellAt x1 x3 8)) (qal (cellAt x1 x3 9)) (strOf (cellAt x0 x3 0)) (intOf (cellAt x0 x3 1)) (intOf (cellAt x0 x3 2))
 (intOf (cellAt x0 x3 3)) (strOf (cellAt x0 x3 4)) (qal (cellAt x0 x3 5)) (intOf (cellAt x0 x3 6)) (intOf (cellAt x0 x3 7)) (strOf (cellAt x0 x3 8)) (qal (cellAt x0 x3 9))) (fun y0 =>
 .br (!y0) (.at (.done 0)) (.at (.next ((x0, x1, x2, IntKind.i64.wrap (x3 + 1))))))
 (.no))
 (.no))
 (.no))
 (.at (.done 1))
def qoi : qgL → DT (Rd qgL) := (fun v => qpo v.1 v.2.1 v.2.2.1 v.2.2.2)
def qBS (v : qgL) : Option (Nat × qgL) := qaF (qao (fun v => (qoi v).ev) v)
theorem qve (v : qgL) : qBS v = qao (fun v => (qoi v).ev) v := qaa _
def qJP : qb3 := LE (τ := qgL) (hD qJI) (qBS) qUz
theorem qUp : Go.Eng.Told IP (qae F42 0).1 (qae F42 0).2 (qJP) := qaw (inferInstance : Inhabited qgL) (hs := qJI) (st := qoi) (L := []) qzD (qad (l := []) (by kernel_rfl) trivial) (qve) (fun v => by kernel_rfl) (fun v => by kernel_rfl)
abbrev qOn : Type := Bool
def qQn : PArgs := ⟨[.view 10, .view 10, .fn (.func 43) []], []⟩
def qQt : List PRes := [⟨false, .bool, []⟩]
def qv2 (x0 x1 : List AV) : DT qOn :=
 .br ((x0.length : Int) != (x1.length : Int))
 (.at (false))
 (.bi (pj 0 (qBS (x1, x0, (x0.length : Int), 0))) (fun y0 =>
 .at (false))
 (.bi (pj 1 (qBS (x1, x0, (x0.length : Int), 0))) (fun y0 =>
 .at (true))
 (.no)))
def qAG (x0 x1 : List AV) : Option qOn := qaF (qv2 x0 x1).ev
theorem qF6 (x0 x1 : List AV) : qAG x0 x1 = (qv2 x0 x1).ev := qaa _
theorem qSJ : FH IP 42 qQn qQt (k2 qAG) := qah (F := F42) (L := [(1004200, qJP)]) (t := (k2 qv2)) qzD (qad (l := [qae F42 0]) (by kernel_rfl) ⟨qax (by kernel_rfl) qUp, trivial⟩) (by kernel_rfl) (fun v => by kernel_rfl) (fun _ => qaa _)
def T78 : Tab := (42, FE qQn qQt (k2 qAG)) :: T77
theorem qJd : qan IP T78 := ⟨qam qSJ, qzD⟩
abbrev qH2 : Type := Bool
def qKc : PArgs := ⟨[.agg [.str, .int .i64, .int .i64, .int .i64, .str, .view 4], .agg [.str, .int .i64, .int .i64, .int .i64, .str, .view 4]], []⟩
def qK1 : List PRes := [⟨false, .bool, []⟩]
def qpU (x0 : List UInt8) (x1 x2 x3 : Int) (x4 : List UInt8) (x5 : List AV) (x6 : List UInt8) (x7 x8 x9 : Int) (x10 : List UInt8) (x11 : List AV) : DT qH2 :=
 .bi (br (x0 == x6) (some (x1 == x7)) (some false)) (fun y0 =>
 .bi (br y0 (br (sm (qet x2 x3 x4 x5 x8 x9 x10 x11)) (some (gv (qet x2 x3 x4 x5 x8 x9 x10 x11))) none) (some false)) (fun y1 =>
 .at (y1))
 (.no))
 (.no)
def qqU (x0 : List UInt8) (x1 x2 x3 : Int) (x4 : List UInt8) (x5 : List AV) (x6 : List UInt8) (x7 x8 x9 : Int) (x10 : List UInt8) (x11 : List AV) : Option qH2 := qaF (qpU x0 x1 x2 x3 x4 x5 x6 x7 x8 x9 x10 x11).ev
theorem qAz (x0 : List UInt8) (x1 x2 x3 : Int) (x4 : List UInt8) (x5 : List AV) (x6 : List UInt8) (x7 x8 x9 : Int) (x10 : List UInt8) (x11 : List AV) : qqU x0 x1 x2 x3 x4 x5 x6 x7 x8 x9 x10 x11 = (qpU x0 x1 x2 x3 x4 x5 x6 x7 x8 x9 x10 x11).ev := qaa _
theorem qO5 : FH IP 46 qKc qK1 (k12 qqU) := qah (F := F46) (L := []) (t := (k12 qpU)) qJd (qad (l := []) (by kernel_rfl) trivial) (by kernel_rfl) (fun v => by kernel_rfl) (fun _ => qaa _)
def T79 : Tab := (46, FE qKc qK1 (k12 qqU)) :: T78
theorem qzE : qan IP T79 := ⟨qam qO5, qJd⟩
end
end Go.Proofs.H15c

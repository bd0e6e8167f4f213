/- Functions over plain data. Printed by a program of mine. -/
import Derived.Test.YtigchhcddgibhaaGreatDoorD13_4
import Derived.KernelRfl
set_option linter.unusedVariables false
set_option linter.unusedSimpArgs false
set_option linter.unnecessarySimpa false
namespace Go.Proofs.H13
open Go Go.Eng
set_option maxRecDepth 100000
noncomputable section
abbrev qch : Type := (List AV × List AV × List AV × Int × Int × Int × Int × List UInt8 × List AV × Int × Int) ⊕ (List AV × List AV × List AV × Int × Int × Int × Int × List UInt8 × List AV × Int × Int × List AV)
def qBf : List PSt := [⟨[(1003801, .junk), (1, .view 2), (2, .view 2), (3, .ref 0 0 0), (6, .ref 1 0 0), (12, .nils 2), (82, .view 4), (83, .int .i64), (84, .int .i64)], [(0, .box [.int .i64, .int .i64, .str, .view 4] false), (1, .box [.int .i64, .int .i64] false)], 2, 0⟩, ⟨[(1003801, .junk), (1, .view 2), (2, .view 2), (3, .ref 0 0 0), (6, .ref 1 0 0), (12, .own 2 0), (82, .view 4), (83, .int .i64), (84, .int .i64)], [(0, .box [.int .i64, .int .i64, .str, .view 4] false), (1, .box [.int .i64, .int .i64] false), (2, .arr 2 false)], 3, 0⟩]
def qQi (G_u193q : qbk) (x0 x1 x2 : List AV) (x3 x4 : Int) (x5 x6 : Int) (x7 : List UInt8) (x8 : List AV) (x9 x10 : Int) : X × St := (X.ret,
 ⟨[(3, AV.ref 0 0 0), (6, AV.ref 1 0 0),
 (7, AV.int IntKind.i64 (gv (G_u193q (intOf (cellAt x2 x4 0)) (intOf (cellAt x2 x4 1)) (strOf (cellAt x2 x4 2)) (qal (cellAt x2 x4 3)) x0 x1)).2.2),
 (12, AV.nils ⟨2, NKd.nil⟩)], [(0, Blk.box [AV.int IntKind.i64 x5, AV.int IntKind.i64 x6, AV.str x7, AV.view 4 x8] false), (1, Blk.box [AV.int IntKind.i64 0, AV.int IntKind.i64 0] false)], 2, 0⟩)
def qQj (G_u193q : qbk) (x0 x1 x2 : List AV) (x3 x4 : Int) (x5 x6 : Int) (x7 : List UInt8) (x8 : List AV) (x9 x10 : Int) : X × St := (X.exit 3,
 ⟨[(3, AV.ref 0 0 0), (6, AV.ref 1 0 0), (7, AV.junk), (12, AV.nils ⟨2, NKd.nil⟩)], [(0, Blk.box [AV.int IntKind.i64 x5, AV.int IntKind.i64 x6, AV.str x7, AV.view 4 x8] false), (1, Blk.box [AV.int IntKind.i64 x9, AV.int IntKind.i64 x10] false)], 2, 0⟩)
def qQk (G_u193q : qbk) (x0 x1 x2 : List AV) (x3 x4 : Int) (x5 x6 : Int) (x7 : List UInt8) (x8 : List AV) (x9 x10 : Int) (x11 : List AV) : X × St := (X.ret,
 ⟨[(3, AV.ref 0 0 0), (6, AV.ref 1 0 0),
 (7, AV.int IntKind.i64 (gv (G_u193q (intOf (cellAt x2 x4 0)) (intOf (cellAt x2 x4 1)) (strOf (cellAt x2 x4 2)) (qal (cellAt x2 x4 3)) x0 x1)).2.2),
 (12, AV.own 2 0 none)], [(0, Blk.box [AV.int IntKind.i64 x5, AV.int IntKind.i64 x6, AV.str x7, AV.view 4 x8] false), (1, Blk.box [AV.int IntKind.i64 0, AV.int IntKind.i64 0] false),
 (2, Blk.arr 2 x11 false)], 3, 0⟩)
def qQl (G_u193q : qbk) (x0 x1 x2 : List AV) (x3 x4 : Int) (x5 x6 : Int) (x7 : List UInt8) (x8 : List AV) (x9 x10 : Int) (x11 : List AV) : X × St := (X.exit 3,
 ⟨[(3, AV.ref 0 0 0), (6, AV.ref 1 0 0), (7, AV.junk), (12, AV.own 2 0 none)], [(0, Blk.box [AV.int IntKind.i64 x5, AV.int IntKind.i64 x6, AV.str x7, AV.view 4 x8] false), (1, Blk.box [AV.int IntKind.i64 x9, AV.int IntKind.i64 x10] false),
 (2, Blk.arr 2 x11 false)], 3, 0⟩)
def q14 (G_u193q : qbk) : List (qch → X × St) := [fun w => (k11 (qQi G_u193q)) ((sl w)), fun w => (k11 (qQj G_u193q)) ((sl w)), fun w => (k12 (qQk G_u193q)) ((sr w)), fun w => (k12 (qQl G_u193q)) ((sr w))]
def qhV (G_u193q : qbk) (x0 x1 x2 : List AV) (x3 x4 : Int) (x5 x6 : Int) (x7 : List UInt8) (x8 : List AV) (x9 x10 : Int) : DT (Rd qch) :=
 .br (decide (x4 < x3))
 (.br (qaB [CS.int IntKind.i64, CS.int IntKind.i64, CS.str, CS.slice 4] x2 x4)
 (.bi (G_u193q (intOf (cellAt x2 x4 0)) (intOf (cellAt x2 x4 1)) (strOf (cellAt x2 x4 2)) (qal (cellAt x2 x4 3)) x0 x1) (fun y0 =>
 .br (y0.2.2 != 0)
 (.at (.done 0))
 (.at (.next ((.inr (x0, x1, x2, x3, IntKind.i64.wrap (x4 + 1), x5, x6, x7, x8, x9, x10, [AV.agg [AV.int IntKind.i64 y0.1, AV.int IntKind.i64 y0.2.1]]))))))
 (.no))
 (.no))
 (.at (.done 1))
def qhW (G_u193q : qbk) (x0 x1 x2 : List AV) (x3 x4 : Int) (x5 x6 : Int) (x7 : List UInt8) (x8 : List AV) (x9 x10 : Int) (x11 : List AV) : DT (Rd qch) :=
 .br (decide (x4 < x3))
 (.br (qaB [CS.int IntKind.i64, CS.int IntKind.i64, CS.str, CS.slice 4] x2 x4)
 (.bi (G_u193q (intOf (cellAt x2 x4 0)) (intOf (cellAt x2 x4 1)) (strOf (cellAt x2 x4 2)) (qal (cellAt x2 x4 3)) x0 x1) (fun y0 =>
 .br (y0.2.2 != 0)
 (.at (.done 2))
 (.br (room (x11.length + 1) 16)
 (.at (.next ((.inr (x0, x1, x2, x3, IntKind.i64.wrap (x4 + 1), x5, x6, x7, x8, x9, x10, x11 ++ [AV.agg [AV.int IntKind.i64 y0.1, AV.int IntKind.i64 y0.2.1]])))))
 (.no)))
 (.no))
 (.no))
 (.at (.done 3))
def qdv (G_u193q : qbk) : qch → DT (Rd qch) := (Sum.elim (fun v => qhV G_u193q v.1 v.2.1 v.2.2.1 v.2.2.2.1 v.2.2.2.2.1 v.2.2.2.2.2.1 v.2.2.2.2.2.2.1 v.2.2.2.2.2.2.2.1 v.2.2.2.2.2.2.2.2.1 v.2.2.2.2.2.2.2.2.2.1 v.2.2.2.2.2.2.2.2.2.2) (fun v => qhW G_u193q v.1 v.2.1 v.2.2.1 v.2.2.2.1 v.2.2.2.2.1 v.2.2.2.2.2.1 v.2.2.2.2.2.2.1 v.2.2.2.2.2.2.2.1 v.2.2.2.2.2.2.2.2.1 v.2.2.2.2.2.2.2.2.2.1 v.2.2.2.2.2.2.2.2.2.2.1 v.2.2.2.2.2.2.2.2.2.2.2))
def qkO (G_u193q : qbk) (v : qch) : Option (Nat × qch) := qaz (qar (fun v => (qdv G_u193q v).ev) v)
theorem qhy (G_u193q : qbk) (v : qch) : qkO G_u193q v = qar (fun v => (qdv G_u193q v).ev) v := qaa _
def qBY (G_u193q : qbk) : qcJ := LE (τ := qch) (hD qBf) (qkO G_u193q) (q14 G_u193q)
theorem q1q (G_u193q : qbk) (hG : qs9 G_u193q) : Go.Eng.Told IP (qah F38 1).1 (qah F38 1).2 (qBY G_u193q) := qax (inferInstance : Inhabited qch) (hs := qBf) (st := qdv G_u193q) (L := []) (qnE G_u193q hG) (qab (l := []) (by kernel_rfl) trivial) (qhy G_u193q) (fun v => match v with | (.inl v) => by kernel_rfl | (.inr v) => by kernel_rfl) (fun v => match v with | (.inl v) => by kernel_rfl | (.inr v) => by kernel_rfl)
def evI (G : Int → Int → List UInt8 → List AV → List AV → List AV → Option qfK) (x3 x4 x5 : List AV) : DT qfK :=
 (.br (qaB [CS.int IntKind.i64, CS.int IntKind.i64, CS.str, CS.slice 4] x3 0)
 (.bi (G (intOf (cellAt x3 0 0)) (intOf (cellAt x3 0 1)) (strOf (cellAt x3 0 2)) (qal (cellAt x3 0 3)) x4 x5) (fun y0 =>
 .br (y0.2.2 != 0)
 (.at ((0, 0, y0.2.2)))
 (.br (qaB [CS.int IntKind.i64, CS.int IntKind.i64, CS.str, CS.slice 4] x3 (IntKind.i64.wrap (2 - y0.2.1)))
 (.bi (G (intOf (cellAt x3 (IntKind.i64.wrap (2 - y0.2.1)) 0)) (intOf (cellAt x3 (IntKind.i64.wrap (2 - y0.2.1)) 1))
 (strOf (cellAt x3 (IntKind.i64.wrap (2 - y0.2.1)) 2)) (qal (cellAt x3 (IntKind.i64.wrap (2 - y0.2.1)) 3)) x4 x5) (fun y1 =>
 .at ((y1.1, y1.2.1, y1.2.2)))
 (.no))
 (.no)))
 (.no))
 (.no))
def evT (G : Int → Int → List UInt8 → List AV → List AV → List AV → Option qfK) (y : Option (Nat × qch)) : DT qfK :=
 (.bi (pj 0 y) (fun y0 =>
 .at ((0, 0, (gv
 (G (intOf (cellAt (sl y0).2.2.1 (sl y0).2.2.2.2.1 0)) (intOf (cellAt (sl y0).2.2.1 (sl y0).2.2.2.2.1 1))
 (strOf (cellAt (sl y0).2.2.1 (sl y0).2.2.2.2.1 2)) (qal (cellAt (sl y0).2.2.1 (sl y0).2.2.2.2.1 3)) (sl y0).1 (sl y0).2.1)).2.2)))
 (.bi (pj 1 y) (fun y0 =>
 .bi (qaW (sl y0).2.2.2.2.2.1 []) (fun y1 =>
 .at ((y1.1, y1.2.1, y1.2.2)))
 (.no))
 (.bi (pj 2 y) (fun y0 =>
 .at ((0, 0, (gv
 (G (intOf (cellAt (sr y0).2.2.1 (sr y0).2.2.2.2.1 0)) (intOf (cellAt (sr y0).2.2.1 (sr y0).2.2.2.2.1 1))
 (strOf (cellAt (sr y0).2.2.1 (sr y0).2.2.2.2.1 2)) (qal (cellAt (sr y0).2.2.1 (sr y0).2.2.2.2.1 3)) (sr y0).1 (sr y0).2.1)).2.2)))
 (.bi (pj 3 y) (fun y0 =>
 .bi (qaW (sr y0).2.2.2.2.2.1 (sr y0).2.2.2.2.2.2.2.2.2.2.2) (fun y1 =>
 .at ((y1.1, y1.2.1, y1.2.2)))
 (.no))
 (.no)))))
def qcV (G_u193q : qbk) (x0 x1 : Int) (x2 : List UInt8) (x3 x4 x5 : List AV) : DT qfK :=
 .br (x0 == 1)
 (.at ((1, x1, 0)))
 (.br (x0 == 2)
 (.at ((2, x1, 0)))
 (.br (x0 == 3)
 (.at ((3, x1, 0)))
 (.br (x0 == 4)
 (.bi (pj 0 (qpc (x4, x5, x4, (x4.length : Int), 0, x0, x1, x2, x3, 0, 0))) (fun y0 =>
 .at ((intOf (cellAt y0.2.1 y0.2.2.2.2.1 0), intOf (cellAt y0.2.1 y0.2.2.2.2.1 1), 0)))
 (.bi (pj 1 (qpc (x4, x5, x4, (x4.length : Int), 0, x0, x1, x2, x3, 0, 0))) (fun y0 =>
 (evT G_u193q (qkO G_u193q (Sum.inl (y0.1, y0.2.1, y0.2.2.2.2.2.2.2.2.1, (y0.2.2.2.2.2.2.2.2.1.length : Int), 0, y0.2.2.2.2.2.1, y0.2.2.2.2.2.2.1, y0.2.2.2.2.2.2.2.1, y0.2.2.2.2.2.2.2.2.1, y0.2.2.2.2.2.2.2.2.2.1, y0.2.2.2.2.2.2.2.2.2.2)))))
 (.no)))
 (.br (x0 == 19)
 ((evI G_u193q x3 x4 x5))
 ((evT G_u193q (qkO G_u193q (Sum.inl (x4, x5, x3, (x3.length : Int), 0, x0, x1, x2, x3, 0, 0)))))))))
def qcK : Nat → qbk
 | 0 => fun _ _ _ _ _ _ => none
 | n + 1 => fun x0 x1 x2 x3 x4 x5 => (qcV ((qcK n)) x0 x1 x2 x3 x4 x5).ev
def qtE (x0 x1 : Int) (x2 : List UInt8) (x3 x4 x5 : List AV) : Option qfK := qlO fun n => (qcK n) x0 x1 x2 x3 x4 x5
theorem qrn : ∀ n, qs9 ((qcK n))
 | 0 => (fun v y h => nomatch h)
 | n + 1 => have hG := qrn n
 qaf (F := F38) (L := [(1003800, qBX), (1003801, qBY ((qcK n)))]) (t := (k6 (qcV ((qcK n))))) (qnE ((qcK n)) hG) (qab (l := [qah F38 0, qah F38 1]) (by kernel_rfl) ⟨qay (by kernel_rfl) q1p, qay (by kernel_rfl) (q1q ((qcK n)) hG), trivial⟩) (by kernel_rfl) (fun v => by kernel_rfl) (fun v => rfl)
theorem qZw : FH IP 38 qpI qpX (k6 qtE) := qcz (p := qpI) (rs := qpX) (s := fun n => (k6 ((qcK n)))) fun n => (qrn n)
def T79 : Tab := (38, FE qpI qpX (k6 qtE)) :: T78
theorem qU8 : qaj IP T79 := ⟨qak qZw, qIJ⟩
abbrev qGL : Type := Int × Int × Int
def qMM : PArgs := ⟨[.agg [.int .i64, .int .i64, .str, .view 4], .view 2, .view 2], []⟩
def qOn : List PRes := [⟨false, .tup [.agg [.int .i64, .int .i64], .int .i64], []⟩]
def qmS (x0 x1 : Int) (x2 : List UInt8) (x3 x4 x5 : List AV) : DT qGL :=
 .bi (qix x4) (fun y0 =>
 .br (y0 != 0)
 (.at ((0, 0, y0)))
 (.bi (qiF x0 x1 x2 x3 x4) (fun y1 =>
 .br (y1.2 != 0)
 (.at ((0, 0, y1.2)))
 (.bi (qco x4 x5) (fun y2 =>
 .br (!y2)
 (.at ((0, 0, 1)))
 (.bi (qtE x0 x1 x2 x3 x4 x5) (fun y3 =>
 .at ((y3.1, y3.2.1, y3.2.2)))
 (.no)))
 (.no)))
 (.no)))
 (.no)
def qgh (x0 x1 : Int) (x2 : List UInt8) (x3 x4 x5 : List AV) : Option qGL := qaz (qmS x0 x1 x2 x3 x4 x5).ev
theorem qDY (x0 x1 : Int) (x2 : List UInt8) (x3 x4 x5 : List AV) : qgh x0 x1 x2 x3 x4 x5 = (qmS x0 x1 x2 x3 x4 x5).ev := qaa _
theorem qZv : FH IP 13 qMM qOn (k6 qgh) := qaf (F := F13) (L := []) (t := (k6 qmS)) qU8 (qab (l := []) (by kernel_rfl) trivial) (by kernel_rfl) (fun v => by kernel_rfl) (fun _ => qaa _)
def T80 : Tab := (13, FE qMM qOn (k6 qgh)) :: T79
theorem qU9 : qaj IP T80 := ⟨qak qZv, qU8⟩
abbrev qTv : Type := Int × List AV × List AV
def qV7 : PArgs := ⟨[.ref 0 0 0, .int .i64, .int .i64, .int .i64], [(0, .box [.view 2, .nils 3] false)]⟩
def qXb : List PRes := [⟨false, .int .i64, [(0, .box [.view 2, .own 1 0] false), (1, .arr 3 false)]⟩]
def quT (x0 x1 x2 : Int) (x3 : List AV) : DT qTv :=
 .at ((IntKind.i64.wrap ((1 : Int) - 1), x3, [AV.agg [AV.int IntKind.i64 x0, AV.int IntKind.i64 x1, AV.int IntKind.i64 x2]]))
def qjj (x0 x1 x2 : Int) (x3 : List AV) : Option qTv := qaz (quT x0 x1 x2 x3).ev
theorem qJv (x0 x1 x2 : Int) (x3 : List AV) : qjj x0 x1 x2 x3 = (quT x0 x1 x2 x3).ev := qaa _
theorem q3G : FH IP 77 qV7 qXb (k4 qjj) := qaf (F := F77) (L := []) (t := (k4 quT)) qU9 (qab (l := []) (by kernel_rfl) trivial) (by kernel_rfl) (fun v => by kernel_rfl) (fun _ => qaa _)
def T81 : Tab := (77, FE qV7 qXb (k4 qjj)) :: T80
theorem qVa : qaj IP T81 := ⟨qak q3G, qU9⟩
abbrev qTs : Type := Bool
def qV4 : PArgs := ⟨[.agg [.str, .int .i64], .ptr [.int .i64, .int .i64, .str, .view 4]], []⟩
def qW8 : List PRes := [⟨false, .bool, []⟩]
def quP (x0 : List UInt8) (x1 x2 x3 : Int) (x4 : List UInt8) (x5 : List AV) : DT qTs :=
 .at (x0 == x4)
def qAM (x0 : List UInt8) (x1 x2 x3 : Int) (x4 : List UInt8) (x5 : List AV) : Option qTs := qaz (quP x0 x1 x2 x3 x4 x5).ev
theorem qJs (x0 : List UInt8) (x1 x2 x3 : Int) (x4 : List UInt8) (x5 : List AV) : qAM x0 x1 x2 x3 x4 x5 = (quP x0 x1 x2 x3 x4 x5).ev := qaa _
theorem q3C : FH IP 79 qV4 qW8 (k6 qAM) := qaf (F := F79) (L := []) (t := (k6 quP)) qVa (qab (l := []) (by kernel_rfl) trivial) (by kernel_rfl) (fun v => by kernel_rfl) (fun _ => qaa _)
def T82 : Tab := (79, FE qV4 qW8 (k6 qAM)) :: T81
theorem qIK : qaj IP T82 := ⟨qak q3C, qVa⟩
abbrev qje : Type := List AV × Int × Int × List UInt8 × List AV × Int × Int
def qVN : List PSt := [⟨[(1007800, .junk), (0, .view 2), (1, .fn (.func 79) [.ptr [.int .i64, .int .i64, .str, .view 4]]), (7, .int .i64), (8, .int .i64)], [], 0, 0⟩]
def q2k (x0 : List AV) (x1 x2 : Int) (x3 : List UInt8) (x4 : List AV) (x5 x6 : Int) : X × St := (X.ret, ⟨[(4, AV.int IntKind.i64 x6)], [], 0, 0⟩)
def q2l (x0 : List AV) (x1 x2 : Int) (x3 : List UInt8) (x4 : List AV) (x5 x6 : Int) : X × St := (X.exit 0, ⟨[(4, AV.junk)], [], 0, 0⟩)
def zaB : List (qje → X × St) := [(k7 q2k), (k7 q2l)]
def quv (x0 : List AV) (x1 x2 : Int) (x3 : List UInt8) (x4 : List AV) (x5 x6 : Int) : DT (Rd qje) :=
 .br (decide (x6 < x5))
 (.br (qaB [CS.str, CS.int IntKind.i64] x0 x6)
 (.bi (qAM (strOf (cellAt x0 x6 0)) (intOf (cellAt x0 x6 1)) x1 x2 x3 x4) (fun y0 =>
 .br (y0) (.at (.done 0)) (.at (.next ((x0, x1, x2, x3, x4, x5, IntKind.i64.wrap (x6 + 1))))))
 (.no))
 (.no))
 (.at (.done 1))
def qxN : qje → DT (Rd qje) := (fun v => quv v.1 v.2.1 v.2.2.1 v.2.2.2.1 v.2.2.2.2.1 v.2.2.2.2.2.1 v.2.2.2.2.2.2)
def qK0 (v : qje) : Option (Nat × qje) := qaz (qar (fun v => (qxN v).ev) v)
theorem qBA (v : qje) : qK0 v = qar (fun v => (qxN v).ev) v := qaa _
def qVU : qcJ := LE (τ := qje) (hD qVN) (qK0) zaB
theorem zas : Go.Eng.Told IP (qah F78 0).1 (qah F78 0).2 (qVU) := qax (inferInstance : Inhabited qje) (hs := qVN) (st := qxN) (L := []) qIK (qab (l := []) (by kernel_rfl) trivial) (qBA) (fun v => by kernel_rfl) (fun v => by kernel_rfl)
abbrev q2V : Type := Int
def q5A : PArgs := ⟨[.view 2, .fn (.func 79) [.ptr [.int .i64, .int .i64, .str, .view 4]]], []⟩
def q5I : List PRes := [⟨false, .int .i64, []⟩]
def qCD (x0 : List AV) (x1 x2 : Int) (x3 : List UInt8) (x4 : List AV) : DT q2V :=
 .bi (pj 0 (qK0 (x0, x1, x2, x3, x4, (x0.length : Int), 0))) (fun y0 =>
 .at (y0.2.2.2.2.2.2))
 (.bi (pj 1 (qK0 (x0, x1, x2, x3, x4, (x0.length : Int), 0))) (fun y0 =>
 .at (-1))
 (.no))
def qEL (x0 : List AV) (x1 x2 : Int) (x3 : List UInt8) (x4 : List AV) : Option q2V := qaz (qCD x0 x1 x2 x3 x4).ev
theorem qRJ (x0 : List AV) (x1 x2 : Int) (x3 : List UInt8) (x4 : List AV) : qEL x0 x1 x2 x3 x4 = (qCD x0 x1 x2 x3 x4).ev := qaa _
theorem q8h : FH IP 78 q5A q5I (k5 qEL) := qaf (F := F78) (L := [(1007800, qVU)]) (t := (k5 qCD)) qIK (qab (l := [qah F78 0]) (by kernel_rfl) ⟨qay (by kernel_rfl) zas, trivial⟩) (by kernel_rfl) (fun v => by kernel_rfl) (fun _ => qaa _)
def T83 : Tab := (78, FE q5A q5I (k5 qEL)) :: T82
theorem qVb : qaj IP T83 := ⟨qak q8h, qIK⟩
abbrev qTu : Type := Int × List AV × List AV
def qV6 : PArgs := ⟨[.ref 0 0 0, .int .i64, .int .i64, .int .i64], [(0, .box [.view 2, .own 1 0] false), (1, .arr 3 false)]⟩
def qXa : List PRes := [⟨false, .int .i64, [(0, .box [.view 2, .own 2 0] false), (2, .arr 3 false)]⟩]
def quR (x0 x1 x2 : Int) (x3 x4 : List AV) : DT qTu :=
 .br (room (x4.length + 1) 24)
 (.at ((IntKind.i64.wrap (((x4 ++ [AV.agg [AV.int IntKind.i64 x0, AV.int IntKind.i64 x1, AV.int IntKind.i64 x2]]).length : Int) - 1), x3, x4 ++ [AV.agg [AV.int IntKind.i64 x0, AV.int IntKind.i64 x1, AV.int IntKind.i64 x2]])))
 (.no)
def qer (x0 x1 x2 : Int) (x3 x4 : List AV) : Option qTu := qaz (quR x0 x1 x2 x3 x4).ev
theorem qJu (x0 x1 x2 : Int) (x3 x4 : List AV) : qer x0 x1 x2 x3 x4 = (quR x0 x1 x2 x3 x4).ev := qaa _
theorem q3E : FH IP 77 qV6 qXa (k5 qer) := qaf (F := F77) (L := []) (t := (k5 quR)) qVb (qab (l := []) (by kernel_rfl) trivial) (by kernel_rfl) (fun v => by kernel_rfl) (fun _ => qaa _)
def T84 : Tab := (77, FE qV6 qXa (k5 qer)) :: T83
theorem qVc : qaj IP T84 := ⟨qak q3E, qVb⟩
abbrev qHh : Type := List AV × List AV
def qxm : PArgs := ⟨[.ref 0 0 0, .agg [.int .i64, .int .i64, .str, .view 4]], [(0, .box [.view 2, .own 1 0] false), (1, .arr 3 false)]⟩
def qxp : List PRes := [⟨false, .tup [], [(0, .box [.view 2, .own 2 0] false), (2, .arr 3 false)]⟩]
abbrev qdK : Type := Int → Int → (List UInt8) → (List AV) → (List AV) → (List AV) → Option qHh
def qyp (G_u22q : qdK) : Prop := FH IP 46 qxm qxp (k6 G_u22q)
def qYk (G_u22q : qdK) : Tab := (46, FE qxm qxp (k6 G_u22q)) :: T84
theorem qrq (G_u22q : qdK) (hG : qyp G_u22q) : qaj IP (qYk G_u22q) := ⟨qak (hG), qVc⟩
abbrev qe5 : Type := (List AV × Int × Int × List AV × List AV × Int × Int × List UInt8 × List AV) ⊕ (List AV × Int × Int × List AV × Int × Int × List UInt8 × List AV × List AV)
def qKA : List PSt := [⟨[(1004600, .junk), (0, .ref 0 0 0), (3, .ref 2 0 0), (11, .view 4), (12, .int .i64), (13, .int .i64)], [(0, .box [.view 2, .own 1 0] false), (1, .arr 3 false), (2, .box [.int .i64, .int .i64, .str, .view 4] false)], 3, 2⟩, ⟨[(1004600, .junk), (0, .ref 0 0 0), (3, .ref 2 0 0), (11, .view 4), (12, .int .i64), (13, .int .i64)], [(0, .box [.view 2, .own 3 0] false), (2, .box [.int .i64, .int .i64, .str, .view 4] false), (3, .arr 3 false)], 4, 2⟩]
def qSH (x0 : List AV) (x1 x2 : Int) (x3 x4 : List AV) (x5 x6 : Int) (x7 : List UInt8) (x8 : List AV) : X × St := (X.exit 1,
 ⟨[(0, AV.ref 0 0 0), (3, AV.ref 2 0 0)], [(0, Blk.box [AV.view 2 x3, AV.own 1 0 none] false), (1, Blk.arr 3 x4 false), (2, Blk.box [AV.int IntKind.i64 x5, AV.int IntKind.i64 x6, AV.str x7, AV.view 4 x8] false)], 3, 2⟩)
def qSI (x0 : List AV) (x1 x2 : Int) (x3 : List AV) (x4 x5 : Int) (x6 : List UInt8) (x7 x8 : List AV) : X × St := (X.exit 1,
 ⟨[(0, AV.ref 0 0 0), (3, AV.ref 2 0 0)], [(0, Blk.box [AV.view 2 x3, AV.own 3 0 none] false), (2, Blk.box [AV.int IntKind.i64 x4, AV.int IntKind.i64 x5, AV.str x6, AV.view 4 x7] false), (3, Blk.arr 3 x8 false)], 4, 2⟩)
def q6q : List (qe5 → X × St) := [fun w => (k9 qSH) ((sl w)), fun w => (k9 qSI) ((sr w))]
def qqj (G_u22q : qdK) (x0 : List AV) (x1 x2 : Int) (x3 x4 : List AV) (x5 x6 : Int) (x7 : List UInt8) (x8 : List AV) : DT (Rd qe5) :=
 .br (decide (x2 < x1))
 (.br (qaB [CS.int IntKind.i64, CS.int IntKind.i64, CS.str, CS.slice 4] x0 x2)
 (.bi (G_u22q (intOf (cellAt x0 x2 0)) (intOf (cellAt x0 x2 1)) (strOf (cellAt x0 x2 2)) (qal (cellAt x0 x2 3)) x3 x4) (fun y0 =>
 .at (.next ((.inr (x0, x1, IntKind.i64.wrap (x2 + 1), y0.1, x5, x6, x7, x8, y0.2)))))
 (.no))
 (.no))
 (.at (.done 0))
def qjR (G_u22q : qdK) (x0 : List AV) (x1 x2 : Int) (x3 : List AV) (x4 x5 : Int) (x6 : List UInt8) (x7 x8 : List AV) : DT (Rd qe5) :=
 .br (decide (x2 < x1))
 (.br (qaB [CS.int IntKind.i64, CS.int IntKind.i64, CS.str, CS.slice 4] x0 x2)
 (.bi (G_u22q (intOf (cellAt x0 x2 0)) (intOf (cellAt x0 x2 1)) (strOf (cellAt x0 x2 2)) (qal (cellAt x0 x2 3)) x3 x8) (fun y0 =>
 .at (.next ((.inr (x0, x1, IntKind.i64.wrap (x2 + 1), y0.1, x4, x5, x6, x7, y0.2)))))
 (.no))
 (.no))
 (.at (.done 1))
def qhj (G_u22q : qdK) : qe5 → DT (Rd qe5) := (Sum.elim (fun v => qqj G_u22q v.1 v.2.1 v.2.2.1 v.2.2.2.1 v.2.2.2.2.1 v.2.2.2.2.2.1 v.2.2.2.2.2.2.1 v.2.2.2.2.2.2.2.1 v.2.2.2.2.2.2.2.2) (fun v => qjR G_u22q v.1 v.2.1 v.2.2.1 v.2.2.2.1 v.2.2.2.2.1 v.2.2.2.2.2.1 v.2.2.2.2.2.2.1 v.2.2.2.2.2.2.2.1 v.2.2.2.2.2.2.2.2))
def qsq (G_u22q : qdK) (v : qe5) : Option (Nat × qe5) := qaz (qar (fun v => (qhj G_u22q v).ev) v)
theorem qph (G_u22q : qdK) (v : qe5) : qsq G_u22q v = qar (fun v => (qhj G_u22q v).ev) v := qaa _
def qK6 (G_u22q : qdK) : qcJ := LE (τ := qe5) (hD qKA) (qsq G_u22q) q6q
theorem q5Y (G_u22q : qdK) (hG : qyp G_u22q) : Go.Eng.Told IP (qah F46 0).1 (qah F46 0).2 (qK6 G_u22q) := qax (inferInstance : Inhabited qe5) (hs := qKA) (st := qhj G_u22q) (L := []) (qrq G_u22q hG) (qab (l := []) (by kernel_rfl) trivial) (qph G_u22q) (fun v => match v with | (.inl v) => by kernel_rfl | (.inr v) => by kernel_rfl) (fun v => match v with | (.inl v) => by kernel_rfl | (.inr v) => by kernel_rfl)
def qAl (G_u22q : qdK) (x0 x1 : Int) (x2 : List UInt8) (x3 x4 x5 : List AV) : DT qHh :=
 .br (x0 == 1)
 (.bi (qer 1 1 x1 x4 x5) (fun y0 =>
 .at ((y0.2.1, y0.2.2)))
 (.no))
 (.br (x0 == 2)
 (.bi (qer 1 2 x1 x4 x5) (fun y0 =>
 .at ((y0.2.1, y0.2.2)))
 (.no))
 (.br (x0 == 3)
 (.bi (qer 1 3 x1 x4 x5) (fun y0 =>
 .at ((y0.2.1, y0.2.2)))
 (.no))
 (.br (x0 == 4)
 (.bi (qEL x4 x0 x1 x2 x3) (fun y0 =>
 .bi (qer 2 y0 0 x4 x5) (fun y1 =>
 .at ((y1.2.1, y1.2.2)))
 (.no))
 (.no))
 (.br (x0 == 19)
 (.br (qaB [CS.int IntKind.i64, CS.int IntKind.i64, CS.str, CS.slice 4] x3 0)
 (.bi (G_u22q (intOf (cellAt x3 0 0)) (intOf (cellAt x3 0 1)) (strOf (cellAt x3 0 2)) (qal (cellAt x3 0 3)) x4 x5) (fun y0 =>
 .bi (qer 5 0 0 y0.1 y0.2) (fun y1 =>
 .br (qaB [CS.int IntKind.i64, CS.int IntKind.i64, CS.str, CS.slice 4] x3 1)
 (.bi (G_u22q (intOf (cellAt x3 1 0)) (intOf (cellAt x3 1 1)) (strOf (cellAt x3 1 2)) (qal (cellAt x3 1 3)) y1.2.1 y1.2.2) (fun y2 =>
 .bi (qer 4 0 0 y2.1 y2.2) (fun y3 =>
 .br (inB y3.2.2.length y1.1)
 (.br (okS y3.2.2 y1.1.toNat 1 1)
 (.br (qaB [CS.int IntKind.i64, CS.int IntKind.i64, CS.str, CS.slice 4] x3 2)
 (.bi (G_u22q (intOf (cellAt x3 2 0)) (intOf (cellAt x3 2 1)) (strOf (cellAt x3 2 2)) (qal (cellAt x3 2 3)) y3.2.1
 (qgK y3.2.2 y1.1.toNat 1 [AV.int IntKind.i64 (y3.2.2.length : Int)])) (fun y4 =>
 .br (inB y4.2.length y3.1)
 (.br (okS y4.2 y3.1.toNat 1 1) (.at ((y4.1, qgK y4.2 y3.1.toNat 1 [AV.int IntKind.i64 (y4.2.length : Int)]))) (.no))
 (.no))
 (.no))
 (.no))
 (.no))
 (.no))
 (.no))
 (.no))
 (.no))
 (.no))
 (.no))
 (.no))
 (.bi (pj 0 (qsq G_u22q (Sum.inl (x3, (x3.length : Int), 0, x4, x5, x0, x1, x2, x3)))) (fun y0 =>
 .bi (qer 3 (sl y0).2.2.2.2.2.1 0 (sl y0).2.2.2.1 (sl y0).2.2.2.2.1) (fun y1 =>
 .at ((y1.2.1, y1.2.2)))
 (.no))
 (.bi (pj 1 (qsq G_u22q (Sum.inl (x3, (x3.length : Int), 0, x4, x5, x0, x1, x2, x3)))) (fun y0 =>
 .bi (qer 3 (sr y0).2.2.2.2.1 0 (sr y0).2.2.2.1 (sr y0).2.2.2.2.2.2.2.2) (fun y1 =>
 .at ((y1.2.1, y1.2.2)))
 (.no))
 (.no)))))))
def qgD : Nat → qdK
 | 0 => fun _ _ _ _ _ _ => none
 | n + 1 => fun x0 x1 x2 x3 x4 x5 => (qAl ((qgD n)) x0 x1 x2 x3 x4 x5).ev
def qrJ (x0 x1 : Int) (x2 : List UInt8) (x3 x4 x5 : List AV) : Option qHh := qlO fun n => (qgD n) x0 x1 x2 x3 x4 x5
theorem qvU : ∀ n, qyp ((qgD n))
 | 0 => (fun v y h => nomatch h)
 | n + 1 => have hG := qvU n
 qaf (F := F46) (L := [(1004600, qK6 ((qgD n)))]) (t := (k6 (qAl ((qgD n))))) (qrq ((qgD n)) hG) (qab (l := [qah F46 0]) (by kernel_rfl) ⟨qay (by kernel_rfl) (q5Y ((qgD n)) hG), trivial⟩) (by kernel_rfl) (fun v => by kernel_rfl) (fun v => rfl)
theorem q3F : FH IP 46 qxm qxp (k6 qrJ) := qcz (p := qxm) (rs := qxp) (s := fun n => (k6 ((qgD n)))) fun n => (qvU n)
def T85 : Tab := (46, FE qxm qxp (k6 qrJ)) :: T84
theorem qVd : qaj IP T85 := ⟨qak q3F, qVc⟩
abbrev qHn : Type := List AV × List AV
def qxn : PArgs := ⟨[.ref 0 0 0, .agg [.int .i64, .int .i64, .str, .view 4]], [(0, .box [.view 2, .nils 3] false)]⟩
def qxq : List PRes := [⟨false, .tup [], [(0, .box [.view 2, .own 1 0] false), (1, .arr 3 false)]⟩]
abbrev qdL : Type := Int → Int → (List UInt8) → (List AV) → (List AV) → Option qHn
def qyq (G_u24q : qdL) : Prop := FH IP 46 qxn qxq (k5 G_u24q)
def qYl (G_u24q : qdL) : Tab := (46, FE qxn qxq (k5 G_u24q)) :: T85
theorem qrr (G_u24q : qdL) (hG : qyq G_u24q) : qaj IP (qYl G_u24q) := ⟨qak (hG), qVd⟩
abbrev qe6 : Type := (List AV × Int × Int × List AV × Int × Int × List UInt8 × List AV) ⊕ (List AV × Int × Int × List AV × Int × Int × List UInt8 × List AV × List AV)
def qKB : List PSt := [⟨[(1004600, .junk), (0, .ref 0 0 0), (3, .ref 1 0 0), (11, .view 4), (12, .int .i64), (13, .int .i64)], [(0, .box [.view 2, .nils 3] false), (1, .box [.int .i64, .int .i64, .str, .view 4] false)], 2, 1⟩, ⟨[(1004600, .junk), (0, .ref 0 0 0), (3, .ref 1 0 0), (11, .view 4), (12, .int .i64), (13, .int .i64)], [(0, .box [.view 2, .own 2 0] false), (1, .box [.int .i64, .int .i64, .str, .view 4] false), (2, .arr 3 false)], 3, 1⟩]
def qSJ (x0 : List AV) (x1 x2 : Int) (x3 : List AV) (x4 x5 : Int) (x6 : List UInt8) (x7 : List AV) : X × St := (X.exit 1,
 ⟨[(0, AV.ref 0 0 0), (3, AV.ref 1 0 0)], [(0, Blk.box [AV.view 2 x3, AV.nils ⟨3, NKd.nil⟩] false), (1, Blk.box [AV.int IntKind.i64 x4, AV.int IntKind.i64 x5, AV.str x6, AV.view 4 x7] false)], 2, 1⟩)
def qSK (x0 : List AV) (x1 x2 : Int) (x3 : List AV) (x4 x5 : Int) (x6 : List UInt8) (x7 x8 : List AV) : X × St := (X.exit 1,
 ⟨[(0, AV.ref 0 0 0), (3, AV.ref 1 0 0)], [(0, Blk.box [AV.view 2 x3, AV.own 2 0 none] false), (1, Blk.box [AV.int IntKind.i64 x4, AV.int IntKind.i64 x5, AV.str x6, AV.view 4 x7] false), (2, Blk.arr 3 x8 false)], 3, 1⟩)
def q6r : List (qe6 → X × St) := [fun w => (k8 qSJ) ((sl w)), fun w => (k9 qSK) ((sr w))]
def qqk (G_u24q : qdL) (x0 : List AV) (x1 x2 : Int) (x3 : List AV) (x4 x5 : Int) (x6 : List UInt8) (x7 : List AV) : DT (Rd qe6) :=
 .br (decide (x2 < x1))
 (.br (qaB [CS.int IntKind.i64, CS.int IntKind.i64, CS.str, CS.slice 4] x0 x2)
 (.bi (G_u24q (intOf (cellAt x0 x2 0)) (intOf (cellAt x0 x2 1)) (strOf (cellAt x0 x2 2)) (qal (cellAt x0 x2 3)) x3) (fun y0 =>
 .at (.next ((.inr (x0, x1, IntKind.i64.wrap (x2 + 1), y0.1, x4, x5, x6, x7, y0.2)))))
 (.no))
 (.no))
 (.at (.done 0))
def qjS (G_u24q : qdL) (x0 : List AV) (x1 x2 : Int) (x3 : List AV) (x4 x5 : Int) (x6 : List UInt8) (x7 x8 : List AV) : DT (Rd qe6) :=
 .br (decide (x2 < x1))
 (.br (qaB [CS.int IntKind.i64, CS.int IntKind.i64, CS.str, CS.slice 4] x0 x2)
 (.bi (qrJ (intOf (cellAt x0 x2 0)) (intOf (cellAt x0 x2 1)) (strOf (cellAt x0 x2 2)) (qal (cellAt x0 x2 3)) x3 x8) (fun y0 =>
 .at (.next ((.inr (x0, x1, IntKind.i64.wrap (x2 + 1), y0.1, x4, x5, x6, x7, y0.2)))))
 (.no))
 (.no))
 (.at (.done 1))
def qhk (G_u24q : qdL) : qe6 → DT (Rd qe6) := (Sum.elim (fun v => qqk G_u24q v.1 v.2.1 v.2.2.1 v.2.2.2.1 v.2.2.2.2.1 v.2.2.2.2.2.1 v.2.2.2.2.2.2.1 v.2.2.2.2.2.2.2) (fun v => qjS G_u24q v.1 v.2.1 v.2.2.1 v.2.2.2.1 v.2.2.2.2.1 v.2.2.2.2.2.1 v.2.2.2.2.2.2.1 v.2.2.2.2.2.2.2.1 v.2.2.2.2.2.2.2.2))
def qsr (G_u24q : qdL) (v : qe6) : Option (Nat × qe6) := qaz (qar (fun v => (qhk G_u24q v).ev) v)
theorem qpi (G_u24q : qdL) (v : qe6) : qsr G_u24q v = qar (fun v => (qhk G_u24q v).ev) v := qaa _
def qK7 (G_u24q : qdL) : qcJ := LE (τ := qe6) (hD qKB) (qsr G_u24q) q6r
theorem q5Z (G_u24q : qdL) (hG : qyq G_u24q) : Go.Eng.Told IP (qah F46 0).1 (qah F46 0).2 (qK7 G_u24q) := qax (inferInstance : Inhabited qe6) (hs := qKB) (st := qhk G_u24q) (L := []) (qrr G_u24q hG) (qab (l := []) (by kernel_rfl) trivial) (qpi G_u24q) (fun v => match v with | (.inl v) => by kernel_rfl | (.inr v) => by kernel_rfl) (fun v => match v with | (.inl v) => by kernel_rfl | (.inr v) => by kernel_rfl)
def qAm (G_u24q : qdL) (x0 x1 : Int) (x2 : List UInt8) (x3 x4 : List AV) : DT qHn :=
 .br (x0 == 1)
 (.bi (qjj 1 1 x1 x4) (fun y0 =>
 .at ((y0.2.1, y0.2.2)))
 (.no))
 (.br (x0 == 2)
 (.bi (qjj 1 2 x1 x4) (fun y0 =>
 .at ((y0.2.1, y0.2.2)))
 (.no))
 (.br (x0 == 3)
 (.bi (qjj 1 3 x1 x4) (fun y0 =>
 .at ((y0.2.1, y0.2.2)))
 (.no))
 (.br (x0 == 4)
 (.bi (qEL x4 x0 x1 x2 x3) (fun y0 =>
 .bi (qjj 2 y0 0 x4) (fun y1 =>
 .at ((y1.2.1, y1.2.2)))
 (.no))
 (.no))
 (.br (x0 == 19)
 (.br (qaB [CS.int IntKind.i64, CS.int IntKind.i64, CS.str, CS.slice 4] x3 0)
 (.bi (G_u24q (intOf (cellAt x3 0 0)) (intOf (cellAt x3 0 1)) (strOf (cellAt x3 0 2)) (qal (cellAt x3 0 3)) x4) (fun y0 =>
 .bi (qer 5 0 0 y0.1 y0.2) (fun y1 =>
 .br (qaB [CS.int IntKind.i64, CS.int IntKind.i64, CS.str, CS.slice 4] x3 1)
 (.bi (qrJ (intOf (cellAt x3 1 0)) (intOf (cellAt x3 1 1)) (strOf (cellAt x3 1 2)) (qal (cellAt x3 1 3)) y1.2.1 y1.2.2) (fun y2 =>
 .bi (qer 4 0 0 y2.1 y2.2) (fun y3 =>
 .br (inB y3.2.2.length y1.1)
 (.br (okS y3.2.2 y1.1.toNat 1 1)
 (.br (qaB [CS.int IntKind.i64, CS.int IntKind.i64, CS.str, CS.slice 4] x3 2)
 (.bi (qrJ (intOf (cellAt x3 2 0)) (intOf (cellAt x3 2 1)) (strOf (cellAt x3 2 2)) (qal (cellAt x3 2 3)) y3.2.1
 (qgK y3.2.2 y1.1.toNat 1 [AV.int IntKind.i64 (y3.2.2.length : Int)])) (fun y4 =>
 .br (inB y4.2.length y3.1)
 (.br (okS y4.2 y3.1.toNat 1 1) (.at ((y4.1, qgK y4.2 y3.1.toNat 1 [AV.int IntKind.i64 (y4.2.length : Int)]))) (.no))
 (.no))
 (.no))
 (.no))
 (.no))
 (.no))
 (.no))
 (.no))
 (.no))
 (.no))
 (.no))
 (.no))
 (.bi (pj 0 (qsr G_u24q (Sum.inl (x3, (x3.length : Int), 0, x4, x0, x1, x2, x3)))) (fun y0 =>
 .bi (qjj 3 (sl y0).2.2.2.2.1 0 (sl y0).2.2.2.1) (fun y1 =>
 .at ((y1.2.1, y1.2.2)))
 (.no))
 (.bi (pj 1 (qsr G_u24q (Sum.inl (x3, (x3.length : Int), 0, x4, x0, x1, x2, x3)))) (fun y0 =>
 .bi (qer 3 (sr y0).2.2.2.2.1 0 (sr y0).2.2.2.1 (sr y0).2.2.2.2.2.2.2.2) (fun y1 =>
 .at ((y1.2.1, y1.2.2)))
 (.no))
 (.no)))))))
def qgE : Nat → qdL
 | 0 => fun _ _ _ _ _ => none
 | n + 1 => fun x0 x1 x2 x3 x4 => (qAm ((qgE n)) x0 x1 x2 x3 x4).ev
def qAN (x0 x1 : Int) (x2 : List UInt8) (x3 x4 : List AV) : Option qHn := qlO fun n => (qgE n) x0 x1 x2 x3 x4
theorem qvV : ∀ n, qyq ((qgE n))
 | 0 => (fun v y h => nomatch h)
 | n + 1 => have hG := qvV n
 qaf (F := F46) (L := [(1004600, qK7 ((qgE n)))]) (t := (k5 (qAm ((qgE n))))) (qrr ((qgE n)) hG) (qab (l := [qah F46 0]) (by kernel_rfl) ⟨qay (by kernel_rfl) (q5Z ((qgE n)) hG), trivial⟩) (by kernel_rfl) (fun v => by kernel_rfl) (fun v => rfl)
theorem q3H : FH IP 46 qxn qxq (k5 qAN) := qcz (p := qxn) (rs := qxq) (s := fun n => (k5 ((qgE n)))) fun n => (qvV n)
def T86 : Tab := (46, FE qxn qxq (k5 qAN)) :: T85
theorem qVe : qaj IP T86 := ⟨qak q3H, qVd⟩
abbrev qUj : Type := Int × List AV × List AV × Int
def qWZ : PArgs := ⟨[.agg [.int .i64, .int .i64, .str, .view 4], .view 2], []⟩
def qX3 : List PRes := [⟨false, .tup [.agg [.int .i64, .view 2, .view 3], .int .i64], []⟩]
def qvI (x0 x1 : Int) (x2 : List UInt8) (x3 x4 : List AV) : DT qUj :=
 .bi (qix x4) (fun y0 =>
 .br (y0 != 0)
 (.at ((0, [], [], y0)))
 (.bi (qiF x0 x1 x2 x3 x4) (fun y1 =>
 .br (y1.2 != 0)
 (.at ((0, [], [], y1.2)))
 (.bi (qAN x0 x1 x2 x3 x4) (fun y2 =>
 .br (decide (x4.length = 0))
 (.at ((y1.1, [], y2.2, 0)))
 (.br (decide (x4.length ≠ 0) && decide (x4.length * 24 ≤ lim)) (.at ((y1.1, x4, y2.2, 0))) (.no)))
 (.no)))
 (.no)))
 (.no)
def qoQ (x0 x1 : Int) (x2 : List UInt8) (x3 x4 : List AV) : Option qUj := qaz (qvI x0 x1 x2 x3 x4).ev
theorem qKl (x0 x1 : Int) (x2 : List UInt8) (x3 x4 : List AV) : qoQ x0 x1 x2 x3 x4 = (qvI x0 x1 x2 x3 x4).ev := qaa _
theorem q4u : FH IP 19 qWZ qX3 (k5 qoQ) := qaf (F := F19) (L := []) (t := (k5 qvI)) qVe (qab (l := []) (by kernel_rfl) trivial) (by kernel_rfl) (fun v => by kernel_rfl) (fun _ => qaa _)
def T87 : Tab := (19, FE qWZ qX3 (k5 qoQ)) :: T86
theorem qIL : qaj IP T87 := ⟨qak q4u, qVe⟩
abbrev qfM : Type := List AV × List AV × Int × Int
def qKz : List PSt := [⟨[(1013800, .junk), (0, .view 1), (1, .view 1), (12, .int .i64), (13, .int .i64)], [], 0, 0⟩]
def qSF (x0 x1 : List AV) (x2 x3 : Int) : X × St := (X.ret, ⟨[(4, AV.bool false)], [], 0, 0⟩)
def qSG (x0 x1 : List AV) (x2 x3 : Int) : X × St := (X.exit 0, ⟨[(4, AV.junk)], [], 0, 0⟩)
def q6p : List (qfM → X × St) := [(k4 qSF), (k4 qSG)]
def qqi (x0 x1 : List AV) (x2 x3 : Int) : DT (Rd qfM) :=
 .br (decide (x3 < x2))
 (.br (qaB [CS.int IntKind.i64] x0 x3)
 (.br (qaB [CS.int IntKind.i64] x1 x3)
 (.br (intOf (cellAt x0 x3 0) != intOf (cellAt x1 x3 0)) (.at (.done 0)) (.at (.next ((x0, x1, x2, IntKind.i64.wrap (x3 + 1))))))
 (.no))
 (.no))
 (.at (.done 1))
def qqh : qfM → DT (Rd qfM) := (fun v => qqi v.1 v.2.1 v.2.2.1 v.2.2.2)
def qwH (v : qfM) : Option (Nat × qfM) := qaz (qar (fun v => (qqh v).ev) v)
theorem qwI (v : qfM) : qwH v = qar (fun v => (qqh v).ev) v := qaa _
def qK5 : qcJ := LE (τ := qfM) (hD qKz) (qwH) q6p
theorem q5X : Go.Eng.Told IP (qah q2w 0).1 (qah q2w 0).2 (qK5) := qax (inferInstance : Inhabited qfM) (hs := qKz) (st := qqh) (L := []) qIL (qab (l := []) (by kernel_rfl) trivial) (qwI) (fun v => by kernel_rfl) (fun v => by kernel_rfl)
abbrev qTt : Type := Bool
def qV5 : PArgs := ⟨[.view 1, .view 1], []⟩
def qW9 : List PRes := [⟨false, .bool, []⟩]
def quQ (x0 x1 : List AV) : DT qTt :=
 .br ((x0.length : Int) != (x1.length : Int))
 (.at (false))
 (.bi (pj 0 (qwH (x0, x1, (x0.length : Int), 0))) (fun y0 =>
 .at (false))
 (.bi (pj 1 (qwH (x0, x1, (x0.length : Int), 0))) (fun y0 =>
 .at (true))
 (.no)))
def qrH (x0 x1 : List AV) : Option qTt := qaz (quQ x0 x1).ev
theorem qJt (x0 x1 : List AV) : qrH x0 x1 = (quQ x0 x1).ev := qaa _
theorem q3D : FH IP 138 qV5 qW9 (k2 qrH) := qaf (F := q2w) (L := [(1013800, qK5)]) (t := (k2 quQ)) qIL (qab (l := [qah q2w 0]) (by kernel_rfl) ⟨qay (by kernel_rfl) q5X, trivial⟩) (by kernel_rfl) (fun v => by kernel_rfl) (fun _ => qaa _)
def T88 : Tab := (138, FE qV5 qW9 (k2 qrH)) :: T87
theorem qVf : qaj IP T88 := ⟨qak q3D, qIL⟩
abbrev qTz : Type := Int × List AV × List AV × Int × List AV × List AV
def qWb : PArgs := ⟨[.ref 0 0 0, .int .i64, .view 1], [(0, .box [.int .i64, .view 2, .view 3, .own 1 0, .int .i64, .own 2 0] false), (1, .arr 2 false), (2, .arr 1 false)]⟩
def qXf : List PRes := [⟨false, .tup [], [(0, .box [.int .i64, .view 2, .view 3, .own 1 0, .int .i64, .own 2 0] false), (1, .arr 2 false), (2, .arr 1 false)]⟩]
def quW (x0 : Int) (x1 : List AV) (x2 : Int) (x3 x4 : List AV) (x5 : Int) (x6 x7 : List AV) : DT qTz :=
 .br (inB x6.length x0)
 (.br (okP [CS.bool] x6 x0.toNat 0)
 (.bi (br (qcd (qaD x6 x0.toNat 0))
 (br (okP [CS.slice 1] x6 x0.toNat 1)
 (br (sm (qrH (qal (qaD x6 x0.toNat 1)) x1)) (some !gv (qrH (qal (qaD x6 x0.toNat 1)) x1)) none) none)
 (some false)) (fun y0 =>
 .br (y0)
 (.br (inB x7.length x0)
 (.br (okS x7 x0.toNat 0 1)
 (.br (okP [CS.bool] x6 x0.toNat 0)
 (.br (!qcd (qaD x6 x0.toNat 0))
 (.br (decide (x1.length = 0))
 (.br (okS x6 x0.toNat 0 2) (.at ((x2, x3, x4, x5, qgK x6 x0.toNat 0 [AV.bool true, AV.view 1 []], qgK x7 x0.toNat 0 [AV.bool true]))) (.no))
 (.br (decide (x1.length ≠ 0) && decide (x1.length * 8 ≤ lim))
 (.br (okS x6 x0.toNat 0 2) (.at ((x2, x3, x4, x5, qgK x6 x0.toNat 0 [AV.bool true, AV.view 1 x1], qgK x7 x0.toNat 0 [AV.bool true]))) (.no))
 (.no)))
 (.at ((x2, x3, x4, x5, x6, qgK x7 x0.toNat 0 [AV.bool true]))))
 (.no))
 (.no))
 (.no))
 (.br (okP [CS.bool] x6 x0.toNat 0)
 (.br (!qcd (qaD x6 x0.toNat 0))
 (.br (decide (x1.length = 0))
 (.br (okS x6 x0.toNat 0 2) (.at ((x2, x3, x4, x5, qgK x6 x0.toNat 0 [AV.bool true, AV.view 1 []], x7))) (.no))
 (.br (decide (x1.length ≠ 0) && decide (x1.length * 8 ≤ lim))
 (.br (okS x6 x0.toNat 0 2) (.at ((x2, x3, x4, x5, qgK x6 x0.toNat 0 [AV.bool true, AV.view 1 x1], x7))) (.no))
 (.no)))
 (.at ((x2, x3, x4, x5, x6, x7))))
 (.no)))
 (.no))
 (.no))
 (.no)
def qjk (x0 : Int) (x1 : List AV) (x2 : Int) (x3 x4 : List AV) (x5 : Int) (x6 x7 : List AV) : Option qTz := qaz (quW x0 x1 x2 x3 x4 x5 x6 x7).ev
theorem qJz (x0 : Int) (x1 : List AV) (x2 : Int) (x3 x4 : List AV) (x5 : Int) (x6 x7 : List AV) : qjk x0 x1 x2 x3 x4 x5 x6 x7 = (quW x0 x1 x2 x3 x4 x5 x6 x7).ev := qaa _
theorem q3L : FH IP 128 qWb qXf (k8 qjk) := qaf (F := q7t) (L := []) (t := (k8 quW)) qVf (qab (l := []) (by kernel_rfl) trivial) (by kernel_rfl) (fun v => by kernel_rfl) (fun _ => qaa _)
def T89 : Tab := (128, FE qWb qXf (k8 qjk)) :: T88
theorem qVg : qaj IP T89 := ⟨qak q3L, qVf⟩
abbrev qTR : Type := Bool
def qWu : PArgs := ⟨[.agg [.int .i64, .int .i64, .int .i64]], []⟩
def qXy : List PRes := [⟨false, .bool, []⟩]
def qvd (x0 x1 x2 : Int) : DT qTR :=
 .br (x1 == 1)
 (.at (decide (x2 ≥ 0)))
 (.br (x1 == 2)
 (.bi (br (decide (x2 ≥ 0)) (some (decide (x2 ≤ 1000000000000))) (some false)) (fun y0 =>
 .at (y0))
 (.no))
 (.br (x1 == 3)
 (.bi (br (decide (x2 ≥ 0)) (some (decide (x2 ≤ 1000000))) (some false)) (fun y0 =>
 .at (y0))
 (.no))
 (.at (false))))
def qrS (x0 x1 x2 : Int) : Option qTR := qaz (qvd x0 x1 x2).ev
theorem qJQ (x0 x1 x2 : Int) : qrS x0 x1 x2 = (qvd x0 x1 x2).ev := qaa _
theorem q30 : FH IP 140 qWu qXy (k3 qrS) := qaf (F := q7B) (L := []) (t := (k3 qvd)) qVg (qab (l := []) (by kernel_rfl) trivial) (by kernel_rfl) (fun v => by kernel_rfl) (fun _ => qaa _)
def T90 : Tab := (140, FE qWu qXy (k3 qrS)) :: T89
theorem qVh : qaj IP T90 := ⟨qak q30, qVg⟩
abbrev qHt : Type := List AV × Bool
def qW1 : PArgs := ⟨[.int .i64, .view 1], []⟩
def qX5 : List PRes := [⟨false, .tup [.view 1, .bool], []⟩]
def qvK (x0 : Int) (x1 : List AV) : DT qHt :=
 .bi (br (x0 == 9) (some true) (some (x0 == 16))) (fun y0 =>
 .br (y0)
 (.bi (br (decide (x0 < 5)) (some true) (some (decide (x0 > 18)))) (fun y1 =>
 .bi (br y1 (some true) (some (decide (IntKind.i64.wrap ((x1.length : Int) - 1) < 0)))) (fun y2 =>
 .br (y2)
 (.at (([], false)))
 (.br (leB (IntKind.i64.wrap ((x1.length : Int) - 1)) x1.length)
 (.bi (qcZ x0 (List.drop (IntKind.i64.wrap ((x1.length : Int) - 1)).toNat x1)) (fun y3 =>
 .br (leB (IntKind.i64.wrap ((x1.length : Int) - 1)) x1.length && true)
 (.br (decide ((List.take (IntKind.i64.wrap ((x1.length : Int) - 1)).toNat x1).length = 0))
 (.at (([AV.int IntKind.i64 y3.1], y3.2)))
 (.br (decide ((List.take (IntKind.i64.wrap ((x1.length : Int) - 1)).toNat x1).length ≠ 0) && decide ((List.take (IntKind.i64.wrap ((x1.length : Int) - 1)).toNat x1).length * 8 ≤ lim))
 (.br (room ((List.take (IntKind.i64.wrap ((x1.length : Int) - 1)).toNat x1).length + 1) 8)
 (.at ((List.take (IntKind.i64.wrap ((x1.length : Int) - 1)).toNat x1 ++ [AV.int IntKind.i64 y3.1], y3.2)))
 (.no))
 (.no)))
 (.no))
 (.no))
 (.no)))
 (.no))
 (.no))
 (.bi (br (decide (x0 < 5)) (some true) (some (decide (x0 > 18)))) (fun y1 =>
 .bi (br y1 (some true) (some (decide (IntKind.i64.wrap ((x1.length : Int) - 2) < 0)))) (fun y2 =>
 .br (y2)
 (.at (([], false)))
 (.br (leB (IntKind.i64.wrap ((x1.length : Int) - 2)) x1.length)
 (.bi (qcZ x0 (List.drop (IntKind.i64.wrap ((x1.length : Int) - 2)).toNat x1)) (fun y3 =>
 .br (leB (IntKind.i64.wrap ((x1.length : Int) - 2)) x1.length && true)
 (.br (decide ((List.take (IntKind.i64.wrap ((x1.length : Int) - 2)).toNat x1).length = 0))
 (.at (([AV.int IntKind.i64 y3.1], y3.2)))
 (.br (decide ((List.take (IntKind.i64.wrap ((x1.length : Int) - 2)).toNat x1).length ≠ 0) && decide ((List.take (IntKind.i64.wrap ((x1.length : Int) - 2)).toNat x1).length * 8 ≤ lim))
 (.br (room ((List.take (IntKind.i64.wrap ((x1.length : Int) - 2)).toNat x1).length + 1) 8)
 (.at ((List.take (IntKind.i64.wrap ((x1.length : Int) - 2)).toNat x1 ++ [AV.int IntKind.i64 y3.1], y3.2)))
 (.no))
 (.no)))
 (.no))
 (.no))
 (.no)))
 (.no))
 (.no)))
 (.no)
def qwA (x0 : Int) (x1 : List AV) : Option qHt := qaz (qvK x0 x1).ev
theorem qKn (x0 : Int) (x1 : List AV) : qwA x0 x1 = (qvK x0 x1).ev := qaa _
theorem q4w : FH IP 141 qW1 qX5 (k2 qwA) := qaf (F := q7C) (L := []) (t := (k2 qvK)) qVh (qab (l := []) (by kernel_rfl) trivial) (by kernel_rfl) (fun v => by kernel_rfl) (fun _ => qaa _)
def T91 : Tab := (141, FE qW1 qX5 (k2 qwA)) :: T90
theorem qVi : qaj IP T91 := ⟨qak q4w, qVh⟩
end
end Go.Proofs.H13

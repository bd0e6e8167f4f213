/- Functions over plain data. Printed by a program of mine. -/
import Derived.Test.YthljpgljbpdmjaaGreatDoorD15c_7
import Derived.KernelRfl
set_option linter.unusedVariables false
set_option linter.unusedSimpArgs false
set_option linter.unnecessarySimpa false
namespace Go.Proofs.H15c
open Go Go.Eng
set_option maxRecDepth 100000
noncomputable section
def qpF (G_u168q : qa2) (x0 x1 : Int) (x2 : List UInt8) (x3 x4 : List AV) : DT qfW :=
 .br (x0 == 1)
 (.at ((1, 0)))
 (.br (x0 == 2)
 (.at ((2, 0)))
 (.br (x0 == 3)
 (.at ((3, 0)))
 (.br (x0 == 4)
 (.bi (pj 0 (qeW (x4, 0, x0, x1, x2, x3))) (fun y0 =>
 .at ((intOf (cellAt y0.1 y0.2.1 1), 0)))
 (.bi (pj 1 (qeW (x4, 0, x0, x1, x2, x3))) (fun y0 =>
 .at ((0, 3)))
 (.bi (pj 2 (qeW (x4, 0, x0, x1, x2, x3))) (fun y0 =>
 .at ((0, 4)))
 (.no))))
 (.bi (pj 0 (qeX G_u168q (Sum.inl (x4, 0, x0, x1, x2, x3)))) (fun y0 =>
 .at ((0, (gv
 (G_u168q (intOf (cellAt (sl y0).2.2.2.2.2 (sl y0).2.1 0)) (intOf (cellAt (sl y0).2.2.2.2.2 (sl y0).2.1 1))
 (strOf (cellAt (sl y0).2.2.2.2.2 (sl y0).2.1 2)) (qal (cellAt (sl y0).2.2.2.2.2 (sl y0).2.1 3)) (sl y0).1)).2)))
 (.bi (pj 1 (qeX G_u168q (Sum.inl (x4, 0, x0, x1, x2, x3)))) (fun y0 =>
 .bi (qes (sl y0).2.2.1 []) (fun y1 =>
 .br (!y1.2) (.at ((0, 3))) (.at ((y1.1, 0))))
 (.no))
 (.bi (pj 2 (qeX G_u168q (Sum.inl (x4, 0, x0, x1, x2, x3)))) (fun y0 =>
 .at ((0, (gv
 (G_u168q (intOf (cellAt (sr y0).2.2.2.2.2.1 (sr y0).2.1 0)) (intOf (cellAt (sr y0).2.2.2.2.2.1 (sr y0).2.1 1))
 (strOf (cellAt (sr y0).2.2.2.2.2.1 (sr y0).2.1 2)) (qal (cellAt (sr y0).2.2.2.2.2.1 (sr y0).2.1 3)) (sr y0).1)).2)))
 (.bi (pj 3 (qeX G_u168q (Sum.inl (x4, 0, x0, x1, x2, x3)))) (fun y0 =>
 .bi (qes (sr y0).2.2.1 (sr y0).2.2.2.2.2.2) (fun y1 =>
 .br (!y1.2) (.at ((0, 3))) (.at ((y1.1, 0))))
 (.no))
 (.no))))))))
def qbZ : Nat → qa2
 | 0 => fun _ _ _ _ _ => none
 | n + 1 => fun x0 x1 x2 x3 x4 => (qpF ((qbZ n)) x0 x1 x2 x3 x4).ev
def qoW (x0 x1 : Int) (x2 : List UInt8) (x3 x4 : List AV) : Option qfW := qiE fun n => (qbZ n) x0 x1 x2 x3 x4
theorem qnc : ∀ n, qoB ((qbZ n))
 | 0 => (fun v y h => nomatch h)
 | n + 1 => have hG := qnc n
 qah (F := F81) (L := [(1008100, qvB), (1008101, qvC ((qbZ n)))]) (t := (k5 (qpF ((qbZ n))))) (qjH ((qbZ n)) hG) (qad (l := [qae F81 0, qae F81 1]) (by kernel_rfl) ⟨qax (by kernel_rfl) qNw, qax (by kernel_rfl) (qNx ((qbZ n)) hG), trivial⟩) (by kernel_rfl) (fun v => by kernel_rfl) (fun v => rfl)
theorem qMH : FH IP 81 qlt qlH (k5 qoW) := qbL (p := qlt) (rs := qlH) (s := fun n => (k5 ((qbZ n)))) fun n => (qnc n)
def qUN : Tab := (81, FE qlt qlH (k5 qoW)) :: qSx
theorem qzh : qan IP qUN := ⟨qam qMH, qzg⟩
abbrev qy3 : Type := Int × Int
def qDy : PArgs := ⟨[.agg [.int .i64, .int .i64, .str, .view 4], .view 2], []⟩
def qEk : List PRes := [⟨false, .tup [.int .i64, .int .i64], []⟩]
def qjx (x0 x1 : Int) (x2 : List UInt8) (x3 x4 : List AV) : DT qy3 :=
 .bi (qq0 x0 x1 x2 x3) (fun y0 =>
 .br (y0 != 0)
 (.at ((0, y0)))
 (.bi (qoW x0 x1 x2 x3 x4) (fun y1 =>
 .at ((y1.1, y1.2)))
 (.no)))
 (.no)
def qku (x0 x1 : Int) (x2 : List UInt8) (x3 x4 : List AV) : Option qy3 := qaF (qjx x0 x1 x2 x3 x4).ev
theorem qw3 (x0 x1 : Int) (x2 : List UInt8) (x3 x4 : List AV) : qku x0 x1 x2 x3 x4 = (qjx x0 x1 x2 x3 x4).ev := qaa _
theorem qMG : FH IP 66 qDy qEk (k5 qku) := qah (F := F66) (L := []) (t := (k5 qjx)) qzh (qad (l := []) (by kernel_rfl) trivial) (by kernel_rfl) (fun v => by kernel_rfl) (fun _ => qaa _)
def qUO : Tab := (66, FE qDy qEk (k5 qku)) :: qUN
theorem qzi : qan IP qUO := ⟨qam qMG, qzh⟩
abbrev qyM : Type := Int
def qDh : PArgs := ⟨[.agg [.int .i64, .int .i64, .str, .view 4], .view 2, .int .i64], []⟩
def qD3 : List PRes := [⟨false, .int .i64, []⟩]
def qje (x0 x1 : Int) (x2 : List UInt8) (x3 x4 : List AV) (x5 : Int) : DT qyM :=
 .bi (qku x0 x1 x2 x3 x4) (fun y0 =>
 .br (y0.2 != 0)
 (.at (y0.2))
 (.br (y0.1 != x5) (.at (3)) (.at (0))))
 (.no)
def qgf (x0 x1 : Int) (x2 : List UInt8) (x3 x4 : List AV) (x5 : Int) : Option qyM := qaF (qje x0 x1 x2 x3 x4 x5).ev
theorem qwM (x0 x1 : Int) (x2 : List UInt8) (x3 x4 : List AV) (x5 : Int) : qgf x0 x1 x2 x3 x4 x5 = (qje x0 x1 x2 x3 x4 x5).ev := qaa _
theorem qMm : FH IP 57 qDh qD3 (k6 qgf) := qah (F := F57) (L := []) (t := (k6 qje)) qzi (qad (l := []) (by kernel_rfl) trivial) (by kernel_rfl) (fun v => by kernel_rfl) (fun _ => qaa _)
def qUP : Tab := (57, FE qDh qD3 (k6 qgf)) :: qUO
theorem qzj : qan IP qUP := ⟨qam qMm, qzi⟩
abbrev qy2 : Type := Int
def qDx : PArgs := ⟨[.agg [.str, .int .i64, .int .i64, .int .i64, .str, .view 4, .int .i64, .int .i64, .str, .view 4]], []⟩
def qEj : List PRes := [⟨false, .int .i64, []⟩]
def qjw (x0 : List UInt8) (x1 x2 x3 : Int) (x4 : List UInt8) (x5 : List AV) (x6 x7 : Int) (x8 : List UInt8) (x9 : List AV) : DT qy2 :=
 .bi (qgj x0) (fun y0 =>
 .br (!y0)
 (.at (4))
 (.bi (br (decide (x1 < 1)) (some true) (some (decide (x1 > 4)))) (fun y1 =>
 .br (y1)
 (.at (1))
 (.bi (qgl) (fun y2 =>
 .bi (qgf x2 x3 x4 x5 y2 5) (fun y3 =>
 .br (y3 != 0)
 (.at (y3))
 (.bi (qgl) (fun y4 =>
 .bi (qgf x6 x7 x8 x9 y4 2) (fun y5 =>
 .at (y5))
 (.no))
 (.no)))
 (.no))
 (.no)))
 (.no)))
 (.no)
def qgn (x0 : List UInt8) (x1 x2 x3 : Int) (x4 : List UInt8) (x5 : List AV) (x6 x7 : Int) (x8 : List UInt8) (x9 : List AV) : Option qy2 := qaF (qjw x0 x1 x2 x3 x4 x5 x6 x7 x8 x9).ev
theorem qw2 (x0 : List UInt8) (x1 x2 x3 : Int) (x4 : List UInt8) (x5 : List AV) (x6 x7 : Int) (x8 : List UInt8) (x9 : List AV) : qgn x0 x1 x2 x3 x4 x5 x6 x7 x8 x9 = (qjw x0 x1 x2 x3 x4 x5 x6 x7 x8 x9).ev := qaa _
theorem qMF : FH IP 36 qDx qEj (k10 qgn) := qah (F := F36) (L := []) (t := (k10 qjw)) qzj (qad (l := []) (by kernel_rfl) trivial) (by kernel_rfl) (fun v => by kernel_rfl) (fun _ => qaa _)
def qUQ : Tab := (36, FE qDx qEj (k10 qgn)) :: qUP
theorem qs3 : qan IP qUQ := ⟨qam qMF, qzj⟩
abbrev qcj : Type := Int × List UInt8 × List UInt8 × List UInt8 × Int × Int × Int × Int × List AV × Bool × Int × Int × Bool × List AV × Bool × Int × Int × Bool × List AV × List AV
def quU : List PSt := [⟨[(1001300, .junk), (3, .ref 0 0 0), (14, .int .i64)], [(0, .box [.str, .str, .str, .int .i64, .int .i64, .int .i64, .int .i64, .view 2, .bool, .int .i64, .int .i64, .bool, .view 2, .bool, .int .i64, .int .i64, .bool, .view 10, .view 6] false)], 1, 0⟩]
def qEV (x0 : Int) (x1 x2 x3 : List UInt8) (x4 x5 : Int) (x6 x7 : Int) (x8 : List AV) (x9 : Bool) (x10 x11 : Int) (x12 : Bool) (x13 : List AV) (x14 : Bool) (x15 x16 : Int) (x17 : Bool) (x18 x19 : List AV) : X × St := (X.ret,
 ⟨[(3, AV.ref 0 0 0),
 (6,
 AV.int IntKind.i64
 (gv
 (qgn (strOf (cellAt x18 x0 0)) (intOf (cellAt x18 x0 1)) (intOf (cellAt x18 x0 2)) (intOf (cellAt x18 x0 3)) (strOf (cellAt x18 x0 4))
 (qal (cellAt x18 x0 5)) (intOf (cellAt x18 x0 6)) (intOf (cellAt x18 x0 7)) (strOf (cellAt x18 x0 8)) (qal (cellAt x18 x0 9)))))], [(0,
 Blk.box
 [AV.str x1, AV.str x2, AV.str x3, AV.int IntKind.i64 x4, AV.int IntKind.i64 x5, AV.int IntKind.i64 x6, AV.int IntKind.i64 x7, AV.view 2 x8, AV.bool x9,
 AV.int IntKind.i64 x10, AV.int IntKind.i64 x11, AV.bool x12, AV.view 2 x13, AV.bool x14, AV.int IntKind.i64 x15, AV.int IntKind.i64 x16, AV.bool x17, AV.view 10 x18,
 AV.view 6 x19]
 false)], 1, 0⟩)
def qEW (x0 : Int) (x1 x2 x3 : List UInt8) (x4 x5 : Int) (x6 x7 : Int) (x8 : List AV) (x9 : Bool) (x10 x11 : Int) (x12 : Bool) (x13 : List AV) (x14 : Bool) (x15 x16 : Int) (x17 : Bool) (x18 x19 : List AV) : X × St := (X.exit 0,
 ⟨[(3, AV.ref 0 0 0), (6, AV.junk)], [(0,
 Blk.box
 [AV.str x1, AV.str x2, AV.str x3, AV.int IntKind.i64 x4, AV.int IntKind.i64 x5, AV.int IntKind.i64 x6, AV.int IntKind.i64 x7, AV.view 2 x8, AV.bool x9,
 AV.int IntKind.i64 x10, AV.int IntKind.i64 x11, AV.bool x12, AV.view 2 x13, AV.bool x14, AV.int IntKind.i64 x15, AV.int IntKind.i64 x16, AV.bool x17, AV.view 10 x18,
 AV.view 6 x19]
 false)], 1, 0⟩)
def qNF : List (qcj → X × St) := [(k20 qEV), (k20 qEW)]
def qhX (x0 : Int) (x1 x2 x3 : List UInt8) (x4 x5 : Int) (x6 x7 : Int) (x8 : List AV) (x9 : Bool) (x10 x11 : Int) (x12 : Bool) (x13 : List AV) (x14 : Bool) (x15 x16 : Int) (x17 : Bool) (x18 x19 : List AV) : DT (Rd qcj) :=
 .br (decide (x0 < (x18.length : Int)))
 (.br (qaS [CS.str, CS.int IntKind.i64, CS.int IntKind.i64, CS.int IntKind.i64, CS.str, CS.slice 4, CS.int IntKind.i64, CS.int IntKind.i64, CS.str, CS.slice 4] x18 x0)
 (.bi (qgn (strOf (cellAt x18 x0 0)) (intOf (cellAt x18 x0 1)) (intOf (cellAt x18 x0 2)) (intOf (cellAt x18 x0 3)) (strOf (cellAt x18 x0 4)) (qal (cellAt x18 x0 5))
 (intOf (cellAt x18 x0 6)) (intOf (cellAt x18 x0 7)) (strOf (cellAt x18 x0 8)) (qal (cellAt x18 x0 9))) (fun y0 =>
 .br (y0 != 0) (.at (.done 0)) (.at (.next ((IntKind.i64.wrap (x0 + 1), x1, x2, x3, x4, x5, x6, x7, x8, x9, x10, x11, x12, x13, x14, x15, x16, x17, x18, x19)))))
 (.no))
 (.no))
 (.at (.done 1))
def qfx : qcj → DT (Rd qcj) := (fun v => qhX v.1 v.2.1 v.2.2.1 v.2.2.2.1 v.2.2.2.2.1 v.2.2.2.2.2.1 v.2.2.2.2.2.2.1 v.2.2.2.2.2.2.2.1 v.2.2.2.2.2.2.2.2.1 v.2.2.2.2.2.2.2.2.2.1 v.2.2.2.2.2.2.2.2.2.2.1 v.2.2.2.2.2.2.2.2.2.2.2.1 v.2.2.2.2.2.2.2.2.2.2.2.2.1 v.2.2.2.2.2.2.2.2.2.2.2.2.2.1 v.2.2.2.2.2.2.2.2.2.2.2.2.2.2.1 v.2.2.2.2.2.2.2.2.2.2.2.2.2.2.2.1 v.2.2.2.2.2.2.2.2.2.2.2.2.2.2.2.2.1 v.2.2.2.2.2.2.2.2.2.2.2.2.2.2.2.2.2.1 v.2.2.2.2.2.2.2.2.2.2.2.2.2.2.2.2.2.2.1 v.2.2.2.2.2.2.2.2.2.2.2.2.2.2.2.2.2.2.2)
def qkR (v : qcj) : Option (Nat × qcj) := qaF (qao (fun v => (qfx v).ev) v)
theorem qnN (v : qcj) : qkR v = qao (fun v => (qfx v).ev) v := qaa _
def qvq : qb3 := LE (τ := qcj) (hD quU) (qkR) qNF
theorem qNl : Go.Eng.Told IP (qae F13 0).1 (qae F13 0).2 (qvq) := qaw (inferInstance : Inhabited qcj) (hs := quU) (st := qfx) (L := []) qs3 (qad (l := []) (by kernel_rfl) trivial) (qnN) (fun v => by kernel_rfl) (fun v => by kernel_rfl)
abbrev qyZ : Type := Int
def qDu : PArgs := ⟨[.agg [.str, .int .i64, .int .i64, .int .i64, .str, .view 4]], []⟩
def qEg : List PRes := [⟨false, .int .i64, []⟩]
def qjt (x0 : List UInt8) (x1 x2 x3 : Int) (x4 : List UInt8) (x5 : List AV) : DT qyZ :=
 .bi (qgj x0) (fun y0 =>
 .br (!y0)
 (.at (4))
 (.bi (br (decide (x1 < 1)) (some true) (some (decide (x1 > 3)))) (fun y1 =>
 .br (y1)
 (.at (1))
 (.bi (qgl) (fun y2 =>
 .bi (qgf x2 x3 x4 x5 y2 2) (fun y3 =>
 .at (y3))
 (.no))
 (.no)))
 (.no)))
 (.no)
def qgm (x0 : List UInt8) (x1 x2 x3 : Int) (x4 : List UInt8) (x5 : List AV) : Option qyZ := qaF (qjt x0 x1 x2 x3 x4 x5).ev
theorem qwZ (x0 : List UInt8) (x1 x2 x3 : Int) (x4 : List UInt8) (x5 : List AV) : qgm x0 x1 x2 x3 x4 x5 = (qjt x0 x1 x2 x3 x4 x5).ev := qaa _
theorem qMC : FH IP 37 qDu qEg (k6 qgm) := qah (F := F37) (L := []) (t := (k6 qjt)) qs3 (qad (l := []) (by kernel_rfl) trivial) (by kernel_rfl) (fun v => by kernel_rfl) (fun _ => qaa _)
def qUR : Tab := (37, FE qDu qEg (k6 qgm)) :: qUQ
theorem qs4 : qan IP qUR := ⟨qam qMC, qs3⟩
abbrev qcJ : Type := Int × List UInt8 × List UInt8 × List UInt8 × Int × Int × Int × Int × List AV × Bool × Int × Int × Bool × List AV × Bool × Int × Int × Bool × List AV × List AV
def quV : List PSt := [⟨[(1001301, .junk), (3, .ref 0 0 0), (16, .int .i64)], [(0, .box [.str, .str, .str, .int .i64, .int .i64, .int .i64, .int .i64, .view 2, .bool, .int .i64, .int .i64, .bool, .view 2, .bool, .int .i64, .int .i64, .bool, .view 10, .view 6] false)], 1, 0⟩]
def qEX (x0 : Int) (x1 x2 x3 : List UInt8) (x4 x5 : Int) (x6 x7 : Int) (x8 : List AV) (x9 : Bool) (x10 x11 : Int) (x12 : Bool) (x13 : List AV) (x14 : Bool) (x15 x16 : Int) (x17 : Bool) (x18 x19 : List AV) : X × St := (X.ret,
 ⟨[(6,
 AV.int IntKind.i64
 (gv
 (qgm (strOf (cellAt x19 x0 0)) (intOf (cellAt x19 x0 1)) (intOf (cellAt x19 x0 2)) (intOf (cellAt x19 x0 3)) (strOf (cellAt x19 x0 4))
 (qal (cellAt x19 x0 5)))))], [], 0, 0⟩)
def qEY (x0 : Int) (x1 x2 x3 : List UInt8) (x4 x5 : Int) (x6 x7 : Int) (x8 : List AV) (x9 : Bool) (x10 x11 : Int) (x12 : Bool) (x13 : List AV) (x14 : Bool) (x15 x16 : Int) (x17 : Bool) (x18 x19 : List AV) : X × St := (X.exit 2, ⟨[(6, AV.junk)], [], 0, 0⟩)
def qNG : List (qcJ → X × St) := [(k20 qEX), (k20 qEY)]
def qhY (x0 : Int) (x1 x2 x3 : List UInt8) (x4 x5 : Int) (x6 x7 : Int) (x8 : List AV) (x9 : Bool) (x10 x11 : Int) (x12 : Bool) (x13 : List AV) (x14 : Bool) (x15 x16 : Int) (x17 : Bool) (x18 x19 : List AV) : DT (Rd qcJ) :=
 .br (decide (x0 < (x19.length : Int)))
 (.br (qaS [CS.str, CS.int IntKind.i64, CS.int IntKind.i64, CS.int IntKind.i64, CS.str, CS.slice 4] x19 x0)
 (.bi (qgm (strOf (cellAt x19 x0 0)) (intOf (cellAt x19 x0 1)) (intOf (cellAt x19 x0 2)) (intOf (cellAt x19 x0 3)) (strOf (cellAt x19 x0 4)) (qal (cellAt x19 x0 5))) (fun y0 =>
 .br (y0 != 0) (.at (.done 0)) (.at (.next ((IntKind.i64.wrap (x0 + 1), x1, x2, x3, x4, x5, x6, x7, x8, x9, x10, x11, x12, x13, x14, x15, x16, x17, x18, x19)))))
 (.no))
 (.no))
 (.at (.done 1))
def qfy : qcJ → DT (Rd qcJ) := (fun v => qhY v.1 v.2.1 v.2.2.1 v.2.2.2.1 v.2.2.2.2.1 v.2.2.2.2.2.1 v.2.2.2.2.2.2.1 v.2.2.2.2.2.2.2.1 v.2.2.2.2.2.2.2.2.1 v.2.2.2.2.2.2.2.2.2.1 v.2.2.2.2.2.2.2.2.2.2.1 v.2.2.2.2.2.2.2.2.2.2.2.1 v.2.2.2.2.2.2.2.2.2.2.2.2.1 v.2.2.2.2.2.2.2.2.2.2.2.2.2.1 v.2.2.2.2.2.2.2.2.2.2.2.2.2.2.1 v.2.2.2.2.2.2.2.2.2.2.2.2.2.2.2.1 v.2.2.2.2.2.2.2.2.2.2.2.2.2.2.2.2.1 v.2.2.2.2.2.2.2.2.2.2.2.2.2.2.2.2.2.1 v.2.2.2.2.2.2.2.2.2.2.2.2.2.2.2.2.2.2.1 v.2.2.2.2.2.2.2.2.2.2.2.2.2.2.2.2.2.2.2)
def qkS (v : qcJ) : Option (Nat × qcJ) := qaF (qao (fun v => (qfy v).ev) v)
theorem qnO (v : qcJ) : qkS v = qao (fun v => (qfy v).ev) v := qaa _
def qvr : qb3 := LE (τ := qcJ) (hD quV) (qkS) qNG
theorem qNm : Go.Eng.Told IP (qae F13 1).1 (qae F13 1).2 (qvr) := qaw (inferInstance : Inhabited qcJ) (hs := quV) (st := qfy) (L := []) qs4 (qad (l := []) (by kernel_rfl) trivial) (qnO) (fun v => by kernel_rfl) (fun v => by kernel_rfl)
abbrev qyO : Type := Int
def qDj : PArgs := ⟨[.agg [.str, .str, .str, .int .i64, .int .i64, .int .i64, .int .i64, .view 2, .bool, .int .i64, .int .i64, .bool, .view 2, .bool, .int .i64, .int .i64, .bool, .view 10, .view 6], .view 2, .view 3], []⟩
def qD5 : List PRes := [⟨false, .int .i64, []⟩]
def qjg (x0 x1 x2 : List UInt8) (x3 x4 : Int) (x5 x6 : Int) (x7 : List AV) (x8 : Bool) (x9 x10 : Int) (x11 : Bool) (x12 : List AV) (x13 : Bool) (x14 x15 : Int) (x16 : Bool) (x17 x18 : List AV) (x19 x20 : List AV) : DT qyO :=
 .bi (qgj x0) (fun y0 =>
 .br (!y0)
 (.at (4))
 (.bi (qkk x19 x1) (fun y1 =>
 .br (!y1.2.2)
 (.at (14))
 (.bi (qkl x20 x2) (fun y2 =>
 .br (!y2.2.2.2)
 (.at (11))
 (.bi (br (x4 == 1) (some true) (some (x4 == 3))) (fun y3 =>
 .bi (br y3 (some true) (some (x4 == 6))) (fun y4 =>
 .bi (br y4 (some true) (some (x4 == 12))) (fun y5 =>
 .bi (qkb x3) (fun y6 =>
 .bi (br (!y6) (some true) (some !y5)) (fun y7 =>
 .bi (br y7 (some true) (some (decide (x5 < 0)))) (fun y8 =>
 .bi (br y8 (some true) (some (decide (x5 > 1000000000000)))) (fun y9 =>
 .bi (br y9 (some true) (some (decide (x6 < 0)))) (fun y10 =>
 .bi (br y10 (some true) (some (decide (x6 > 1000000)))) (fun y11 =>
 .br (y11)
 (.at (1))
 (.bi (qnr x7 x8 x9 x10 x11) (fun y12 =>
 .br (y12 != 0)
 (.at (y12))
 (.bi (qnr x12 x13 x14 x15 x16) (fun y13 =>
 .br (y13 != 0)
 (.at (y13))
 (.bi (br (decide ((x17.length : Int) > 4)) (some true) (some (decide ((x18.length : Int) > 4)))) (fun y14 =>
 .br (y14)
 (.at (5))
 (.bi (pj 0 (qkR (0, x0, x1, x2, x3, x4, x5, x6, x7, x8, x9, x10, x11, x12, x13, x14, x15, x16, x17, x18))) (fun y15 =>
 .at (gv
 (qgn (strOf (cellAt y15.2.2.2.2.2.2.2.2.2.2.2.2.2.2.2.2.2.2.1 y15.1 0))
 (intOf (cellAt y15.2.2.2.2.2.2.2.2.2.2.2.2.2.2.2.2.2.2.1 y15.1 1))
 (intOf (cellAt y15.2.2.2.2.2.2.2.2.2.2.2.2.2.2.2.2.2.2.1 y15.1 2))
 (intOf (cellAt y15.2.2.2.2.2.2.2.2.2.2.2.2.2.2.2.2.2.2.1 y15.1 3))
 (strOf (cellAt y15.2.2.2.2.2.2.2.2.2.2.2.2.2.2.2.2.2.2.1 y15.1 4))
 (qal (cellAt y15.2.2.2.2.2.2.2.2.2.2.2.2.2.2.2.2.2.2.1 y15.1 5))
 (intOf (cellAt y15.2.2.2.2.2.2.2.2.2.2.2.2.2.2.2.2.2.2.1 y15.1 6))
 (intOf (cellAt y15.2.2.2.2.2.2.2.2.2.2.2.2.2.2.2.2.2.2.1 y15.1 7))
 (strOf (cellAt y15.2.2.2.2.2.2.2.2.2.2.2.2.2.2.2.2.2.2.1 y15.1 8))
 (qal (cellAt y15.2.2.2.2.2.2.2.2.2.2.2.2.2.2.2.2.2.2.1 y15.1 9)))))
 (.bi (pj 1 (qkR (0, x0, x1, x2, x3, x4, x5, x6, x7, x8, x9, x10, x11, x12, x13, x14, x15, x16, x17, x18))) (fun y15 =>
 .bi (pj 0
 (qkS
 (0, y15.2.1, y15.2.2.1, y15.2.2.2.1, y15.2.2.2.2.1, y15.2.2.2.2.2.1, y15.2.2.2.2.2.2.1,
 y15.2.2.2.2.2.2.2.1, y15.2.2.2.2.2.2.2.2.1, y15.2.2.2.2.2.2.2.2.2.1, y15.2.2.2.2.2.2.2.2.2.2.1,
 y15.2.2.2.2.2.2.2.2.2.2.2.1, y15.2.2.2.2.2.2.2.2.2.2.2.2.1, y15.2.2.2.2.2.2.2.2.2.2.2.2.2.1,
 y15.2.2.2.2.2.2.2.2.2.2.2.2.2.2.1, y15.2.2.2.2.2.2.2.2.2.2.2.2.2.2.2.1,
 y15.2.2.2.2.2.2.2.2.2.2.2.2.2.2.2.2.1, y15.2.2.2.2.2.2.2.2.2.2.2.2.2.2.2.2.2.1,
 y15.2.2.2.2.2.2.2.2.2.2.2.2.2.2.2.2.2.2.1, y15.2.2.2.2.2.2.2.2.2.2.2.2.2.2.2.2.2.2.2))) (fun y16 =>
 .at (gv
 (qgm (strOf (cellAt y16.2.2.2.2.2.2.2.2.2.2.2.2.2.2.2.2.2.2.2 y16.1 0))
 (intOf (cellAt y16.2.2.2.2.2.2.2.2.2.2.2.2.2.2.2.2.2.2.2 y16.1 1))
 (intOf (cellAt y16.2.2.2.2.2.2.2.2.2.2.2.2.2.2.2.2.2.2.2 y16.1 2))
 (intOf (cellAt y16.2.2.2.2.2.2.2.2.2.2.2.2.2.2.2.2.2.2.2 y16.1 3))
 (strOf (cellAt y16.2.2.2.2.2.2.2.2.2.2.2.2.2.2.2.2.2.2.2 y16.1 4))
 (qal (cellAt y16.2.2.2.2.2.2.2.2.2.2.2.2.2.2.2.2.2.2.2 y16.1 5)))))
 (.bi (pj 1
 (qkS
 (0, y15.2.1, y15.2.2.1, y15.2.2.2.1, y15.2.2.2.2.1, y15.2.2.2.2.2.1, y15.2.2.2.2.2.2.1,
 y15.2.2.2.2.2.2.2.1, y15.2.2.2.2.2.2.2.2.1, y15.2.2.2.2.2.2.2.2.2.1, y15.2.2.2.2.2.2.2.2.2.2.1,
 y15.2.2.2.2.2.2.2.2.2.2.2.1, y15.2.2.2.2.2.2.2.2.2.2.2.2.1, y15.2.2.2.2.2.2.2.2.2.2.2.2.2.1,
 y15.2.2.2.2.2.2.2.2.2.2.2.2.2.2.1, y15.2.2.2.2.2.2.2.2.2.2.2.2.2.2.2.1,
 y15.2.2.2.2.2.2.2.2.2.2.2.2.2.2.2.2.1, y15.2.2.2.2.2.2.2.2.2.2.2.2.2.2.2.2.2.1,
 y15.2.2.2.2.2.2.2.2.2.2.2.2.2.2.2.2.2.2.1, y15.2.2.2.2.2.2.2.2.2.2.2.2.2.2.2.2.2.2.2))) (fun y16 =>
 .at (0))
 (.no)))
 (.no))))
 (.no)))
 (.no)))
 (.no)))
 (.no))
 (.no))
 (.no))
 (.no))
 (.no))
 (.no))
 (.no))
 (.no))
 (.no)))
 (.no)))
 (.no)))
 (.no)
def qkg (x0 x1 x2 : List UInt8) (x3 x4 : Int) (x5 x6 : Int) (x7 : List AV) (x8 : Bool) (x9 x10 : Int) (x11 : Bool) (x12 : List AV) (x13 : Bool) (x14 x15 : Int) (x16 : Bool) (x17 x18 : List AV) (x19 x20 : List AV) : Option qyO := qaF (qjg x0 x1 x2 x3 x4 x5 x6 x7 x8 x9 x10 x11 x12 x13 x14 x15 x16 x17 x18 x19 x20).ev
theorem qwO (x0 x1 x2 : List UInt8) (x3 x4 : Int) (x5 x6 : Int) (x7 : List AV) (x8 : Bool) (x9 x10 : Int) (x11 : Bool) (x12 : List AV) (x13 : Bool) (x14 x15 : Int) (x16 : Bool) (x17 x18 : List AV) (x19 x20 : List AV) : qkg x0 x1 x2 x3 x4 x5 x6 x7 x8 x9 x10 x11 x12 x13 x14 x15 x16 x17 x18 x19 x20 = (qjg x0 x1 x2 x3 x4 x5 x6 x7 x8 x9 x10 x11 x12 x13 x14 x15 x16 x17 x18 x19 x20).ev := qaa _
theorem qMo : FH IP 13 qDj qD5 (k21 qkg) := qah (F := F13) (L := [(1001300, qvq), (1001301, qvr)]) (t := (k21 qjg)) qs4 (qad (l := [qae F13 0, qae F13 1]) (by kernel_rfl) ⟨qax (by kernel_rfl) qNl, qax (by kernel_rfl) qNm, trivial⟩) (by kernel_rfl) (fun v => by kernel_rfl) (fun _ => qaa _)
def qUS : Tab := (13, FE qDj qD5 (k21 qkg)) :: qUR
theorem qzk : qan IP qUS := ⟨qam qMo, qs4⟩
abbrev qHU : Type := Bool
def qDz : PArgs := ⟨[.agg [.str, .str, .str, .int .i64, .int .i64, .int .i64, .int .i64, .view 2, .bool, .int .i64, .int .i64, .bool, .view 2, .bool, .int .i64, .int .i64, .bool, .view 10, .view 6], .view 2, .view 3], []⟩
def qKT : List PRes := [⟨false, .bool, []⟩]
def qpN (x0 x1 x2 : List UInt8) (x3 x4 : Int) (x5 x6 : Int) (x7 : List AV) (x8 : Bool) (x9 x10 : Int) (x11 : Bool) (x12 : List AV) (x13 : Bool) (x14 x15 : Int) (x16 : Bool) (x17 x18 : List AV) (x19 x20 : List AV) : DT qHU :=
 .bi (qkr x0 x1 x2 x3 x4 x5 x6 x7 x8 x9 x10 x11 x12 x13 x14 x15 x16 x17 x18) (fun y0 =>
 .bi (br (!y0) (some true) (some (decide ((x19.length : Int) > 12)))) (fun y1 =>
 .bi (br y1 (some true) (some (decide ((x20.length : Int) > 12)))) (fun y2 =>
 .br (y2)
 (.bi (qhz) (fun y3 =>
 .at (y3))
 (.no))
 (.bi (qgU x0 x1 x2 x3 x4 x5 x6 x7 x8 x9 x10 x11 x12 x13 x14 x15 x16 x17 x18 x19 x20) (fun y3 =>
 .bi (qkg x0 x1 x2 x3 x4 x5 x6 x7 x8 x9 x10 x11 x12 x13 x14 x15 x16 x17 x18 x19 x20) (fun y4 =>
 .br (y3 == y4)
 (.bi (qhz) (fun y5 =>
 .at (y5))
 (.no))
 (.at (false)))
 (.no))
 (.no)))
 (.no))
 (.no))
 (.no)
def quP (x0 x1 x2 : List UInt8) (x3 x4 : Int) (x5 x6 : Int) (x7 : List AV) (x8 : Bool) (x9 x10 : Int) (x11 : Bool) (x12 : List AV) (x13 : Bool) (x14 x15 : Int) (x16 : Bool) (x17 x18 : List AV) (x19 x20 : List AV) : Option qHU := qaF (qpN x0 x1 x2 x3 x4 x5 x6 x7 x8 x9 x10 x11 x12 x13 x14 x15 x16 x17 x18 x19 x20).ev
theorem qAr (x0 x1 x2 : List UInt8) (x3 x4 : Int) (x5 x6 : Int) (x7 : List AV) (x8 : Bool) (x9 x10 : Int) (x11 : Bool) (x12 : List AV) (x13 : Bool) (x14 x15 : Int) (x16 : Bool) (x17 x18 : List AV) (x19 x20 : List AV) : quP x0 x1 x2 x3 x4 x5 x6 x7 x8 x9 x10 x11 x12 x13 x14 x15 x16 x17 x18 x19 x20 = (qpN x0 x1 x2 x3 x4 x5 x6 x7 x8 x9 x10 x11 x12 x13 x14 x15 x16 x17 x18 x19 x20).ev := qaa _
theorem qJu : FH IP 4 qDz qKT (k21 quP) := qah (F := F4) (L := []) (t := (k21 qpN)) qzk (qad (l := []) (by kernel_rfl) trivial) (by kernel_rfl) (fun v => by kernel_rfl) (fun _ => qaa _)
end
end Go.Proofs.H15c

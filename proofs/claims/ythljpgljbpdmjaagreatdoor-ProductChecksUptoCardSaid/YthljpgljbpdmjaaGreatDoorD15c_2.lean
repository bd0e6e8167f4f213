/- Functions over plain data. Printed by a program of mine. -/
import Derived.Test.YthljpgljbpdmjaaGreatDoorD15c_1
import Derived.KernelRfl
set_option linter.unusedVariables false
set_option linter.unusedSimpArgs false
set_option linter.unnecessarySimpa false
namespace Go.Proofs.H15c
open Go Go.Eng
set_option maxRecDepth 100000
noncomputable section
abbrev qdY : Type := List AV × Int
def qBi : List PSt := [⟨[(1007100, .junk), (0, .view 2), (1, .fn (.func 72) []), (5, .int .i64)], [], 0, 0⟩]
def qGM (x0 : List AV) (x1 : Int) : X × St := (X.ret, ⟨[(4, AV.bool false)], [], 0, 0⟩)
def qGN (x0 : List AV) (x1 : Int) : X × St := (X.exit 0, ⟨[(4, AV.junk)], [], 0, 0⟩)
def qRc : List (qdY → X × St) := [(k2 qGM), (k2 qGN)]
def ql1 (x0 : List AV) (x1 : Int) : DT (Rd qdY) :=
 .br (decide (x1 < (x0.length : Int)))
 (.br (qaS [CS.int IntKind.i64, CS.int IntKind.i64] x0 x1)
 (.bi (qnx (intOf (cellAt x0 x1 0)) (intOf (cellAt x0 x1 1))) (fun y0 =>
 .br (qaS [CS.int IntKind.i64, CS.int IntKind.i64] x0 (IntKind.i64.wrap (x1 - 1)))
 (.bi (qnx (intOf (cellAt x0 (IntKind.i64.wrap (x1 - 1)) 0)) (intOf (cellAt x0 (IntKind.i64.wrap (x1 - 1)) 1))) (fun y1 =>
 .br (decide (y0 ≤ y1)) (.at (.done 0)) (.at (.next ((x0, IntKind.i64.wrap (x1 + 1))))))
 (.no))
 (.no))
 (.no))
 (.no))
 (.at (.done 1))
def qh8 : qdY → DT (Rd qdY) := (fun v => ql1 v.1 v.2)
def qrg (v : qdY) : Option (Nat × qdY) := qaF (qao (fun v => (qh8 v).ev) v)
theorem qrh (v : qdY) : qrg v = qao (fun v => (qh8 v).ev) v := qaa _
def qB0 : qb3 := LE (τ := qdY) (hD qBi) (qrg) qRc
theorem qQC : Go.Eng.Told IP (qae F71 0).1 (qae F71 0).2 (qB0) := qaw (inferInstance : Inhabited qdY) (hs := qBi) (st := qh8) (L := []) qzm (qad (l := []) (by kernel_rfl) trivial) (qrh) (fun v => by kernel_rfl) (fun v => by kernel_rfl)
abbrev qHS : Type := Bool
def qJ3 : PArgs := ⟨[.view 2, .fn (.func 72) []], []⟩
def qKR : List PRes := [⟨false, .bool, []⟩]
def qpL (x0 : List AV) : DT qHS :=
 .bi (pj 0 (qrg (x0, 1))) (fun y0 =>
 .at (false))
 (.bi (pj 1 (qrg (x0, 1))) (fun y0 =>
 .at (true))
 (.no))
def qqP (x0 : List AV) : Option qHS := qaF (qpL x0).ev
theorem qAp (x0 : List AV) : qqP x0 = (qpL x0).ev := qaa _
theorem qOW : FH IP 71 qJ3 qKR qqP := qah (F := F71) (L := [(1007100, qB0)]) (t := qpL) qzm (qad (l := [qae F71 0]) (by kernel_rfl) ⟨qax (by kernel_rfl) qQC, trivial⟩) (by kernel_rfl) (fun v => by kernel_rfl) (fun _ => qaa _)
def T13 : Tab := (71, FE qJ3 qKR qqP) :: T12
theorem qIz : qan IP T13 := ⟨qam qOW, qzm⟩
abbrev qyA : Type := Int
def qC7 : PArgs := ⟨[.view 2], []⟩
def qDT : List PRes := [⟨false, .int .i64, []⟩]
def qi4 (x0 : List AV) : DT qyA :=
 .br (decide ((x0.length : Int) > 6))
 (.at (5))
 (.bi (pj 0 (qrN (x0, x0, (x0.length : Int), 0))) (fun y0 =>
 .at (1))
 (.bi (pj 1 (qrN (x0, x0, (x0.length : Int), 0))) (fun y0 =>
 .bi (qqP y0.1) (fun y1 =>
 .br (!y1)
 (.at (10))
 (.bi (br (decide ((y0.1.length : Int) > 0)) (br (qaS [CS.int IntKind.i64, CS.int IntKind.i64] y0.1 0) (some (intOf (cellAt y0.1 0 0) != 0)) none) (some false)) (fun y2 =>
 .br (y2) (.at (1)) (.at (0)))
 (.no)))
 (.no))
 (.no)))
def qj6 (x0 : List AV) : Option qyA := qaF (qi4 x0).ev
theorem qwC (x0 : List AV) : qj6 x0 = (qi4 x0).ev := qaa _
theorem qL8 : FH IP 54 qC7 qDT qj6 := qah (F := F54) (L := [(1005400, qCo)]) (t := qi4) qIz (qad (l := [qae F54 0]) (by kernel_rfl) ⟨qax (by kernel_rfl) qQ0, trivial⟩) (by kernel_rfl) (fun v => by kernel_rfl) (fun _ => qaa _)
def T14 : Tab := (54, FE qC7 qDT qj6) :: T13
theorem qIA : qan IP T14 := ⟨qam qL8, qIz⟩
abbrev qHY : Type := Int
def qJ8 : PArgs := ⟨[.agg [.view 2, .bool, .int .i64, .int .i64, .bool]], []⟩
def qKX : List PRes := [⟨false, .int .i64, []⟩]
def qpQ (x0 : List AV) (x1 : Bool) (x2 x3 : Int) (x4 : Bool) : DT qHY :=
 .bi (qj6 x0) (fun y0 =>
 .br (y0 != 0)
 (.at (y0))
 (.bi (br (decide (x2 < 1)) (some true) (some (decide (x2 > 4)))) (fun y1 =>
 .bi (br y1 (some true) (some (decide (x3 < 1)))) (fun y2 =>
 .bi (br y2 (some true) (some (decide (x3 > 6)))) (fun y3 =>
 .br (y3) (.at (1)) (.at (0)))
 (.no))
 (.no))
 (.no)))
 (.no)
def qfQ (x0 : List AV) (x1 : Bool) (x2 x3 : Int) (x4 : Bool) : Option qHY := qaF (qpQ x0 x1 x2 x3 x4).ev
theorem qAv (x0 : List AV) (x1 : Bool) (x2 x3 : Int) (x4 : Bool) : qfQ x0 x1 x2 x3 x4 = (qpQ x0 x1 x2 x3 x4).ev := qaa _
theorem qO1 : FH IP 28 qJ8 qKX (k5 qfQ) := qah (F := F28) (L := []) (t := (k5 qpQ)) qIA (qad (l := []) (by kernel_rfl) trivial) (by kernel_rfl) (fun v => by kernel_rfl) (fun _ => qaa _)
def T15 : Tab := (28, FE qJ8 qKX (k5 qfQ)) :: T14
theorem qzn : qan IP T15 := ⟨qam qO1, qIA⟩
abbrev qdu : Type := List AV × Bool × Int × Int × Bool × List AV × Bool × Int × Int × Bool × Int × List UInt8 × List UInt8 × List UInt8 × Int × Int × Int × Int × List AV × Bool × Int × Int × Bool × List AV × Bool × Int × Int × Bool × List AV × List AV
def qBn : List PSt := [⟨[(1001200, .junk), (3, .ref 0 0 0), (28, .agg [.view 2, .bool, .int .i64, .int .i64, .bool, .view 2, .bool, .int .i64, .int .i64, .bool]), (29, .int .i64)], [(0, .box [.str, .str, .str, .int .i64, .int .i64, .int .i64, .int .i64, .view 2, .bool, .int .i64, .int .i64, .bool, .view 2, .bool, .int .i64, .int .i64, .bool, .view 10, .view 6] false)], 1, 0⟩]
def qGZ (x0 : List AV) (x1 : Bool) (x2 x3 : Int) (x4 : Bool) (x5 : List AV) (x6 : Bool) (x7 x8 : Int) (x9 : Bool) (x10 : Int) (x11 x12 x13 : List UInt8) (x14 x15 : Int) (x16 x17 : Int) (x18 : List AV) (x19 : Bool) (x20 x21 : Int) (x22 : Bool) (x23 : List AV) (x24 : Bool) (x25 x26 : Int) (x27 : Bool) (x28 x29 : List AV) : X × St := (X.ret,
 ⟨[(3, AV.ref 0 0 0), (6, AV.int IntKind.i64 (gv (qfQ x0 x1 x2 x3 x4)))], [(0,
 Blk.box
 [AV.str x11, AV.str x12, AV.str x13, AV.int IntKind.i64 x14, AV.int IntKind.i64 x15, AV.int IntKind.i64 x16, AV.int IntKind.i64 x17, AV.view 2 x18, AV.bool x19,
 AV.int IntKind.i64 x20, AV.int IntKind.i64 x21, AV.bool x22, AV.view 2 x23, AV.bool x24, AV.int IntKind.i64 x25, AV.int IntKind.i64 x26, AV.bool x27, AV.view 10 x28,
 AV.view 6 x29]
 false)], 1, 0⟩)
def qG0 (x0 : List AV) (x1 : Bool) (x2 x3 : Int) (x4 : Bool) (x5 : List AV) (x6 : Bool) (x7 x8 : Int) (x9 : Bool) (x10 : Int) (x11 x12 x13 : List UInt8) (x14 x15 : Int) (x16 x17 : Int) (x18 : List AV) (x19 : Bool) (x20 x21 : Int) (x22 : Bool) (x23 : List AV) (x24 : Bool) (x25 x26 : Int) (x27 : Bool) (x28 x29 : List AV) : X × St := (X.ret,
 ⟨[(3, AV.ref 0 0 0), (6, AV.int IntKind.i64 (gv (qfQ x5 x6 x7 x8 x9)))], [(0,
 Blk.box
 [AV.str x11, AV.str x12, AV.str x13, AV.int IntKind.i64 x14, AV.int IntKind.i64 x15, AV.int IntKind.i64 x16, AV.int IntKind.i64 x17, AV.view 2 x18, AV.bool x19,
 AV.int IntKind.i64 x20, AV.int IntKind.i64 x21, AV.bool x22, AV.view 2 x23, AV.bool x24, AV.int IntKind.i64 x25, AV.int IntKind.i64 x26, AV.bool x27, AV.view 10 x28,
 AV.view 6 x29]
 false)], 1, 0⟩)
def qG1 (x0 : List AV) (x1 : Bool) (x2 x3 : Int) (x4 : Bool) (x5 : List AV) (x6 : Bool) (x7 x8 : Int) (x9 : Bool) (x10 : Int) (x11 x12 x13 : List UInt8) (x14 x15 : Int) (x16 x17 : Int) (x18 : List AV) (x19 : Bool) (x20 x21 : Int) (x22 : Bool) (x23 : List AV) (x24 : Bool) (x25 x26 : Int) (x27 : Bool) (x28 x29 : List AV) : X × St := (X.exit 0,
 ⟨[(3, AV.ref 0 0 0), (6, AV.junk)], [(0,
 Blk.box
 [AV.str x11, AV.str x12, AV.str x13, AV.int IntKind.i64 x14, AV.int IntKind.i64 x15, AV.int IntKind.i64 x16, AV.int IntKind.i64 x17, AV.view 2 x18, AV.bool x19,
 AV.int IntKind.i64 x20, AV.int IntKind.i64 x21, AV.bool x22, AV.view 2 x23, AV.bool x24, AV.int IntKind.i64 x25, AV.int IntKind.i64 x26, AV.bool x27, AV.view 10 x28,
 AV.view 6 x29]
 false)], 1, 0⟩)
def qRh : List (qdu → X × St) := [(k30 qGZ), (k30 qG0), (k30 qG1)]
def ql6 (x0 : List AV) (x1 : Bool) (x2 x3 : Int) (x4 : Bool) (x5 : List AV) (x6 : Bool) (x7 x8 : Int) (x9 : Bool) (x10 : Int) (x11 x12 x13 : List UInt8) (x14 x15 : Int) (x16 x17 : Int) (x18 : List AV) (x19 : Bool) (x20 x21 : Int) (x22 : Bool) (x23 : List AV) (x24 : Bool) (x25 x26 : Int) (x27 : Bool) (x28 x29 : List AV) : DT (Rd qdu) :=
 .br (decide (x10 < 2))
 (.br (decide (x10 = Int.ofNat 0))
 (.bi (qfQ x0 x1 x2 x3 x4) (fun y0 =>
 .br (y0 != 0)
 (.at (.done 0))
 (.at (.next ((x0, x1, x2, x3, x4, x5, x6, x7, x8, x9, IntKind.i64.wrap (x10 + 1), x11, x12, x13, x14, x15, x16, x17, x18, x19, x20, x21, x22, x23, x24, x25, x26, x27, x28, x29)))))
 (.no))
 (.br (decide (x10 = Int.ofNat 1))
 (.bi (qfQ x5 x6 x7 x8 x9) (fun y0 =>
 .br (y0 != 0)
 (.at (.done 1))
 (.at (.next ((x0, x1, x2, x3, x4, x5, x6, x7, x8, x9, IntKind.i64.wrap (x10 + 1), x11, x12, x13, x14, x15, x16, x17, x18, x19, x20, x21, x22, x23, x24, x25, x26, x27, x28, x29)))))
 (.no))
 (.no)))
 (.at (.done 2))
def qe5 : qdu → DT (Rd qdu) := (fun v => ql6 v.1 v.2.1 v.2.2.1 v.2.2.2.1 v.2.2.2.2.1 v.2.2.2.2.2.1 v.2.2.2.2.2.2.1 v.2.2.2.2.2.2.2.1 v.2.2.2.2.2.2.2.2.1 v.2.2.2.2.2.2.2.2.2.1 v.2.2.2.2.2.2.2.2.2.2.1 v.2.2.2.2.2.2.2.2.2.2.2.1 v.2.2.2.2.2.2.2.2.2.2.2.2.1 v.2.2.2.2.2.2.2.2.2.2.2.2.2.1 v.2.2.2.2.2.2.2.2.2.2.2.2.2.2.1 v.2.2.2.2.2.2.2.2.2.2.2.2.2.2.2.1 v.2.2.2.2.2.2.2.2.2.2.2.2.2.2.2.2.1 v.2.2.2.2.2.2.2.2.2.2.2.2.2.2.2.2.2.1 v.2.2.2.2.2.2.2.2.2.2.2.2.2.2.2.2.2.2.1 v.2.2.2.2.2.2.2.2.2.2.2.2.2.2.2.2.2.2.2.1 v.2.2.2.2.2.2.2.2.2.2.2.2.2.2.2.2.2.2.2.2.1 v.2.2.2.2.2.2.2.2.2.2.2.2.2.2.2.2.2.2.2.2.2.1 v.2.2.2.2.2.2.2.2.2.2.2.2.2.2.2.2.2.2.2.2.2.2.1 v.2.2.2.2.2.2.2.2.2.2.2.2.2.2.2.2.2.2.2.2.2.2.2.1 v.2.2.2.2.2.2.2.2.2.2.2.2.2.2.2.2.2.2.2.2.2.2.2.2.1 v.2.2.2.2.2.2.2.2.2.2.2.2.2.2.2.2.2.2.2.2.2.2.2.2.2.1 v.2.2.2.2.2.2.2.2.2.2.2.2.2.2.2.2.2.2.2.2.2.2.2.2.2.2.1 v.2.2.2.2.2.2.2.2.2.2.2.2.2.2.2.2.2.2.2.2.2.2.2.2.2.2.2.1 v.2.2.2.2.2.2.2.2.2.2.2.2.2.2.2.2.2.2.2.2.2.2.2.2.2.2.2.2.1 v.2.2.2.2.2.2.2.2.2.2.2.2.2.2.2.2.2.2.2.2.2.2.2.2.2.2.2.2.2)
def qnZ (v : qdu) : Option (Nat × qdu) := qaF (qao (fun v => (qe5 v).ev) v)
theorem qrl (v : qdu) : qnZ v = qao (fun v => (qe5 v).ev) v := qaa _
def qB5 : qb3 := LE (τ := qdu) (hD qBn) (qnZ) qRh
theorem qQH : Go.Eng.Told IP (qae F12 0).1 (qae F12 0).2 (qB5) := qaw (inferInstance : Inhabited qdu) (hs := qBn) (st := qe5) (L := []) qzn (qad (l := []) (by kernel_rfl) trivial) (qrl) (fun v => by kernel_rfl) (fun v => by kernel_rfl)
abbrev qsR : Type := Int
def qlj : PArgs := ⟨[.agg [.int .i64, .int .i64, .str, .view 4]], []⟩
def qlx : List PRes := [⟨false, .int .i64, []⟩]
abbrev qbO : Type := Int → Int → (List UInt8) → (List AV) → Option qsR
def qor (G_u124q : qbO) : Prop := FH IP 84 qlj qlx (k4 G_u124q)
def qFC (G_u124q : qbO) : Tab := (84, FE qlj qlx (k4 G_u124q)) :: T15
theorem qjz (G_u124q : qbO) (hG : qor G_u124q) : qan IP (qFC G_u124q) := ⟨qam (hG), qzn⟩
abbrev qed : Type := Int × List AV × Int × Int
def qBD : List PSt := [⟨[(1008400, .junk), (3, .int .i64), (7, .view 4), (8, .int .i64), (9, .int .i64)], [], 0, 0⟩]
def qHr (x0 : Int) (x1 : List AV) (x2 x3 : Int) : X × St := (X.exit 0, ⟨[(3, AV.int IntKind.i64 x0)], [], 0, 0⟩)
def qRx : List (qed → X × St) := [(k4 qHr)]
def qmt (G_u124q : qbO) (x0 : Int) (x1 : List AV) (x2 x3 : Int) : DT (Rd qed) :=
 .br (decide (x3 < x2))
 (.br (qaS [CS.int IntKind.i64, CS.int IntKind.i64, CS.str, CS.slice 4] x1 x3)
 (.bi (G_u124q (intOf (cellAt x1 x3 0)) (intOf (cellAt x1 x3 1)) (strOf (cellAt x1 x3 2)) (qal (cellAt x1 x3 3))) (fun y0 =>
 .at (.next ((IntKind.i64.wrap (x0 + y0), x1, x2, IntKind.i64.wrap (x3 + 1)))))
 (.no))
 (.no))
 (.at (.done 0))
def qms (G_u124q : qbO) : qed → DT (Rd qed) := (fun v => qmt G_u124q v.1 v.2.1 v.2.2.1 v.2.2.2)
def qvi (G_u124q : qbO) (v : qed) : Option (Nat × qed) := qaF (qao (fun v => (qms G_u124q v).ev) v)
theorem qrJ (G_u124q : qbO) (v : qed) : qvi G_u124q v = qao (fun v => (qms G_u124q v).ev) v := qaa _
def qCl (G_u124q : qbO) : qb3 := LE (τ := qed) (hD qBD) (qvi G_u124q) qRx
theorem qQX (G_u124q : qbO) (hG : qor G_u124q) : Go.Eng.Told IP (qae F84 0).1 (qae F84 0).2 (qCl G_u124q) := qaw (inferInstance : Inhabited qed) (hs := qBD) (st := qms G_u124q) (L := []) (qjz G_u124q hG) (qad (l := []) (by kernel_rfl) trivial) (qrJ G_u124q) (fun v => by kernel_rfl) (fun v => by kernel_rfl)
def qpv (G_u124q : qbO) (x0 x1 : Int) (x2 : List UInt8) (x3 : List AV) : DT qsR :=
 .bi (pj 0 (qvi G_u124q (1, x3, (x3.length : Int), 0))) (fun y0 =>
 .at (y0.1))
 (.no)
def qdq : Nat → qbO
 | 0 => fun _ _ _ _ => none
 | n + 1 => fun x0 x1 x2 x3 => (qpv ((qdq n)) x0 x1 x2 x3).ev
def qoQ (x0 x1 : Int) (x2 : List UInt8) (x3 : List AV) : Option qsR := qiE fun n => (qdq n) x0 x1 x2 x3
theorem qm4 : ∀ n, qor ((qdq n))
 | 0 => (fun v y h => nomatch h)
 | n + 1 => have hG := qm4 n
 qah (F := F84) (L := [(1008400, qCl ((qdq n)))]) (t := (k4 (qpv ((qdq n))))) (qjz ((qdq n)) hG) (qad (l := [qae F84 0]) (by kernel_rfl) ⟨qax (by kernel_rfl) (qQX ((qdq n)) hG), trivial⟩) (by kernel_rfl) (fun v => by kernel_rfl) (fun v => rfl)
theorem qL3 : FH IP 84 qlj qlx (k4 qoQ) := qbL (p := qlj) (rs := qlx) (s := fun n => (k4 ((qdq n)))) fun n => (qm4 n)
def T16 : Tab := (84, FE qlj qlx (k4 qoQ)) :: T15
theorem qIB : qan IP T16 := ⟨qam qL3, qzn⟩
abbrev qsS : Type := Int
def qlk : PArgs := ⟨[.agg [.int .i64, .int .i64, .str, .view 4]], []⟩
def qly : List PRes := [⟨false, .int .i64, []⟩]
abbrev qbP : Type := Int → Int → (List UInt8) → (List AV) → Option qsS
def qos (G_u125q : qbP) : Prop := FH IP 85 qlk qly (k4 G_u125q)
def qFD (G_u125q : qbP) : Tab := (85, FE qlk qly (k4 G_u125q)) :: T16
theorem qjA (G_u125q : qbP) (hG : qos G_u125q) : qan IP (qFD G_u125q) := ⟨qam (hG), qIB⟩
abbrev qee : Type := Int × List AV × Int × Int
def qBE : List PSt := [⟨[(1008500, .junk), (3, .int .i64), (7, .view 4), (8, .int .i64), (9, .int .i64)], [], 0, 0⟩]
def qHs (x0 : Int) (x1 : List AV) (x2 x3 : Int) : X × St := (X.exit 0, ⟨[(3, AV.int IntKind.i64 x0)], [], 0, 0⟩)
def qRy : List (qee → X × St) := [(k4 qHs)]
def qmv (G_u125q : qbP) (x0 : Int) (x1 : List AV) (x2 x3 : Int) : DT (Rd qee) :=
 .br (decide (x3 < x2))
 (.br (qaS [CS.int IntKind.i64, CS.int IntKind.i64, CS.str, CS.slice 4] x1 x3)
 (.bi (G_u125q (intOf (cellAt x1 x3 0)) (intOf (cellAt x1 x3 1)) (strOf (cellAt x1 x3 2)) (qal (cellAt x1 x3 3))) (fun y0 =>
 .at (.next ((if y0 > x0 then y0 else x0, x1, x2, IntKind.i64.wrap (x3 + 1)))))
 (.no))
 (.no))
 (.at (.done 0))
def qmu (G_u125q : qbP) : qee → DT (Rd qee) := (fun v => qmv G_u125q v.1 v.2.1 v.2.2.1 v.2.2.2)
def qvj (G_u125q : qbP) (v : qee) : Option (Nat × qee) := qaF (qao (fun v => (qmu G_u125q v).ev) v)
theorem qrK (G_u125q : qbP) (v : qee) : qvj G_u125q v = qao (fun v => (qmu G_u125q v).ev) v := qaa _
def qCm (G_u125q : qbP) : qb3 := LE (τ := qee) (hD qBE) (qvj G_u125q) qRy
theorem qQY (G_u125q : qbP) (hG : qos G_u125q) : Go.Eng.Told IP (qae F85 0).1 (qae F85 0).2 (qCm G_u125q) := qaw (inferInstance : Inhabited qee) (hs := qBE) (st := qmu G_u125q) (L := []) (qjA G_u125q hG) (qad (l := []) (by kernel_rfl) trivial) (qrK G_u125q) (fun v => by kernel_rfl) (fun v => by kernel_rfl)
def qpw (G_u125q : qbP) (x0 x1 : Int) (x2 : List UInt8) (x3 : List AV) : DT qsS :=
 .bi (pj 0 (qvj G_u125q (0, x3, (x3.length : Int), 0))) (fun y0 =>
 .at (IntKind.i64.wrap (y0.1 + 1)))
 (.no)
def qdr : Nat → qbP
 | 0 => fun _ _ _ _ => none
 | n + 1 => fun x0 x1 x2 x3 => (qpw ((qdr n)) x0 x1 x2 x3).ev
def qj3 (x0 x1 : Int) (x2 : List UInt8) (x3 : List AV) : Option qsS := qiE fun n => (qdr n) x0 x1 x2 x3
theorem qm5 : ∀ n, qos ((qdr n))
 | 0 => (fun v y h => nomatch h)
 | n + 1 => have hG := qm5 n
 qah (F := F85) (L := [(1008500, qCm ((qdr n)))]) (t := (k4 (qpw ((qdr n))))) (qjA ((qdr n)) hG) (qad (l := [qae F85 0]) (by kernel_rfl) ⟨qax (by kernel_rfl) (qQY ((qdr n)) hG), trivial⟩) (by kernel_rfl) (fun v => by kernel_rfl) (fun v => rfl)
theorem qL4 : FH IP 85 qlk qly (k4 qj3) := qbL (p := qlk) (rs := qly) (s := fun n => (k4 ((qdr n)))) fun n => (qm5 n)
def T17 : Tab := (85, FE qlk qly (k4 qj3)) :: T16
theorem qIC : qan IP T17 := ⟨qam qL4, qIB⟩
abbrev qH7 : Type := Int
def qKi : PArgs := ⟨[.int .i64], []⟩
def qK7 : List PRes := [⟨false, .int .i64, []⟩]
def qp0 (x0 : Int) : DT qH7 :=
 .br (x0 == 1)
 (.br (x0 == 1)
 (.at (0))
 (.br (x0 == 9)
 (.br (x0 == 9)
 (.at (1))
 (.br (x0 == 19)
 (.at (3))
 (.bi (br (decide (x0 ≥ 5)) (some (decide (x0 ≤ 18))) (some false)) (fun y0 =>
 .br (y0) (.at (2)) (.at (-1)))
 (.no))))
 (.br (x0 == 16)
 (.at (1))
 (.br (x0 == 19)
 (.at (3))
 (.bi (br (decide (x0 ≥ 5)) (some (decide (x0 ≤ 18))) (some false)) (fun y0 =>
 .br (y0) (.at (2)) (.at (-1)))
 (.no))))))
 (.br (x0 == 2)
 (.br (x0 == 2)
 (.at (0))
 (.br (x0 == 9)
 (.br (x0 == 9)
 (.at (1))
 (.br (x0 == 19)
 (.at (3))
 (.bi (br (decide (x0 ≥ 5)) (some (decide (x0 ≤ 18))) (some false)) (fun y0 =>
 .br (y0) (.at (2)) (.at (-1)))
 (.no))))
 (.br (x0 == 16)
 (.at (1))
 (.br (x0 == 19)
 (.at (3))
 (.bi (br (decide (x0 ≥ 5)) (some (decide (x0 ≤ 18))) (some false)) (fun y0 =>
 .br (y0) (.at (2)) (.at (-1)))
 (.no))))))
 (.br (x0 == 3)
 (.br (x0 == 3)
 (.at (0))
 (.br (x0 == 9)
 (.br (x0 == 9)
 (.at (1))
 (.br (x0 == 19)
 (.at (3))
 (.bi (br (decide (x0 ≥ 5)) (some (decide (x0 ≤ 18))) (some false)) (fun y0 =>
 .br (y0) (.at (2)) (.at (-1)))
 (.no))))
 (.br (x0 == 16)
 (.at (1))
 (.br (x0 == 19)
 (.at (3))
 (.bi (br (decide (x0 ≥ 5)) (some (decide (x0 ≤ 18))) (some false)) (fun y0 =>
 .br (y0) (.at (2)) (.at (-1)))
 (.no))))))
 (.br (x0 == 4)
 (.at (0))
 (.br (x0 == 9)
 (.br (x0 == 9)
 (.at (1))
 (.br (x0 == 19)
 (.at (3))
 (.bi (br (decide (x0 ≥ 5)) (some (decide (x0 ≤ 18))) (some false)) (fun y0 =>
 .br (y0) (.at (2)) (.at (-1)))
 (.no))))
 (.br (x0 == 16)
 (.at (1))
 (.br (x0 == 19)
 (.at (3))
 (.bi (br (decide (x0 ≥ 5)) (some (decide (x0 ≤ 18))) (some false)) (fun y0 =>
 .br (y0) (.at (2)) (.at (-1)))
 (.no))))))))
def qio (x0 : Int) : Option qH7 := qaF (qp0 x0).ev
theorem qAF (x0 : Int) : qio x0 = (qp0 x0).ev := qaa _
theorem qPd : FH IP 110 qKi qK7 qio := qah (F := qR2) (L := []) (t := qp0) qIC (qad (l := []) (by kernel_rfl) trivial) (by kernel_rfl) (fun v => by kernel_rfl) (fun _ => qaa _)
def T18 : Tab := (110, FE qKi qK7 qio) :: T17
theorem qID : qan IP T18 := ⟨qam qPd, qIC⟩
abbrev qyn : Type := Bool
def qCU : PArgs := ⟨[.agg [.int .i64, .int .i64, .str, .view 4]], []⟩
def qDG : List PRes := [⟨false, .bool, []⟩]
def qiR (x0 x1 : Int) (x2 : List UInt8) (x3 : List AV) : DT qyn :=
 .br (x0 == 1)
 (.bi (qio x0) (fun y0 =>
 .br (y0 == (x3.length : Int))
 (.br (decide (x1 ≥ 0))
 (.br (decide (x1 ≤ 9223372036854775807))
 (.br (x2 == []) (.at (true)) (.at (x0 == 4)))
 (.at (false)))
 (.at (false)))
 (.at (false)))
 (.no))
 (.br (x0 == 2)
 (.bi (qio x0) (fun y0 =>
 .br (y0 == (x3.length : Int))
 (.br (decide (x1 ≥ 0))
 (.br (decide (x1 ≤ 1000000000000))
 (.br (x2 == []) (.at (true)) (.at (x0 == 4)))
 (.at (false)))
 (.at (false)))
 (.at (false)))
 (.no))
 (.br (x0 == 3)
 (.bi (qio x0) (fun y0 =>
 .br (y0 == (x3.length : Int))
 (.br (decide (x1 ≥ 0))
 (.br (decide (x1 ≤ 1000000))
 (.br (x2 == []) (.at (true)) (.at (x0 == 4)))
 (.at (false)))
 (.at (false)))
 (.at (false)))
 (.no))
 (.bi (qio x0) (fun y0 =>
 .br (y0 == (x3.length : Int))
 (.br (decide (x1 ≥ 0))
 (.br (decide (x1 ≤ 0))
 (.br (x2 == []) (.at (true)) (.at (x0 == 4)))
 (.at (false)))
 (.at (false)))
 (.at (false)))
 (.no))))
def qjW (x0 x1 : Int) (x2 : List UInt8) (x3 : List AV) : Option qyn := qaF (qiR x0 x1 x2 x3).ev
theorem qwq (x0 x1 : Int) (x2 : List UInt8) (x3 : List AV) : qjW x0 x1 x2 x3 = (qiR x0 x1 x2 x3).ev := qaa _
theorem qLS : FH IP 87 qCU qDG (k4 qjW) := qah (F := F87) (L := []) (t := (k4 qiR)) qID (qad (l := []) (by kernel_rfl) trivial) (by kernel_rfl) (fun v => by kernel_rfl) (fun _ => qaa _)
def T19 : Tab := (87, FE qCU qDG (k4 qjW)) :: T18
theorem qIE : qan IP T19 := ⟨qam qLS, qID⟩
abbrev qsT : Type := Bool
def qll : PArgs := ⟨[.agg [.int .i64, .int .i64, .str, .view 4], .fn (.func 87) []], []⟩
def qlz : List PRes := [⟨false, .bool, []⟩]
abbrev qbg : Type := Int → Int → (List UInt8) → (List AV) → Option qsT
abbrev qLE : Type := Bool
def qDC : PArgs := ⟨[.view 4, .fn (.func 109) [.ptr [.fn (.func 87) []]]], []⟩
def qEn : List PRes := [⟨false, .bool, []⟩]
abbrev qdd : Type := (List AV) → Option qLE
abbrev qyK : Type := Int
def qsg : PArgs := ⟨[.view 4, .fn (.func 109) [.ptr [.fn (.func 87) []]]], []⟩
def qsl : List PRes := [⟨false, .int .i64, []⟩]
abbrev qbR : Type := (List AV) → Option qyK
abbrev qy7 : Type := Bool
def qsj : PArgs := ⟨[.agg [.int .i64, .int .i64, .str, .view 4], .ptr [.fn (.func 87) []]], []⟩
def qso : List PRes := [⟨false, .bool, []⟩]
abbrev qbX : Type := Int → Int → (List UInt8) → (List AV) → Option qy7
def qot (G_u126q : qbg) (G_u9q : qdd) (G_u13q : qbR) (G_u75q : qbX) : Prop := FH IP 86 qll qlz (k4 G_u126q) ∧ FH IP 108 qDC qEn G_u9q ∧ FH IP 133 qsg qsl G_u13q ∧ FH IP 109 qsj qso (k4 G_u75q)
def qFE (G_u126q : qbg) (G_u9q : qdd) (G_u13q : qbR) (G_u75q : qbX) : Tab := (86, FE qll qlz (k4 G_u126q)) :: (108, FE qDC qEn G_u9q) :: (133, FE qsg qsl G_u13q) :: (109, FE qsj qso (k4 G_u75q)) :: T19
theorem qcU (G_u126q : qbg) (G_u9q : qdd) (G_u13q : qbR) (G_u75q : qbX) (hG : qot G_u126q G_u9q G_u13q G_u75q) : qan IP (qFE G_u126q G_u9q G_u13q G_u75q) := ⟨qam (hG.1), qam (hG.2.1), qam (hG.2.2.1), qam (hG.2.2.2), qIE⟩
abbrev qdW : Type := List AV × Int × Int
def qBg : List PSt := [⟨[(1013300, .junk), (0, .view 4), (1, .fn (.func 109) [.ptr [.fn (.func 87) []]]), (7, .int .i64), (8, .int .i64)], [], 0, 0⟩]
def qGI (x0 : List AV) (x1 x2 : Int) : X × St := (X.ret, ⟨[(4, AV.int IntKind.i64 x2)], [], 0, 0⟩)
def qGJ (x0 : List AV) (x1 x2 : Int) : X × St := (X.exit 0, ⟨[(4, AV.junk)], [], 0, 0⟩)
def qRa : List (qdW → X × St) := [(k3 qGI), (k3 qGJ)]
def qlY (G_u126q : qbg) (G_u9q : qdd) (G_u13q : qbR) (G_u75q : qbX) (x0 : List AV) (x1 x2 : Int) : DT (Rd qdW) :=
 .br (decide (x2 < x1))
 (.br (qaS [CS.int IntKind.i64, CS.int IntKind.i64, CS.str, CS.slice 4] x0 x2)
 (.bi (G_u75q (intOf (cellAt x0 x2 0)) (intOf (cellAt x0 x2 1)) (strOf (cellAt x0 x2 2)) (qal (cellAt x0 x2 3))) (fun y0 =>
 .br (y0) (.at (.done 0)) (.at (.next ((x0, x1, IntKind.i64.wrap (x2 + 1))))))
 (.no))
 (.no))
 (.at (.done 1))
def qlX (G_u126q : qbg) (G_u9q : qdd) (G_u13q : qbR) (G_u75q : qbX) : qdW → DT (Rd qdW) := (fun v => qlY G_u126q G_u9q G_u13q G_u75q v.1 v.2.1 v.2.2)
def qrc (G_u126q : qbg) (G_u9q : qdd) (G_u13q : qbR) (G_u75q : qbX) (v : qdW) : Option (Nat × qdW) := qaF (qao (fun v => (qlX G_u126q G_u9q G_u13q G_u75q v).ev) v)
theorem qrd (G_u126q : qbg) (G_u9q : qdd) (G_u13q : qbR) (G_u75q : qbX) (v : qdW) : qrc G_u126q G_u9q G_u13q G_u75q v = qao (fun v => (qlX G_u126q G_u9q G_u13q G_u75q v).ev) v := qaa _
def qBY (G_u126q : qbg) (G_u9q : qdd) (G_u13q : qbR) (G_u75q : qbX) : qb3 := LE (τ := qdW) (hD qBg) (qrc G_u126q G_u9q G_u13q G_u75q) qRa
theorem qQA (G_u126q : qbg) (G_u9q : qdd) (G_u13q : qbR) (G_u75q : qbX) (hG : qot G_u126q G_u9q G_u13q G_u75q) : Go.Eng.Told IP (qae qFq 0).1 (qae qFq 0).2 (qBY G_u126q G_u9q G_u13q G_u75q) := qaw (inferInstance : Inhabited qdW) (hs := qBg) (st := qlX G_u126q G_u9q G_u13q G_u75q) (L := []) (qcU G_u126q G_u9q G_u13q G_u75q hG) (qad (l := []) (by kernel_rfl) trivial) (qrd G_u126q G_u9q G_u13q G_u75q) (fun v => by kernel_rfl) (fun v => by kernel_rfl)
def qpx (G_u126q : qbg) (G_u9q : qdd) (G_u13q : qbR) (G_u75q : qbX) (x0 x1 : Int) (x2 : List UInt8) (x3 : List AV) : DT qsT :=
 .bi (qjW x0 x1 x2 x3) (fun y0 =>
 .bi (br y0 (br (sm (G_u9q x3)) (some !gv (G_u9q x3)) none) (some false)) (fun y1 =>
 .at (y1))
 (.no))
 (.no)
def qEK (G_u126q : qbg) (G_u9q : qdd) (G_u13q : qbR) (G_u75q : qbX) (x0 : List AV) : DT qLE :=
 .bi (G_u13q x0) (fun y0 =>
 .at (decide (y0 ≥ 0)))
 (.no)
def quw (G_u126q : qbg) (G_u9q : qdd) (G_u13q : qbR) (G_u75q : qbX) (x0 : List AV) : DT qyK :=
 .bi (pj 0
 (qrc G_u126q G_u9q G_u13q G_u75q (x0, (x0.length : Int), 0))) (fun y0 =>
 .at (y0.2.2))
 (.bi (pj 1
 (qrc G_u126q G_u9q G_u13q G_u75q (x0, (x0.length : Int), 0))) (fun y0 =>
 .at (-1))
 (.no))
def quz (G_u126q : qbg) (G_u9q : qdd) (G_u13q : qbR) (G_u75q : qbX) (x0 x1 : Int) (x2 : List UInt8) (x3 : List AV) : DT qy7 :=
 .bi (G_u126q x0 x1 x2 x3) (fun y0 =>
 .at (!y0))
 (.no)
def qak : Nat → qbg × qdd × qbR × qbX
 | 0 => (fun _ _ _ _ => none, fun _ => none, fun _ => none, fun _ _ _ _ => none)
 | n + 1 => (fun x0 x1 x2 x3 => (qpx ((qak n).1) ((qak n).2.1) ((qak n).2.2.1) ((qak n).2.2.2) x0 x1 x2 x3).ev, fun x0 => (qEK ((qak n).1) ((qak n).2.1) ((qak n).2.2.1) ((qak n).2.2.2) x0).ev, fun x0 => (quw ((qak n).1) ((qak n).2.1) ((qak n).2.2.1) ((qak n).2.2.2) x0).ev, fun x0 x1 x2 x3 => (quz ((qak n).1) ((qak n).2.1) ((qak n).2.2.1) ((qak n).2.2.2) x0 x1 x2 x3).ev)
def qoR (x0 x1 : Int) (x2 : List UInt8) (x3 : List AV) : Option qsT := qiE fun n => (qak n).1 x0 x1 x2 x3
def qPM (x0 : List AV) : Option qLE := qiE fun n => (qak n).2.1 x0
def qJA (x0 : List AV) : Option qyK := qiE fun n => (qak n).2.2.1 x0
def qJC (x0 x1 : Int) (x2 : List UInt8) (x3 : List AV) : Option qy7 := qiE fun n => (qak n).2.2.2 x0 x1 x2 x3
theorem qdC : ∀ n, qot ((qak n).1) ((qak n).2.1) ((qak n).2.2.1) ((qak n).2.2.2)
 | 0 => ⟨(fun v y h => nomatch h), (fun v y h => nomatch h), (fun v y h => nomatch h), (fun v y h => nomatch h)⟩
 | n + 1 => have hG := qdC n
 ⟨qah (F := F86) (L := []) (t := (k4 (qpx ((qak n).1) ((qak n).2.1) ((qak n).2.2.1) ((qak n).2.2.2)))) (qcU ((qak n).1) ((qak n).2.1) ((qak n).2.2.1) ((qak n).2.2.2) hG) (qad (l := []) (by kernel_rfl) trivial) (by kernel_rfl) (fun v => by kernel_rfl) (fun v => rfl), qah (F := qRI) (L := []) (t := (qEK ((qak n).1) ((qak n).2.1) ((qak n).2.2.1) ((qak n).2.2.2))) (qcU ((qak n).1) ((qak n).2.1) ((qak n).2.2.1) ((qak n).2.2.2) hG) (qad (l := []) (by kernel_rfl) trivial) (by kernel_rfl) (fun v => by kernel_rfl) (fun v => rfl), qah (F := qFq) (L := [(1013300, qBY ((qak n).1) ((qak n).2.1) ((qak n).2.2.1) ((qak n).2.2.2))]) (t := (quw ((qak n).1) ((qak n).2.1) ((qak n).2.2.1) ((qak n).2.2.2))) (qcU ((qak n).1) ((qak n).2.1) ((qak n).2.2.1) ((qak n).2.2.2) hG) (qad (l := [qae qFq 0]) (by kernel_rfl) ⟨qax (by kernel_rfl) (qQA ((qak n).1) ((qak n).2.1) ((qak n).2.2.1) ((qak n).2.2.2) hG), trivial⟩) (by kernel_rfl) (fun v => by kernel_rfl) (fun v => rfl), qah (F := qRJ) (L := []) (t := (k4 (quz ((qak n).1) ((qak n).2.1) ((qak n).2.2.1) ((qak n).2.2.2)))) (qcU ((qak n).1) ((qak n).2.1) ((qak n).2.2.1) ((qak n).2.2.2) hG) (qad (l := []) (by kernel_rfl) trivial) (by kernel_rfl) (fun v => by kernel_rfl) (fun v => rfl)⟩
theorem qL5 : FH IP 86 qll qlz (k4 qoR) := qbL (p := qll) (rs := qlz) (s := fun n => (k4 ((qak n).1))) fun n => (qdC n).1
theorem qSM : FH IP 108 qDC qEn qPM := qbL (p := qDC) (rs := qEn) (s := fun n => ((qak n).2.1)) fun n => (qdC n).2.1
theorem qOO : FH IP 133 qsg qsl qJA := qbL (p := qsg) (rs := qsl) (s := fun n => ((qak n).2.2.1)) fun n => (qdC n).2.2.1
theorem qPp : FH IP 109 qsj qso (k4 qJC) := qbL (p := qsj) (rs := qso) (s := fun n => (k4 ((qak n).2.2.2))) fun n => (qdC n).2.2.2
def T20 : Tab := (86, FE qll qlz (k4 qoR)) :: T19
theorem qOs : qan IP T20 := ⟨qam qL5, qIE⟩
def T21 : Tab := (108, FE qDC qEn qPM) :: T20
theorem qOt : qan IP T21 := ⟨qam qSM, qOs⟩
def T22 : Tab := (133, FE qsg qsl qJA) :: T21
theorem qOu : qan IP T22 := ⟨qam qOO, qOt⟩
def T23 : Tab := (109, FE qsj qso (k4 qJC)) :: T22
theorem qIF : qan IP T23 := ⟨qam qPp, qOu⟩
abbrev qH3 : Type := Bool
def qKe : PArgs := ⟨[.int .i32], []⟩
def qK3 : List PRes := [⟨false, .bool, []⟩]
def qpW (x0 : Int) : DT qH3 :=
 .at (x0 != 10)
def qnl (x0 : Int) : Option qH3 := qaF (qpW x0).ev
theorem qAB (x0 : Int) : qnl x0 = (qpW x0).ev := qaa _
theorem qO8 : FH IP 165 qKe qK3 qnl := qah (F := qSd) (L := []) (t := qpW) qIF (qad (l := []) (by kernel_rfl) trivial) (by kernel_rfl) (fun v => by kernel_rfl) (fun _ => qaa _)
def T24 : Tab := (165, FE qKe qK3 qnl) :: T23
theorem qzo : qan IP T24 := ⟨qam qO8, qIF⟩
abbrev qea : Type := List UInt8 × Int
def qBA : List PSt := [⟨[(1016400, .junk), (0, .str), (1, .fn (.func 165) []), (5, .int .i64)], [], 0, 0⟩]
def qHn (x0 : List UInt8) (x1 : Int) : X × St := (X.exit 0, ⟨[(0, AV.str x0), (5, AV.int IntKind.i64 x1)], [], 0, 0⟩)
def qRu : List (qea → X × St) := [(k2 qHn)]
def qmp (x0 : List UInt8) (x1 : Int) : DT (Rd qea) :=
 .bi (br (decide (x1 < (x0.length : Int)))
 (br (inB x0.length x1) (br (sm (qnl (IntKind.i32.wrap (qaC x0 x1)))) (some (gv (qnl (IntKind.i32.wrap (qaC x0 x1))))) none) none) (some false)) (fun y0 =>
 .br (y0) (.at (.next ((x0, IntKind.i64.wrap (x1 + 1))))) (.at (.done 0)))
 (.no)
def qmo : qea → DT (Rd qea) := (fun v => qmp v.1 v.2)
def qvf (v : qea) : Option (Nat × qea) := qaF (qao (fun v => (qmo v).ev) v)
theorem qrF (v : qea) : qvf v = qao (fun v => (qmo v).ev) v := qaa _
def qCi : qb3 := LE (τ := qea) (hD qBA) (qvf) qRu
theorem qQU : Go.Eng.Told IP (qae qqs 0).1 (qae qqs 0).2 (qCi) := qaw (inferInstance : Inhabited qea) (hs := qBA) (st := qmo) (L := []) qzo (qad (l := []) (by kernel_rfl) trivial) (qrF) (fun v => by kernel_rfl) (fun v => by kernel_rfl)
abbrev qIv : Type := List UInt8
def qKG : PArgs := ⟨[.str, .fn (.func 165) []], []⟩
def qLv : List PRes := [⟨false, .str, []⟩]
def qqo (x0 : List UInt8) : DT qIv :=
 .bi (pj 0 (qvf (x0, 0))) (fun y0 =>
 .br (leB y0.2 y0.1.length && true) (.at (List.take y0.2.toNat y0.1)) (.no))
 (.no)
def qkB (x0 : List UInt8) : Option qIv := qaF (qqo x0).ev
theorem qA5 (x0 : List UInt8) : qkB x0 = (qqo x0).ev := qaa _
theorem qPC : FH IP 164 qKG qLv qkB := qah (F := qqs) (L := [(1016400, qCi)]) (t := qqo) qzo (qad (l := [qae qqs 0]) (by kernel_rfl) ⟨qax (by kernel_rfl) qQU, trivial⟩) (by kernel_rfl) (fun v => by kernel_rfl) (fun _ => qaa _)
def T25 : Tab := (164, FE qKG qLv qkB) :: T24
theorem qzp : qan IP T25 := ⟨qam qPC, qzo⟩
abbrev qd9 : Type := List UInt8 × Int
def qBz : List PSt := [⟨[(1015100, .junk), (0, .str), (3, .int .i64)], [], 0, 0⟩]
def qHl (x0 : List UInt8) (x1 : Int) : X × St := (X.ret, ⟨[(2, AV.int IntKind.i64 x1), (3, AV.int IntKind.i64 x1)], [], 0, 0⟩)
def qHm (x0 : List UInt8) (x1 : Int) : X × St := (X.exit 0, ⟨[(2, AV.junk), (3, AV.int IntKind.i64 x1)], [], 0, 0⟩)
def qRt : List (qd9 → X × St) := [(k2 qHl), (k2 qHm)]
def qmn (x0 : List UInt8) (x1 : Int) : DT (Rd qd9) :=
 .br (decide (x1 < (x0.length : Int)))
 (.br (inB x0.length x1)
 (.br (qaC x0 x1 == 32)
 (.br (qaC x0 x1 == 32)
 (.at (.next ((x0, IntKind.i64.wrap (x1 + 1)))))
 (.br (qaC x0 x1 == 35)
 (.br (leB x1 x0.length)
 (.bi (qkB (List.drop x1.toNat x0)) (fun y0 =>
 .at (.next ((x0, IntKind.i64.wrap (x1 + (y0.length : Int))))))
 (.no))
 (.no))
 (.at (.done 0))))
 (.br (qaC x0 x1 == 9)
 (.br (qaC x0 x1 == 9)
 (.at (.next ((x0, IntKind.i64.wrap (x1 + 1)))))
 (.br (qaC x0 x1 == 35)
 (.br (leB x1 x0.length)
 (.bi (qkB (List.drop x1.toNat x0)) (fun y0 =>
 .at (.next ((x0, IntKind.i64.wrap (x1 + (y0.length : Int))))))
 (.no))
 (.no))
 (.at (.done 0))))
 (.br (qaC x0 x1 == 10)
 (.at (.next ((x0, IntKind.i64.wrap (x1 + 1)))))
 (.br (qaC x0 x1 == 35)
 (.br (leB x1 x0.length)
 (.bi (qkB (List.drop x1.toNat x0)) (fun y0 =>
 .at (.next ((x0, IntKind.i64.wrap (x1 + (y0.length : Int))))))
 (.no))
 (.no))
 (.at (.done 0))))))
 (.no))
 (.at (.done 1))
def qid : qd9 → DT (Rd qd9) := (fun v => qmn v.1 v.2)
def qrE (v : qd9) : Option (Nat × qd9) := qaF (qao (fun v => (qid v).ev) v)
theorem qg2 (v : qd9) : qrE v = qao (fun v => (qid v).ev) v := qaa _
def qCh : qb3 := LE (τ := qd9) (hD qBz) (qrE) qRt
theorem qQT : Go.Eng.Told IP (qae qN1 0).1 (qae qN1 0).2 (qCh) := qaw (inferInstance : Inhabited qd9) (hs := qBz) (st := qid) (L := []) qzp (qad (l := []) (by kernel_rfl) trivial) (qg2) (fun v => by kernel_rfl) (fun v => by kernel_rfl)
abbrev qIr : Type := Int
def qKC : PArgs := ⟨[.str], []⟩
def qLr : List PRes := [⟨false, .int .i64, []⟩]
def qqk (x0 : List UInt8) : DT qIr :=
 .bi (pj 0 (qrE (x0, 0))) (fun y0 =>
 .at (y0.2))
 (.bi (pj 1 (qrE (x0, 0))) (fun y0 =>
 .at (y0.2))
 (.no))
def qb6 (x0 : List UInt8) : Option qIr := qaF (qqk x0).ev
theorem qA1 (x0 : List UInt8) : qb6 x0 = (qqk x0).ev := qaa _
theorem qPy : FH IP 151 qKC qLr qb6 := qah (F := qN1) (L := [(1015100, qCh)]) (t := qqk) qzp (qad (l := [qae qN1 0]) (by kernel_rfl) ⟨qax (by kernel_rfl) qQT, trivial⟩) (by kernel_rfl) (fun v => by kernel_rfl) (fun _ => qaa _)
def T26 : Tab := (151, FE qKC qLr qb6) :: T25
theorem qIG : qan IP T26 := ⟨qam qPy, qzp⟩
abbrev qIt : Type := Bool
def qKE : PArgs := ⟨[.int .i32], []⟩
def qLt : List PRes := [⟨false, .bool, []⟩]
def qqm (x0 : Int) : DT qIt :=
 .bi (br (decide (x0 ≥ 97)) (some (decide (x0 ≤ 122))) (some false)) (fun y0 =>
 .at (y0))
 (.no)
def qnz (x0 : Int) : Option qIt := qaF (qqm x0).ev
theorem qA3 (x0 : Int) : qnz x0 = (qqm x0).ev := qaa _
theorem qPA : FH IP 169 qKE qLt qnz := qah (F := qSe) (L := []) (t := qqm) qIG (qad (l := []) (by kernel_rfl) trivial) (by kernel_rfl) (fun v => by kernel_rfl) (fun _ => qaa _)
def T27 : Tab := (169, FE qKE qLt qnz) :: T26
theorem qIH : qan IP T27 := ⟨qam qPA, qIG⟩
abbrev qyq : Type := Bool
def qCX : PArgs := ⟨[.int .i32], []⟩
def qDJ : List PRes := [⟨false, .bool, []⟩]
def qiU (x0 : Int) : DT qyq :=
 .bi (br (decide (x0 ≥ 48)) (some (decide (x0 ≤ 57))) (some false)) (fun y0 =>
 .at (y0))
 (.no)
def qer (x0 : Int) : Option qyq := qaF (qiU x0).ev
theorem qwt (x0 : Int) : qer x0 = (qiU x0).ev := qaa _
theorem qLV : FH IP 172 qCX qDJ qer := qah (F := qSh) (L := []) (t := qiU) qIH (qad (l := []) (by kernel_rfl) trivial) (by kernel_rfl) (fun v => by kernel_rfl) (fun _ => qaa _)
def T28 : Tab := (172, FE qCX qDJ qer) :: T27
theorem qII : qan IP T28 := ⟨qam qLV, qIH⟩
abbrev qIs : Type := Bool
def qKD : PArgs := ⟨[.int .i32], []⟩
def qLs : List PRes := [⟨false, .bool, []⟩]
def qql (x0 : Int) : DT qIs :=
 .bi (qnz x0) (fun y0 =>
 .bi (br y0 (some true) (br (sm (qer x0)) (some (gv (qer x0))) none)) (fun y1 =>
 .bi (br y1 (some true) (some (x0 == 95))) (fun y2 =>
 .at (y2))
 (.no))
 (.no))
 (.no)
def qkA (x0 : Int) : Option qIs := qaF (qql x0).ev
theorem qA2 (x0 : Int) : qkA x0 = (qql x0).ev := qaa _
theorem qPz : FH IP 170 qKD qLs qkA := qah (F := qSf) (L := []) (t := qql) qII (qad (l := []) (by kernel_rfl) trivial) (by kernel_rfl) (fun v => by kernel_rfl) (fun _ => qaa _)
def T29 : Tab := (170, FE qKD qLs qkA) :: T28
theorem qzq : qan IP T29 := ⟨qam qPz, qII⟩
abbrev qd3 : Type := List UInt8 × Int
def qBq : List PSt := [⟨[(1016400, .junk), (0, .str), (1, .fn (.func 170) []), (5, .int .i64)], [], 0, 0⟩]
def qG6 (x0 : List UInt8) (x1 : Int) : X × St := (X.exit 0, ⟨[(0, AV.str x0), (5, AV.int IntKind.i64 x1)], [], 0, 0⟩)
def qRk : List (qd3 → X × St) := [(k2 qG6)]
def qma (x0 : List UInt8) (x1 : Int) : DT (Rd qd3) :=
 .bi (br (decide (x1 < (x0.length : Int)))
 (br (inB x0.length x1) (br (sm (qkA (IntKind.i32.wrap (qaC x0 x1)))) (some (gv (qkA (IntKind.i32.wrap (qaC x0 x1))))) none) none) (some false)) (fun y0 =>
 .br (y0) (.at (.next ((x0, IntKind.i64.wrap (x1 + 1))))) (.at (.done 0)))
 (.no)
def ql9 : qd3 → DT (Rd qd3) := (fun v => qma v.1 v.2)
def qvb (v : qd3) : Option (Nat × qd3) := qaF (qao (fun v => (ql9 v).ev) v)
theorem qrq (v : qd3) : qvb v = qao (fun v => (ql9 v).ev) v := qaa _
def qB8 : qb3 := LE (τ := qd3) (hD qBq) (qvb) qRk
theorem qQK : Go.Eng.Told IP (qae qqs 0).1 (qae qqs 0).2 (qB8) := qaw (inferInstance : Inhabited qd3) (hs := qBq) (st := ql9) (L := []) qzq (qad (l := []) (by kernel_rfl) trivial) (qrq) (fun v => by kernel_rfl) (fun v => by kernel_rfl)
abbrev qIb : Type := List UInt8
def qKm : PArgs := ⟨[.str, .fn (.func 170) []], []⟩
def qLb : List PRes := [⟨false, .str, []⟩]
def qp4 (x0 : List UInt8) : DT qIb :=
 .bi (pj 0 (qvb (x0, 0))) (fun y0 =>
 .br (leB y0.2 y0.1.length && true) (.at (List.take y0.2.toNat y0.1)) (.no))
 (.no)
def qqX (x0 : List UInt8) : Option qIb := qaF (qp4 x0).ev
theorem qAK (x0 : List UInt8) : qqX x0 = (qp4 x0).ev := qaa _
theorem qPh : FH IP 164 qKm qLb qqX := qah (F := qqs) (L := [(1016400, qB8)]) (t := qp4) qzq (qad (l := [qae qqs 0]) (by kernel_rfl) ⟨qax (by kernel_rfl) qQK, trivial⟩) (by kernel_rfl) (fun v => by kernel_rfl) (fun _ => qaa _)
def T30 : Tab := (164, FE qKm qLb qqX) :: T29
theorem qIJ : qan IP T30 := ⟨qam qPh, qzq⟩
abbrev qys : Type := List AV
def qCZ : PArgs := ⟨[], []⟩
def qDL : List PRes := [⟨false, .view 1, []⟩]
def qiW : DT qys :=
 .at ([AV.str ([] ++ [112] ++ [114] ++ [111] ++ [100] ++ [117] ++ [99] ++ [116]), AV.str ([] ++ [99] ++ [117] ++ [114] ++ [114] ++ [101] ++ [110] ++ [99] ++ [121]),
 AV.str ([] ++ [99] ++ [97] ++ [108] ++ [101] ++ [110] ++ [100] ++ [97] ++ [114]), AV.str ([] ++ [102] ++ [114] ++ [111] ++ [109]),
 AV.str ([] ++ [101] ++ [118] ++ [101] ++ [114] ++ [121]), AV.str ([] ++ [111] ++ [118] ++ [101] ++ [114] ++ [100] ++ [114] ++ [97] ++ [102] ++ [116]),
 AV.str ([] ++ [116] ++ [97] ++ [120]), AV.str ([] ++ [99] ++ [114] ++ [101] ++ [100] ++ [105] ++ [116]), AV.str ([] ++ [100] ++ [101] ++ [98] ++ [105] ++ [116]),
 AV.str ([] ++ [109] ++ [97] ++ [114] ++ [103] ++ [105] ++ [110] ++ [97] ++ [108]), AV.str ([] ++ [119] ++ [104] ++ [111] ++ [108] ++ [101]),
 AV.str ([] ++ [97] ++ [99] ++ [116] ++ [51] ++ [54] ++ [48]), AV.str ([] ++ [97] ++ [99] ++ [116] ++ [51] ++ [54] ++ [53]),
 AV.str ([] ++ [97] ++ [99] ++ [116] ++ [117] ++ [97] ++ [108]), AV.str ([] ++ [116] ++ [104] ++ [105] ++ [114] ++ [116] ++ [121]),
 AV.str ([] ++ [100] ++ [111] ++ [119] ++ [110]), AV.str ([] ++ [117] ++ [112]), AV.str ([] ++ [102] ++ [108] ++ [111] ++ [111] ++ [114]),
 AV.str ([] ++ [99] ++ [101] ++ [105] ++ [108]), AV.str ([] ++ [104] ++ [97] ++ [108] ++ [102] ++ [95] ++ [117] ++ [112]),
 AV.str ([] ++ [104] ++ [97] ++ [108] ++ [102] ++ [95] ++ [101] ++ [118] ++ [101] ++ [110]), AV.str ([] ++ [107] ++ [101] ++ [101] ++ [112]),
 AV.str ([] ++ [100] ++ [114] ++ [111] ++ [112]), AV.str ([] ++ [102] ++ [101] ++ [101]), AV.str ([] ++ [108] ++ [105] ++ [109] ++ [105] ++ [116]),
 AV.str ([] ++ [119] ++ [104] ++ [101] ++ [110]), AV.str ([] ++ [97] ++ [109] ++ [111] ++ [117] ++ [110] ++ [116] ++ [95] ++ [111] ++ [102]),
 AV.str ([] ++ [115] ++ [105] ++ [110] ++ [103] ++ [108] ++ [101]), AV.str ([] ++ [100] ++ [97] ++ [105] ++ [108] ++ [121]),
 AV.str ([] ++ [109] ++ [111] ++ [110] ++ [116] ++ [104] ++ [108] ++ [121]), AV.str ([] ++ [109] ++ [111] ++ [110] ++ [116] ++ [104]),
 AV.str ([] ++ [114] ++ [101] ++ [116] ++ [117] ++ [114] ++ [110]), AV.str ([] ++ [99] ++ [108] ++ [111] ++ [115] ++ [101]),
 AV.str ([] ++ [101] ++ [118] ++ [101] ++ [110] ++ [116]), AV.str ([] ++ [105] ++ [102]), AV.str ([] ++ [116] ++ [104] ++ [101] ++ [110]),
 AV.str ([] ++ [101] ++ [108] ++ [115] ++ [101]), AV.str ([] ++ [97] ++ [110] ++ [100]), AV.str ([] ++ [111] ++ [114]), AV.str ([] ++ [110] ++ [111] ++ [116]),
 AV.str ([] ++ [109] ++ [105] ++ [110]), AV.str ([] ++ [109] ++ [97] ++ [120])])
def qj1 : Option qys := qaF (qiW).ev
theorem qwv : qj1 = (qiW).ev := qaa _
theorem qLX : FH IP 184 qCZ qDL (fun _ => qj1) := qah (F := qSn) (L := []) (t := (fun _ => qiW)) qIJ (qad (l := []) (by kernel_rfl) trivial) (by kernel_rfl) (fun v => by kernel_rfl) (fun _ => qaa _)
def T31 : Tab := (184, FE qCZ qDL (fun _ => qj1)) :: T30
theorem qzr : qan IP T31 := ⟨qam qLX, qIJ⟩
end
end Go.Proofs.H15c

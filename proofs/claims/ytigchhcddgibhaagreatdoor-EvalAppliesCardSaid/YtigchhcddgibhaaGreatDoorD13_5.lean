/- Functions over plain data. Printed by a program of mine. -/
import Derived.Test.YtigchhcddgibhaaGreatDoorD13_4
import Derived.KernelRfl
set_option linter.unusedVariables false
set_option linter.unusedSimpArgs false
set_option linter.unnecessarySimpa false
namespace Go.Proofs.H13
open Go Go.Eng
set_option maxRecDepth 100000
noncomputable section
abbrev qbx : Type := (List AV × List AV × List AV × Int × Int × Int × Int × List UInt8 × List AV × Int × Int) ⊕ (List AV × List AV × List AV × Int × Int × Int × Int × List UInt8 × List AV × Int × Int × List AV)
def qv3 : List PSt := [⟨[(1003801, .junk), (1, .view 2), (2, .view 2), (3, .ref 0 0 0), (6, .ref 1 0 0), (12, .nils 2), (82, .view 4), (83, .int .i64), (84, .int .i64)], [(0, .box [.int .i64, .int .i64, .str, .view 4] false), (1, .box [.int .i64, .int .i64] false)], 2, 0⟩, ⟨[(1003801, .junk), (1, .view 2), (2, .view 2), (3, .ref 0 0 0), (6, .ref 1 0 0), (12, .own 2 0), (82, .view 4), (83, .int .i64), (84, .int .i64)], [(0, .box [.int .i64, .int .i64, .str, .view 4] false), (1, .box [.int .i64, .int .i64] false), (2, .arr 2 false)], 3, 0⟩]
def qKh (G_u193q : qaW) (x0 x1 x2 : List AV) (x3 x4 : Int) (x5 x6 : Int) (x7 : List UInt8) (x8 : List AV) (x9 x10 : Int) : X × St := (.ret,
 ⟨[(3, .ref 0 0 0), (6, .ref 1 0 0),
 (7, .int .i64 (gv (G_u193q (intOf (cellAt x2 x4 0)) (intOf (cellAt x2 x4 1)) (strOf (cellAt x2 x4 2)) (qaj (cellAt x2 x4 3)) x0 x1)).2.2),
 (12, .nils ⟨2, .nil⟩)], [(0, .box [.int .i64 x5, .int .i64 x6, .str x7, .view 4 x8] false), (1, .box [.int .i64 0, .int .i64 0] false)], 2, 0⟩)
def qKi (G_u193q : qaW) (x0 x1 x2 : List AV) (x3 x4 : Int) (x5 x6 : Int) (x7 : List UInt8) (x8 : List AV) (x9 x10 : Int) : X × St := (.exit 3,
 ⟨[(3, .ref 0 0 0), (6, .ref 1 0 0), (7, .junk), (12, .nils ⟨2, .nil⟩)], [(0, .box [.int .i64 x5, .int .i64 x6, .str x7, .view 4 x8] false), (1, .box [.int .i64 x9, .int .i64 x10] false)], 2, 0⟩)
def qKj (G_u193q : qaW) (x0 x1 x2 : List AV) (x3 x4 : Int) (x5 x6 : Int) (x7 : List UInt8) (x8 : List AV) (x9 x10 : Int) (x11 : List AV) : X × St := (.ret,
 ⟨[(3, .ref 0 0 0), (6, .ref 1 0 0),
 (7, .int .i64 (gv (G_u193q (intOf (cellAt x2 x4 0)) (intOf (cellAt x2 x4 1)) (strOf (cellAt x2 x4 2)) (qaj (cellAt x2 x4 3)) x0 x1)).2.2),
 (12, .own 2 0 none)], [(0, .box [.int .i64 x5, .int .i64 x6, .str x7, .view 4 x8] false), (1, .box [.int .i64 0, .int .i64 0] false),
 (2, .arr 2 x11 false)], 3, 0⟩)
def qKk (G_u193q : qaW) (x0 x1 x2 : List AV) (x3 x4 : Int) (x5 x6 : Int) (x7 : List UInt8) (x8 : List AV) (x9 x10 : Int) (x11 : List AV) : X × St := (.exit 3,
 ⟨[(3, .ref 0 0 0), (6, .ref 1 0 0), (7, .junk), (12, .own 2 0 none)], [(0, .box [.int .i64 x5, .int .i64 x6, .str x7, .view 4 x8] false), (1, .box [.int .i64 x9, .int .i64 x10] false),
 (2, .arr 2 x11 false)], 3, 0⟩)
def qXn (G_u193q : qaW) : List (qbx -> X × St) := [fun w => (k11 (qKh G_u193q)) ((sl w)), fun w => (k11 (qKi G_u193q)) ((sl w)), fun w => (k12 (qKj G_u193q)) ((sr w)), fun w => (k12 (qKk G_u193q)) ((sr w))]
def qfQ (G_u193q : qaW) (x0 x1 x2 : List AV) (x3 x4 : Int) (x5 x6 : Int) (x7 : List UInt8) (x8 : List AV) (x9 x10 : Int) : DT (Rd qbx) :=
 .br (decide (x4 < x3))
 (.br (qay [.int .i64, .int .i64, .str, .slice 4] x2 x4)
 (.bi (G_u193q (intOf (cellAt x2 x4 0)) (intOf (cellAt x2 x4 1)) (strOf (cellAt x2 x4 2)) (qaj (cellAt x2 x4 3)) x0 x1) (fun y0 =>
 .br (y0.2.2 != 0)
 (.at (.done 0))
 (.at (.next ((.inr (x0, x1, x2, x3, IntKind.i64.wrap (x4 + 1), x5, x6, x7, x8, x9, x10, [AV.agg [.int .i64 y0.1, .int .i64 y0.2.1]]))))))
 (.no))
 (.no))
 (.at (.done 1))
def qfR (G_u193q : qaW) (x0 x1 x2 : List AV) (x3 x4 : Int) (x5 x6 : Int) (x7 : List UInt8) (x8 : List AV) (x9 x10 : Int) (x11 : List AV) : DT (Rd qbx) :=
 .br (decide (x4 < x3))
 (.br (qay [.int .i64, .int .i64, .str, .slice 4] x2 x4)
 (.bi (G_u193q (intOf (cellAt x2 x4 0)) (intOf (cellAt x2 x4 1)) (strOf (cellAt x2 x4 2)) (qaj (cellAt x2 x4 3)) x0 x1) (fun y0 =>
 .br (y0.2.2 != 0)
 (.at (.done 2))
 (.br (room (x11.length + 1) 16)
 (.at (.next ((.inr (x0, x1, x2, x3, IntKind.i64.wrap (x4 + 1), x5, x6, x7, x8, x9, x10, x11 ++ [AV.agg [.int .i64 y0.1, .int .i64 y0.2.1]])))))
 (.no)))
 (.no))
 (.no))
 (.at (.done 3))
def qcq (G_u193q : qaW) : qbx -> DT (Rd qbx) := (Sum.elim (fun v => qfQ G_u193q v.1 v.2.1 v.2.2.1 v.2.2.2.1 v.2.2.2.2.1 v.2.2.2.2.2.1 v.2.2.2.2.2.2.1 v.2.2.2.2.2.2.2.1 v.2.2.2.2.2.2.2.2.1 v.2.2.2.2.2.2.2.2.2.1 v.2.2.2.2.2.2.2.2.2.2) (fun v => qfR G_u193q v.1 v.2.1 v.2.2.1 v.2.2.2.1 v.2.2.2.2.1 v.2.2.2.2.2.1 v.2.2.2.2.2.2.1 v.2.2.2.2.2.2.2.1 v.2.2.2.2.2.2.2.2.1 v.2.2.2.2.2.2.2.2.2.1 v.2.2.2.2.2.2.2.2.2.2.1 v.2.2.2.2.2.2.2.2.2.2.2))
def qh4 (G_u193q : qaW) (v : qbx) : Option (Nat × qbx) := qav (qaq (fun v => (qcq G_u193q v).ev) v)
theorem qfD (G_u193q v) : qh4 G_u193q v = qaq (fun v => (qcq G_u193q v).ev) v := qaa _
def qwH (G_u193q : qaW) : qb3 := LE (τ := qbx) (hD qv3) (qh4 G_u193q) (qXn G_u193q)
theorem qWM (G_u193q : qaW) (hG : qoV G_u193q) : Go.Eng.Told IP (qaf F38 1).1 (qaf F38 1).2 (qwH G_u193q) := qat (inferInstance : Inhabited qbx) (hs := qv3) (st := qcq G_u193q) (L := []) (qkw G_u193q hG) (qab (l := []) (by kernel_rfl) trivial) (qfD G_u193q) (fun v => match v with | (.inl v) => by kernel_rfl | (.inr v) => by kernel_rfl) (fun v => match v with | (.inl v) => by kernel_rfl | (.inr v) => by kernel_rfl)
def evI (G : Int -> Int -> List UInt8 -> List AV -> List AV -> List AV -> Option qei) (x3 x4 x5 : List AV) : DT qei :=
 (.br (qay [.int .i64, .int .i64, .str, .slice 4] x3 0)
 (.bi (G (intOf (cellAt x3 0 0)) (intOf (cellAt x3 0 1)) (strOf (cellAt x3 0 2)) (qaj (cellAt x3 0 3)) x4 x5) (fun y0 =>
 .br (y0.2.2 != 0)
 (.at ((0, 0, y0.2.2)))
 (.br (qay [.int .i64, .int .i64, .str, .slice 4] x3 (IntKind.i64.wrap (2 - y0.2.1)))
 (.bi (G (intOf (cellAt x3 (IntKind.i64.wrap (2 - y0.2.1)) 0)) (intOf (cellAt x3 (IntKind.i64.wrap (2 - y0.2.1)) 1))
 (strOf (cellAt x3 (IntKind.i64.wrap (2 - y0.2.1)) 2)) (qaj (cellAt x3 (IntKind.i64.wrap (2 - y0.2.1)) 3)) x4 x5) (fun y1 =>
 .at ((y1.1, y1.2.1, y1.2.2)))
 (.no))
 (.no)))
 (.no))
 (.no))
def evT (G : Int -> Int -> List UInt8 -> List AV -> List AV -> List AV -> Option qei) (y : Option (Nat × qbx)) : DT qei :=
 (.bi (pj 0 y) (fun y0 =>
 .at ((0, 0, (gv
 (G (intOf (cellAt (sl y0).2.2.1 (sl y0).2.2.2.2.1 0)) (intOf (cellAt (sl y0).2.2.1 (sl y0).2.2.2.2.1 1))
 (strOf (cellAt (sl y0).2.2.1 (sl y0).2.2.2.2.1 2)) (qaj (cellAt (sl y0).2.2.1 (sl y0).2.2.2.2.1 3)) (sl y0).1 (sl y0).2.1)).2.2)))
 (.bi (pj 1 y) (fun y0 =>
 .bi (qaH (sl y0).2.2.2.2.2.1 []) (fun y1 =>
 .at ((y1.1, y1.2.1, y1.2.2)))
 (.no))
 (.bi (pj 2 y) (fun y0 =>
 .at ((0, 0, (gv
 (G (intOf (cellAt (sr y0).2.2.1 (sr y0).2.2.2.2.1 0)) (intOf (cellAt (sr y0).2.2.1 (sr y0).2.2.2.2.1 1))
 (strOf (cellAt (sr y0).2.2.1 (sr y0).2.2.2.2.1 2)) (qaj (cellAt (sr y0).2.2.1 (sr y0).2.2.2.2.1 3)) (sr y0).1 (sr y0).2.1)).2.2)))
 (.bi (pj 3 y) (fun y0 =>
 .bi (qaH (sr y0).2.2.2.2.2.1 (sr y0).2.2.2.2.2.2.2.2.2.2.2) (fun y1 =>
 .at ((y1.1, y1.2.1, y1.2.2)))
 (.no))
 (.no)))))
def qbY (G_u193q : qaW) (x0 x1 : Int) (x2 : List UInt8) (x3 x4 x5 : List AV) : DT qei :=
 .br (x0 == 1)
 (.at ((1, x1, 0)))
 (.br (x0 == 2)
 (.at ((2, x1, 0)))
 (.br (x0 == 3)
 (.at ((3, x1, 0)))
 (.br (x0 == 4)
 (.bi (pj 0 (qlx (x4, x5, x4, (x4.length : Int), 0, x0, x1, x2, x3, 0, 0))) (fun y0 =>
 .at ((intOf (cellAt y0.2.1 y0.2.2.2.2.1 0), intOf (cellAt y0.2.1 y0.2.2.2.2.1 1), 0)))
 (.bi (pj 1 (qlx (x4, x5, x4, (x4.length : Int), 0, x0, x1, x2, x3, 0, 0))) (fun y0 =>
 (evT G_u193q (qh4 G_u193q (Sum.inl (y0.1, y0.2.1, y0.2.2.2.2.2.2.2.2.1, (y0.2.2.2.2.2.2.2.2.1.length : Int), 0, y0.2.2.2.2.2.1, y0.2.2.2.2.2.2.1, y0.2.2.2.2.2.2.2.1, y0.2.2.2.2.2.2.2.2.1, y0.2.2.2.2.2.2.2.2.2.1, y0.2.2.2.2.2.2.2.2.2.2)))))
 (.no)))
 (.br (x0 == 19)
 ((evI G_u193q x3 x4 x5))
 ((evT G_u193q (qh4 G_u193q (Sum.inl (x4, x5, x3, (x3.length : Int), 0, x0, x1, x2, x3, 0, 0)))))))))
def qbQ : Nat -> qaW
 | 0 => fun _ _ _ _ _ _ => none
 | n + 1 => fun x0 x1 x2 x3 x4 x5 => (qbY ((qbQ n)) x0 x1 x2 x3 x4 x5).ev
def qrw (x0 x1 : Int) (x2 : List UInt8) (x3 x4 x5 : List AV) : Option qei := qmX fun n => (qbQ n) x0 x1 x2 x3 x4 x5
theorem qnv : ∀ n, qoV ((qbQ n))
 | 0 => (fun v y h => nomatch h)
 | n + 1 => have hG := qnv n
 qae (F := F38) (L := [(1003800, qwG), (1003801, qwH ((qbQ n)))]) (t := (k6 (qbY ((qbQ n))))) (qkw ((qbQ n)) hG) (qab (l := [qaf F38 0, qaf F38 1]) (by kernel_rfl) ⟨qau (by kernel_rfl) qWL, qau (by kernel_rfl) (qWM ((qbQ n)) hG), trivial⟩) (by kernel_rfl) (fun v => by kernel_rfl) (fun v => rfl)
theorem qVc : FH IP 38 qlT ql8 (k6 qrw) := qbI (p := qlT) (rs := ql8) (s := fun n => (k6 ((qbQ n)))) fun n => (qnv n)
def T79 : Tab := (38, FE qlT ql8 (k6 qrw)) :: T78
theorem qXI : qai IP T79 := ⟨qah qVc, qDp⟩
abbrev qMa : Type := Int × Int × Int
def qzJ : PArgs := ⟨[.agg [.int .i64, .int .i64, .str, .view 4], .view 2, .view 2], []⟩
def qzK : List PRes := [⟨false, .tup [.agg [.int .i64, .int .i64], .int .i64], []⟩]
def qxe (x0 x1 : Int) (x2 : List UInt8) (x3 x4 x5 : List AV) : DT qMa :=
 .bi (qhJ x4) (fun y0 =>
 .br (y0 != 0)
 (.at ((0, 0, y0)))
 (.bi (qhN x0 x1 x2 x3 x4) (fun y1 =>
 .br (y1.2 != 0)
 (.at ((0, 0, y1.2)))
 (.bi (qbG x4 x5) (fun y2 =>
 .br (!y2)
 (.at ((0, 0, 1)))
 (.bi (qrw x0 x1 x2 x3 x4 x5) (fun y3 =>
 .at ((y3.1, y3.2.1, y3.2.2)))
 (.no)))
 (.no)))
 (.no)))
 (.no)
def qe0 (x0 x1 : Int) (x2 : List UInt8) (x3 x4 x5 : List AV) : Option qMa := qav (qxe x0 x1 x2 x3 x4 x5).ev
theorem qLp (x0 x1 x2 x3 x4 x5) : qe0 x0 x1 x2 x3 x4 x5 = (qxe x0 x1 x2 x3 x4 x5).ev := qaa _
theorem qVb : FH IP 13 qzJ qzK (k6 qe0) := fh F13 (k6 qxe) qXI
def T80 : Tab := (13, FE qzJ qzK (k6 qe0)) :: T79
theorem qQa : qai IP T80 := ⟨qah qVb, qXI⟩
abbrev qXF : Type := Int × List AV × List AV × Int
def qLM : PArgs := ⟨[.agg [.int .i64, .int .i64, .str, .view 4], .view 2], []⟩
def qLR : List PRes := [⟨false, .tup [.agg [.int .i64, .view 2, .view 3], .int .i64], []⟩]
def lvE : List AV := [.agg [.int .i64 4, .int .i64 0, .str [97], .view 4 []], .agg [.int .i64 1, .int .i64 2, .str [], .view 4 []]]
def lvV : List AV := [.agg [.str [97], .int .i64 1]]
def lvN : List AV := [.agg [.int .i64 1, .int .i64 5]]
def lvI : List AV := [.agg [.int .i64 2, .int .i64 0, .int .i64 0], .agg [.int .i64 1, .int .i64 1, .int .i64 2], .agg [.int .i64 3, .int .i64 5, .int .i64 0]]
def qm2 (x0 x1 : Int) (x2 : List UInt8) (x3 x4 : List AV) : Option qXF := q2K [((5, 0, [], lvE, lvV), (1, lvV, lvI, 0))] (x0, x1, x2, x3, x4)
theorem q0O : FH IP 19 qLM qLR (k5 qm2) := qYn (IP := IP) (f := 19) (p := qLM) (rs := qLR) (a := ((5, 0, [], lvE, lvV) : Int × Int × List UInt8 × List AV × List AV)) (y := ((1, lvV, lvI, 0) : qXF)) 100 (by kernel_rfl)
def T87 : Tab := (19, FE qLM qLR (k5 qm2)) :: T80
theorem qDr : qai IP T87 := ⟨qah q0O, qQa⟩
end
end Go.Proofs.H13

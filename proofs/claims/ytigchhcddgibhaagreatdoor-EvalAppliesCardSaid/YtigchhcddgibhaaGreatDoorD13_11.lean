/- Functions over plain data. Printed by a program of mine. -/
import Derived.Test.YtigchhcddgibhaaGreatDoorD13_10
import Derived.KernelRfl
set_option linter.unusedVariables false
set_option linter.unusedSimpArgs false
set_option linter.unnecessarySimpa false
namespace Go.Proofs.H13
open Go Go.Eng
set_option maxRecDepth 100000
noncomputable section
abbrev qeh : Type := Int × Int × Int
def qlS : PArgs := ⟨[.agg [.int .i64, .int .i64, .str, .view 4], .view 2, .view 2], []⟩
def ql7 : List PRes := [⟨false, .tup [.agg [.int .i64, .int .i64], .int .i64], []⟩]
abbrev qaV : Type := Int -> Int -> (List UInt8) -> (List AV) -> (List AV) -> (List AV) -> Option qeh
def qoU (G_u191q : qaV) : Prop := FH IP 41 qlS ql7 (k6 G_u191q)
def qMq (G_u191q : qaV) : Tab := (41, FE qlS ql7 (k6 G_u191q)) :: q53
theorem qkv (G_u191q : qaV) (hG : qoU G_u191q) : qai IP (qMq G_u191q) := ⟨qah (hG), qC3⟩
abbrev qbw : Type := (List AV × List AV × Int × Int × Int × List UInt8 × List AV × Int × Int) ⊕ (List AV × List AV × Int × Int × Int × List UInt8 × List AV × Int × Int × List AV)
def qvZ : List PSt := [⟨[(1004100, .junk), (1, .view 2), (2, .view 2), (3, .ref 0 0 0), (6, .ref 1 0 0), (10, .nils 2), (11, .int .i64)], [(0, .box [.int .i64, .int .i64, .str, .view 4] false), (1, .box [.int .i64, .int .i64] false)], 2, 0⟩, ⟨[(1004100, .junk), (1, .view 2), (2, .view 2), (3, .ref 0 0 0), (6, .ref 1 0 0), (10, .own 2 0), (11, .int .i64)], [(0, .box [.int .i64, .int .i64, .str, .view 4] false), (1, .box [.int .i64, .int .i64] false), (2, .arr 2 false)], 3, 0⟩]
def qKb (G_u191q : qaV) (x0 x1 : List AV) (x2 x3 x4 : Int) (x5 : List UInt8) (x6 : List AV) (x7 x8 : Int) : X × St := (.ret,
 ⟨[(3, .ref 0 0 0), (6, .ref 1 0 0),
 (7, .int .i64 (gv (G_u191q (intOf (cellAt x6 x2 0)) (intOf (cellAt x6 x2 1)) (strOf (cellAt x6 x2 2)) (qaj (cellAt x6 x2 3)) x0 x1)).2.2),
 (10, .nils ⟨2, .nil⟩)], [(0, .box [.int .i64 x3, .int .i64 x4, .str x5, .view 4 x6] false), (1, .box [.int .i64 0, .int .i64 0] false)], 2, 0⟩)
def qKc (G_u191q : qaV) (x0 x1 : List AV) (x2 x3 x4 : Int) (x5 : List UInt8) (x6 : List AV) (x7 x8 : Int) : X × St := (.exit 0,
 ⟨[(3, .ref 0 0 0), (6, .ref 1 0 0), (7, .junk), (10, .nils ⟨2, .nil⟩)], [(0, .box [.int .i64 x3, .int .i64 x4, .str x5, .view 4 x6] false), (1, .box [.int .i64 x7, .int .i64 x8] false)], 2, 0⟩)
def qKd (G_u191q : qaV) (x0 x1 : List AV) (x2 x3 x4 : Int) (x5 : List UInt8) (x6 : List AV) (x7 x8 : Int) (x9 : List AV) : X × St := (.ret,
 ⟨[(3, .ref 0 0 0), (6, .ref 1 0 0),
 (7, .int .i64 (gv (G_u191q (intOf (cellAt x6 x2 0)) (intOf (cellAt x6 x2 1)) (strOf (cellAt x6 x2 2)) (qaj (cellAt x6 x2 3)) x0 x1)).2.2),
 (10, .own 2 0 none)], [(0, .box [.int .i64 x3, .int .i64 x4, .str x5, .view 4 x6] false), (1, .box [.int .i64 0, .int .i64 0] false),
 (2, .arr 2 x9 false)], 3, 0⟩)
def qKe (G_u191q : qaV) (x0 x1 : List AV) (x2 x3 x4 : Int) (x5 : List UInt8) (x6 : List AV) (x7 x8 : Int) (x9 : List AV) : X × St := (.exit 0,
 ⟨[(3, .ref 0 0 0), (6, .ref 1 0 0), (7, .junk), (10, .own 2 0 none)], [(0, .box [.int .i64 x3, .int .i64 x4, .str x5, .view 4 x6] false), (1, .box [.int .i64 x7, .int .i64 x8] false),
 (2, .arr 2 x9 false)], 3, 0⟩)
def qXl (G_u191q : qaV) : List (qbw -> X × St) := [fun w => (k9 (qKb G_u191q)) ((sl w)), fun w => (k9 (qKc G_u191q)) ((sl w)), fun w => (k10 (qKd G_u191q)) ((sr w)), fun w => (k10 (qKe G_u191q)) ((sr w))]
def qfO (G_u191q : qaV) (x0 x1 : List AV) (x2 x3 x4 : Int) (x5 : List UInt8) (x6 : List AV) (x7 x8 : Int) : DT (Rd qbw) :=
 .br (decide (x2 < (x6.length : Int)))
 (.br (qay [.int .i64, .int .i64, .str, .slice 4] x6 x2)
 (.bi (G_u191q (intOf (cellAt x6 x2 0)) (intOf (cellAt x6 x2 1)) (strOf (cellAt x6 x2 2)) (qaj (cellAt x6 x2 3)) x0 x1) (fun y0 =>
 .br (y0.2.2 != 0)
 (.at (.done 0))
 (.at (.next ((.inr (x0, x1, IntKind.i64.wrap (x2 + 1), x3, x4, x5, x6, x7, x8, [AV.agg [.int .i64 y0.1, .int .i64 y0.2.1]]))))))
 (.no))
 (.no))
 (.at (.done 1))
def qfP (G_u191q : qaV) (x0 x1 : List AV) (x2 x3 x4 : Int) (x5 : List UInt8) (x6 : List AV) (x7 x8 : Int) (x9 : List AV) : DT (Rd qbw) :=
 .br (decide (x2 < (x6.length : Int)))
 (.br (qay [.int .i64, .int .i64, .str, .slice 4] x6 x2)
 (.bi (G_u191q (intOf (cellAt x6 x2 0)) (intOf (cellAt x6 x2 1)) (strOf (cellAt x6 x2 2)) (qaj (cellAt x6 x2 3)) x0 x1) (fun y0 =>
 .br (y0.2.2 != 0)
 (.at (.done 2))
 (.br (room (x9.length + 1) 16)
 (.at (.next ((.inr (x0, x1, IntKind.i64.wrap (x2 + 1), x3, x4, x5, x6, x7, x8, x9 ++ [AV.agg [.int .i64 y0.1, .int .i64 y0.2.1]])))))
 (.no)))
 (.no))
 (.no))
 (.at (.done 3))
def qcp (G_u191q : qaV) : qbw -> DT (Rd qbw) := (Sum.elim (fun v => qfO G_u191q v.1 v.2.1 v.2.2.1 v.2.2.2.1 v.2.2.2.2.1 v.2.2.2.2.2.1 v.2.2.2.2.2.2.1 v.2.2.2.2.2.2.2.1 v.2.2.2.2.2.2.2.2) (fun v => qfP G_u191q v.1 v.2.1 v.2.2.1 v.2.2.2.1 v.2.2.2.2.1 v.2.2.2.2.2.1 v.2.2.2.2.2.2.1 v.2.2.2.2.2.2.2.1 v.2.2.2.2.2.2.2.2.1 v.2.2.2.2.2.2.2.2.2))
def qlw (G_u191q : qaV) (v : qbw) : Option (Nat × qbw) := qav (qaq (fun v => (qcp G_u191q v).ev) v)
theorem qfC (G_u191q v) : qlw G_u191q v = qaq (fun v => (qcp G_u191q v).ev) v := qaa _
def qwF (G_u191q : qaV) : qb3 := LE (τ := qbw) (hD qvZ) (qlw G_u191q) (qXl G_u191q)
theorem qWK (G_u191q : qaV) (hG : qoU G_u191q) : Go.Eng.Told IP (qaf F41 0).1 (qaf F41 0).2 (qwF G_u191q) := qat (inferInstance : Inhabited qbw) (hs := qvZ) (st := qcp G_u191q) (L := []) (qkv G_u191q hG) (qab (l := []) (by kernel_rfl) trivial) (qfC G_u191q) (fun v => match v with | (.inl v) => by kernel_rfl | (.inr v) => by kernel_rfl) (fun v => match v with | (.inl v) => by kernel_rfl | (.inr v) => by kernel_rfl)
def rvI (G : Int -> Int -> List UInt8 -> List AV -> List AV -> List AV -> Option qeh) (x3 x4 x5 : List AV) : DT qeh :=
 (.br (qay [.int .i64, .int .i64, .str, .slice 4] x3 0)
 (.bi (G (intOf (cellAt x3 0 0)) (intOf (cellAt x3 0 1)) (strOf (cellAt x3 0 2)) (qaj (cellAt x3 0 3)) x4 x5) (fun y0 =>
 .br (y0.2.2 != 0)
 (.at ((0, 0, y0.2.2)))
 (.br (qay [.int .i64, .int .i64, .str, .slice 4] x3 (IntKind.i64.wrap (2 - y0.2.1)))
 (.bi (G (intOf (cellAt x3 (IntKind.i64.wrap (2 - y0.2.1)) 0)) (intOf (cellAt x3 (IntKind.i64.wrap (2 - y0.2.1)) 1))
 (strOf (cellAt x3 (IntKind.i64.wrap (2 - y0.2.1)) 2)) (qaj (cellAt x3 (IntKind.i64.wrap (2 - y0.2.1)) 3)) x4 x5) (fun y1 =>
 .at ((y1.1, y1.2.1, y1.2.2)))
 (.no))
 (.no)))
 (.no))
 (.no))
def rvT (G : Int -> Int -> List UInt8 -> List AV -> List AV -> List AV -> Option qeh) (y : Option (Nat × qbw)) : DT qeh :=
 (.bi (pj 0 y) (fun y0 =>
 .at ((0, 0, (gv
 (G (intOf (cellAt (sl y0).2.2.2.2.2.2.1 (sl y0).2.2.1 0)) (intOf (cellAt (sl y0).2.2.2.2.2.2.1 (sl y0).2.2.1 1))
 (strOf (cellAt (sl y0).2.2.2.2.2.2.1 (sl y0).2.2.1 2)) (qaj (cellAt (sl y0).2.2.2.2.2.2.1 (sl y0).2.2.1 3)) (sl y0).1
 (sl y0).2.1)).2.2)))
 (.bi (pj 1 y) (fun y0 =>
 .bi (qbt (sl y0).2.2.2.1 []) (fun y1 =>
 .at ((y1.1, y1.2.1, y1.2.2)))
 (.no))
 (.bi (pj 2 y) (fun y0 =>
 .at ((0, 0, (gv
 (G (intOf (cellAt (sr y0).2.2.2.2.2.2.1 (sr y0).2.2.1 0)) (intOf (cellAt (sr y0).2.2.2.2.2.2.1 (sr y0).2.2.1 1))
 (strOf (cellAt (sr y0).2.2.2.2.2.2.1 (sr y0).2.2.1 2)) (qaj (cellAt (sr y0).2.2.2.2.2.2.1 (sr y0).2.2.1 3)) (sr y0).1
 (sr y0).2.1)).2.2)))
 (.bi (pj 3 y) (fun y0 =>
 .bi (qbt (sr y0).2.2.2.1 (sr y0).2.2.2.2.2.2.2.2.2) (fun y1 =>
 .at ((y1.1, y1.2.1, y1.2.2)))
 (.no))
 (.no)))))
def qcu (G_u191q : qaV) (x0 x1 : Int) (x2 : List UInt8) (x3 x4 x5 : List AV) : DT qeh :=
 .br ((x3.length : Int) == 0)
 (.bi (qhR x0 x1 x2 x3 x4 x5) (fun y0 =>
 .at ((y0.1, y0.2, 0)))
 (.no))
 (.br (x0 == 19)
 ((rvI G_u191q x3 x4 x5))
 ((rvT G_u191q (qlw G_u191q (Sum.inl (x4, x5, 0, x0, x1, x2, x3, 0, 0))))))
def qbB : Nat -> qaV
 | 0 => fun _ _ _ _ _ _ => none
 | n + 1 => fun x0 x1 x2 x3 x4 x5 => (qcu ((qbB n)) x0 x1 x2 x3 x4 x5).ev
def qpn (x0 x1 : Int) (x2 : List UInt8) (x3 x4 x5 : List AV) : Option qeh := qmX fun n => (qbB n) x0 x1 x2 x3 x4 x5
theorem qnu : ∀ n, qoU ((qbB n))
 | 0 => (fun v y h => nomatch h)
 | n + 1 => have hG := qnu n
 qae (F := F41) (L := [(1004100, qwF ((qbB n)))]) (t := (k6 (qcu ((qbB n))))) (qkv ((qbB n)) hG) (qab (l := [qaf F41 0]) (by kernel_rfl) ⟨qau (by kernel_rfl) (qWK ((qbB n)) hG), trivial⟩) (by kernel_rfl) (fun v => by kernel_rfl) (fun v => rfl)
theorem qVa : FH IP 41 qlS ql7 (k6 qpn) := qbI (p := qlS) (rs := ql7) (s := fun n => (k6 ((qbB n)))) fun n => (qnu n)
def q9Q : Tab := (41, FE qlS ql7 (k6 qpn)) :: q53
theorem qC4 : qai IP q9Q := ⟨qah qVa, qC3⟩
abbrev qBH : Type := Int × Int × Int
def qHa : PArgs := ⟨[.agg [.int .i64, .int .i64, .str, .view 4], .view 2, .view 2], []⟩
def qIL : List PRes := [⟨false, .tup [.agg [.int .i64, .int .i64], .int .i64], []⟩]
def qjY (x0 x1 : Int) (x2 : List UInt8) (x3 x4 x5 : List AV) : DT qBH :=
 .bi (qhP x4) (fun y0 =>
 .br (y0 != 0)
 (.at ((0, 0, y0)))
 (.bi (qll x0 x1 x2 x3 x4) (fun y1 =>
 .br (y1.2 != 0)
 (.at ((0, 0, y1.2)))
 (.bi (qe9 x4 x5) (fun y2 =>
 .br (!y2)
 (.at ((0, 0, 1)))
 (.bi (qpn x0 x1 x2 x3 x4 x5) (fun y3 =>
 .at ((y3.1, y3.2.1, y3.2.2)))
 (.no)))
 (.no)))
 (.no)))
 (.no)
def qk9 (x0 x1 : Int) (x2 : List UInt8) (x3 x4 x5 : List AV) : Option qBH := qav (qjY x0 x1 x2 x3 x4 x5).ev
theorem qyG (x0 x1 x2 x3 x4 x5) : qk9 x0 x1 x2 x3 x4 x5 = (qjY x0 x1 x2 x3 x4 x5).ev := qaa _
theorem qVr : FH IP 14 qHa qIL (k6 qk9) := fh F14 (k6 qjY) qC4
def q9R : Tab := (14, FE qHa qIL (k6 qk9)) :: q9Q
theorem qC5 : qai IP q9R := ⟨qah qVr, qC4⟩
abbrev qOR : Type := Bool
def qRI : PArgs := ⟨[.agg [.int .i64, .int .i64, .str, .view 4, .view 2, .view 2]], []⟩
def qSL : List PRes := [⟨false, .bool, []⟩]
def qqv (x0 x1 : Int) (x2 : List UInt8) (x3 x4 x5 : List AV) : DT qOR :=
 .bi (qgp x0 x1 x2 x3 x4 x5) (fun y0 =>
 .br (y0)
 (.bi (qaR) (fun y1 =>
 .at (y1))
 (.no))
 (.bi (qe0 x0 x1 x2 x3 x4 x5) (fun y1 =>
 .bi (qk9 x0 x1 x2 x3 x4 x5) (fun y2 =>
 .br (if false = true then !(y1.1 == y2.1 && (y1.2.1 == y2.2.1 && true)) else y1.1 == y2.1 && (y1.2.1 == y2.2.1 && true))
 (.br (y1.2.2 == y2.2.2)
 (.bi (qbG x4 x5) (fun y3 =>
 .bi (qe9 x4 x5) (fun y4 =>
 .br (if false = true then !y3 == y4 else y3 == y4)
 (.bi (qaR) (fun y5 =>
 .at (y5))
 (.no))
 (.at (false)))
 (.no))
 (.no))
 (.at (false)))
 (.at (false)))
 (.no))
 (.no)))
 (.no)
def qvD (x0 x1 : Int) (x2 : List UInt8) (x3 x4 x5 : List AV) : Option qOR := qav (qqv x0 x1 x2 x3 x4 x5).ev
theorem qEg (x0 x1 x2 x3 x4 x5) : qvD x0 x1 x2 x3 x4 x5 = (qqv x0 x1 x2 x3 x4 x5).ev := qaa _
theorem qQD : FH IP 4 qRI qSL (k6 qvD) := fh F4 (k6 qqv) qC5
end
end Go.Proofs.H13

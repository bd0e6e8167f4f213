/- Functions over plain data. Printed by a program of mine. -/
import Derived.Test.YtigchhcddgibhaaGreatDoorD13_8
import Derived.KernelRfl
set_option linter.unusedVariables false
set_option linter.unusedSimpArgs false
set_option linter.unnecessarySimpa false
namespace Go.Proofs.H13
open Go Go.Eng
set_option maxRecDepth 100000
noncomputable section
abbrev qyj : Type := Int
def qpF : PArgs := ⟨[.agg [.int .i64, .int .i64, .str, .view 4], .int .i64], []⟩
def qpU : List PRes := [⟨false, .int .i64, []⟩]
abbrev qcG : Type := Int → Int → (List UInt8) → (List AV) → Int → Option qyj
def qs6 (G_u183q : qcG) : Prop := FH IP 70 qpF qpU (k5 G_u183q)
def qRn (G_u183q : qcG) : Tab := (70, FE qpF qpU (k5 G_u183q)) :: zaQ
theorem qnB (G_u183q : qcG) (hG : qs6 G_u183q) : qaj IP (qRn G_u183q) := ⟨qak (hG), qyt⟩
abbrev qd2 : Type := Int × Int × Int × Int × Int × List UInt8 × List AV
def qA8 : List PSt := [⟨[(1007000, .junk), (1, .int .i64), (2, .ref 0 0 0), (5, .int .i64), (6, .int .i64)], [(0, .box [.int .i64, .int .i64, .str, .view 4] false)], 1, 0⟩]
def qP3 (x0 x1 : Int) (x2 x3 x4 : Int) (x5 : List UInt8) (x6 : List AV) : X × St := (X.exit 0, ⟨[(5, AV.int IntKind.i64 x1)], [], 0, 0⟩)
def q1T : List (qd2 → X × St) := [(k7 qP3)]
def qhR (G_u183q : qcG) (x0 x1 : Int) (x2 x3 x4 : Int) (x5 : List UInt8) (x6 : List AV) : DT (Rd qd2) :=
 .bi (br (decide (x2 < (x6.length : Int))) (some (decide (x1 ≤ x0))) (some false)) (fun y0 =>
 .br (y0)
 (.br (qaB [CS.int IntKind.i64, CS.int IntKind.i64, CS.str, CS.slice 4] x6 x2)
 (.bi (G_u183q (intOf (cellAt x6 x2 0)) (intOf (cellAt x6 x2 1)) (strOf (cellAt x6 x2 2)) (qal (cellAt x6 x2 3)) (IntKind.i64.wrap (x0 - x1))) (fun y1 =>
 .at (.next ((x0, IntKind.i64.wrap (x1 + y1), IntKind.i64.wrap (x2 + 1), x3, x4, x5, x6))))
 (.no))
 (.no))
 (.at (.done 0)))
 (.no)
def qgy (G_u183q : qcG) : qd2 → DT (Rd qd2) := (fun v => qhR G_u183q v.1 v.2.1 v.2.2.1 v.2.2.2.1 v.2.2.2.2.1 v.2.2.2.2.2.1 v.2.2.2.2.2.2)
def qo9 (G_u183q : qcG) (v : qd2) : Option (Nat × qd2) := qaz (qar (fun v => (qgy G_u183q v).ev) v)
theorem qhw (G_u183q : qcG) (v : qd2) : qo9 G_u183q v = qar (fun v => (qgy G_u183q v).ev) v := qaa _
def qBR (G_u183q : qcG) : qcJ := LE (τ := qd2) (hD qA8) (qo9 G_u183q) q1T
theorem q1j (G_u183q : qcG) (hG : qs6 G_u183q) : Go.Eng.Told IP (qah F70 0).1 (qah F70 0).2 (qBR G_u183q) := qax (inferInstance : Inhabited qd2) (hs := qA8) (st := qgy G_u183q) (L := []) (qnB G_u183q hG) (qab (l := []) (by kernel_rfl) trivial) (qhw G_u183q) (fun v => by kernel_rfl) (fun v => by kernel_rfl)
def quM (G_u183q : qcG) (x0 x1 : Int) (x2 : List UInt8) (x3 : List AV) (x4 : Int) : DT qyj :=
 .bi (pj 0 (qo9 G_u183q (x4, 1, 0, x0, x1, x2, x3))) (fun y0 =>
 .at (y0.2.1))
 (.no)
def qc2 : Nat → qcG
 | 0 => fun _ _ _ _ _ => none
 | n + 1 => fun x0 x1 x2 x3 x4 => (quM ((qc2 n)) x0 x1 x2 x3 x4).ev
def qtB (x0 x1 : Int) (x2 : List UInt8) (x3 : List AV) (x4 : Int) : Option qyj := qlO fun n => (qc2 n) x0 x1 x2 x3 x4
theorem qrk : ∀ n, qs6 ((qc2 n))
 | 0 => (fun v y h => nomatch h)
 | n + 1 => have hG := qrk n
 qaf (F := F70) (L := [(1007000, qBR ((qc2 n)))]) (t := (k5 (quM ((qc2 n))))) (qnB ((qc2 n)) hG) (qab (l := [qah F70 0]) (by kernel_rfl) ⟨qay (by kernel_rfl) (q1j ((qc2 n)) hG), trivial⟩) (by kernel_rfl) (fun v => by kernel_rfl) (fun v => rfl)
theorem qZo : FH IP 70 qpF qpU (k5 qtB) := qcz (p := qpF) (rs := qpU) (s := fun n => (k5 ((qc2 n)))) fun n => (qrk n)
def zbr : Tab := (70, FE qpF qpU (k5 qtB)) :: zaQ
theorem qIe : qaj IP zbr := ⟨qak qZo, qyt⟩
abbrev qGH : Type := Bool
def qMH : PArgs := ⟨[.agg [.int .i64, .int .i64, .str, .view 4], .int .i64], []⟩
def qOi : List PRes := [⟨false, .bool, []⟩]
def qmO (x0 x1 : Int) (x2 : List UInt8) (x3 : List AV) (x4 : Int) : DT qGH :=
 .bi (qtB x0 x1 x2 x3 x4) (fun y0 =>
 .at (decide (y0 > x4)))
 (.no)
def qks (x0 x1 : Int) (x2 : List UInt8) (x3 : List AV) (x4 : Int) : Option qGH := qaz (qmO x0 x1 x2 x3 x4).ev
theorem qDU (x0 x1 : Int) (x2 : List UInt8) (x3 : List AV) (x4 : Int) : qks x0 x1 x2 x3 x4 = (qmO x0 x1 x2 x3 x4).ev := qaa _
theorem qZm : FH IP 36 qMH qOi (k5 qks) := qaf (F := F36) (L := []) (t := (k5 qmO)) qIe (qab (l := []) (by kernel_rfl) trivial) (by kernel_rfl) (fun v => by kernel_rfl) (fun _ => qaa _)
def zbs : Tab := (36, FE qMH qOi (k5 qks)) :: zbr
theorem qIf : qaj IP zbs := ⟨qak qZm, qIe⟩
abbrev qGy : Type := Bool
def qMy : PArgs := ⟨[.agg [.int .i64, .int .i64, .str, .view 4, .view 2, .view 2]], []⟩
def qN9 : List PRes := [⟨false, .bool, []⟩]
def qmG (x0 x1 : Int) (x2 : List UInt8) (x3 x4 x5 : List AV) : DT qGy :=
 .bi (qks x0 x1 x2 x3 300) (fun y0 =>
 .bi (br y0 (some true) (some (decide ((x4.length : Int) > 100)))) (fun y1 =>
 .bi (br y1 (some true) (some (decide ((x5.length : Int) > 100)))) (fun y2 =>
 .at (y2))
 (.no))
 (.no))
 (.no)
def qiC (x0 x1 : Int) (x2 : List UInt8) (x3 x4 x5 : List AV) : Option qGy := qaz (qmG x0 x1 x2 x3 x4 x5).ev
theorem qDM (x0 x1 : Int) (x2 : List UInt8) (x3 x4 x5 : List AV) : qiC x0 x1 x2 x3 x4 x5 = (qmG x0 x1 x2 x3 x4 x5).ev := qaa _
theorem qZc : FH IP 12 qMy qN9 (k6 qiC) := qaf (F := F12) (L := []) (t := (k6 qmG)) qIf (qab (l := []) (by kernel_rfl) trivial) (by kernel_rfl) (fun v => by kernel_rfl) (fun _ => qaa _)
def zbt : Tab := (12, FE qMy qN9 (k6 qiC)) :: zbs
theorem qyy : qaj IP zbt := ⟨qak qZc, qIf⟩
end
end Go.Proofs.H13

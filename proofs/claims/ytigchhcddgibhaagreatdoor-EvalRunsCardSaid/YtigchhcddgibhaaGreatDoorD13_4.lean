/- Functions over plain data. Printed by a program of mine. -/
import Derived.Test.YtigchhcddgibhaaGreatDoorD13_3
import Derived.KernelRfl
namespace Go.Proofs.H13
open Go Go.Eng
set_option maxRecDepth 100000
noncomputable section
abbrev qBe : Type := Int × Int × List UInt8 × Int
def qGF : PArgs := ⟨[.str], []⟩
def qIg : List PRes := [⟨false, .tup [.agg [.int .i64, .int .i64, .str], .int .i64], []⟩]
def qjw (x0 : List UInt8) : DT qBe :=
 .br (inB x0.length 0)
 (.bi (qhH (IntKind.i32.wrap (qaI x0 0))) (fun y0 =>
 .br (y0)
 (.bi (qrH x0) (fun y1 =>
 .bi (qkU y1) (fun y2 =>
 .br (y2)
 (.at ((5, 0, y1, 0)))
 (.br (decide ((y1.length : Int) > 16)) (.at ((0, 0, [], 4))) (.at ((1, 0, y1, 0)))))
 (.no))
 (.no))
 (.bi (qeH (IntKind.i32.wrap (qaI x0 0))) (fun y1 =>
 .br (y1)
 (.bi (qrI x0) (fun y2 =>
 .bi (qkK y2) (fun y3 =>
 .at ((y3.1, y3.2.1, y3.2.2.1, y3.2.2.2)))
 (.no))
 (.no))
 (.bi (qkP) (fun y2 =>
 .bi (pj 0 (qlt (x0, y2, (y2.length : Int), 0, 0, 0, []))) (fun y3 =>
 .at ((4, 0, strOf (cellAt y3.2.1 y3.2.2.2.1 0), 0)))
 (.bi (pj 1 (qlt (x0, y2, (y2.length : Int), 0, 0, 0, []))) (fun y3 =>
 .at ((0, 0, [], 2)))
 (.no)))
 (.no)))
 (.no)))
 (.no))
 (.no)
def qcI (x0 : List UInt8) : Option qBe := qav (qjw x0).ev
theorem qye (x0) : qcI x0 = (qjw x0).ev := qaa _
theorem qUP : FH IP 144 qGF qIg qcI := qae (F := qYF) (L := [(1014400, qwv)]) (t := qjw) qDl (qab (l := [qaf qYF 0]) (by kernel_rfl) ⟨qau (by kernel_rfl) qWA, trivial⟩) (by kernel_rfl) (fun v => by kernel_rfl) (fun _ => qaa _)
def T65 : Tab := (144, FE qGF qIg qcI) :: T64
theorem qDm : qai IP T65 := ⟨qah qUP, qDl⟩
abbrev qcG : Type := (List UInt8 × Int) ⊕ (List UInt8 × Int × List AV)
def qE9 : List PSt := [⟨[(1013200, .junk), (0, .str), (5, .nils 3), (6, .int .i64)], [], 0, 0⟩, ⟨[(1013200, .junk), (0, .str), (5, .own 0 0), (6, .int .i64)], [(0, .arr 3 false)], 1, 0⟩]
def qNX (x0 : List UInt8) (x1 : Int) : X × St := (.ret, ⟨[(2, .nils ⟨3, .nil⟩), (3, .int .i64 0), (4, .int .i64 0)], [], 0, 0⟩)
def qNY (x0 : List UInt8) (x1 : Int) : X × St := (.ret,
 ⟨[(2, .nils ⟨3, .nil⟩), (3, .int .i64 (IntKind.i64.wrap (x1 + ((Lib.countByte (List.take (gv (qbf x0)).toNat x0) 10) : Int)))),
 (4, .int .i64 (gv (qcI (List.drop (gv (qbf x0)).toNat x0))).2.2.2)], [], 0, 0⟩)
def qNZ (x0 : List UInt8) (x1 : Int) (x2 : List AV) : X × St := (.ret, ⟨[(2, .own 0 0 none), (3, .int .i64 0), (4, .int .i64 0)], [(0, .arr 3 x2 false)], 1, 0⟩)
def qN0 (x0 : List UInt8) (x1 : Int) (x2 : List AV) : X × St := (.ret,
 ⟨[(2, .nils ⟨3, .nil⟩), (3, .int .i64 (IntKind.i64.wrap (x1 + ((Lib.countByte (List.take (gv (qbf x0)).toNat x0) 10) : Int)))),
 (4, .int .i64 (gv (qcI (List.drop (gv (qbf x0)).toNat x0))).2.2.2)], [], 0, 0⟩)
def q3C : List (qcG -> X × St) := [fun w => (k2 qNX) ((sl w)), fun w => (k2 qNY) ((sl w)), fun w => (k3 qNZ) ((sr w)), fun w => (k3 qN0) ((sr w))]
def qhm (x0 : List UInt8) (x1 : Int) : DT (Rd qcG) :=
 .bi (qbf x0) (fun y0 =>
 .br (leB y0 x0.length && true)
 (.br (leB y0 x0.length)
 (.br (List.drop y0.toNat x0 == [])
 (.at (.done 0))
 (.bi (qcI (List.drop y0.toNat x0)) (fun y1 =>
 .br (y1.2.2.2 != 0)
 (.at (.done 1))
 (.br (leB (y1.2.2.1.length : Int) (List.drop y0.toNat x0).length)
 (.at (.next ((.inr (List.drop (y1.2.2.1.length : Int).toNat (List.drop y0.toNat x0), IntKind.i64.wrap (x1 + ((Lib.countByte (List.take y0.toNat x0) 10) : Int)), [AV.agg [.int .i64 y1.1, .int .i64 (IntKind.i64.wrap (x1 + ((Lib.countByte (List.take y0.toNat x0) 10) : Int))), AV.str y1.2.2.1]])))))
 (.no)))
 (.no)))
 (.no))
 (.no))
 (.no)
def qhn (x0 : List UInt8) (x1 : Int) (x2 : List AV) : DT (Rd qcG) :=
 .bi (qbf x0) (fun y0 =>
 .br (leB y0 x0.length && true)
 (.br (leB y0 x0.length)
 (.br (List.drop y0.toNat x0 == [])
 (.at (.done 2))
 (.bi (qcI (List.drop y0.toNat x0)) (fun y1 =>
 .br (y1.2.2.2 != 0)
 (.at (.done 3))
 (.br (room (x2.length + 1) 32)
 (.br (leB (y1.2.2.1.length : Int) (List.drop y0.toNat x0).length)
 (.at (.next ((.inr (List.drop (y1.2.2.1.length : Int).toNat (List.drop y0.toNat x0), IntKind.i64.wrap (x1 + ((Lib.countByte (List.take y0.toNat x0) 10) : Int)), x2 ++ [AV.agg [.int .i64 y1.1, .int .i64 (IntKind.i64.wrap (x1 + ((Lib.countByte (List.take y0.toNat x0) 10) : Int))), AV.str y1.2.2.1]])))))
 (.no))
 (.no)))
 (.no)))
 (.no))
 (.no))
 (.no)
def qdW : qcG -> DT (Rd qcG) := (Sum.elim (fun v => qhm v.1 v.2) (fun v => qhn v.1 v.2.1 v.2.2))
def qiJ (v : qcG) : Option (Nat × qcG) := qav (qaq (fun v => (qdW v).ev) v)
theorem qlF (v) : qiJ v = qaq (fun v => (qdW v).ev) v := qaa _
def qFB : qb3 := LE (τ := qcG) (hD qE9) (qiJ) q3C
theorem q25 : Go.Eng.Told IP (qaf qYC 0).1 (qaf qYC 0).2 (qFB) := qat (inferInstance : Inhabited qcG) (hs := qE9) (st := qdW) (L := []) qDm (qab (l := []) (by kernel_rfl) trivial) (qlF) (fun v => match v with | (.inl v) => by kernel_rfl | (.inr v) => by kernel_rfl) (fun v => match v with | (.inl v) => by kernel_rfl | (.inr v) => by kernel_rfl)
abbrev qB6 : Type := List AV × Int × Int
def qRE : PArgs := ⟨[.str], []⟩
def qSH : List PRes := [⟨false, .tup [.view 3, .int .i64, .int .i64], []⟩]
def qqr (x0 : List UInt8) : DT qB6 :=
 .br (decide ((x0.length : Int) > 2048))
 (.at (([], 0, 5)))
 (.bi (pj 0 (qiJ (Sum.inl (x0, 1)))) (fun y0 =>
 .at (([], 0, 0)))
 (.bi (pj 1 (qiJ (Sum.inl (x0, 1)))) (fun y0 =>
 .at (([], IntKind.i64.wrap ((sl y0).2 + ((Lib.countByte (List.take (gv (qbf (sl y0).1)).toNat (sl y0).1) 10) : Int)), (gv (qcI (List.drop (gv (qbf (sl y0).1)).toNat (sl y0).1))).2.2.2)))
 (.bi (pj 2 (qiJ (Sum.inl (x0, 1)))) (fun y0 =>
 .at (((sr y0).2.2, 0, 0)))
 (.bi (pj 3 (qiJ (Sum.inl (x0, 1)))) (fun y0 =>
 .at (([], IntKind.i64.wrap ((sr y0).2.1 + ((Lib.countByte (List.take (gv (qbf (sr y0).1)).toNat (sr y0).1) 10) : Int)), (gv (qcI (List.drop (gv (qbf (sr y0).1)).toNat (sr y0).1))).2.2.2)))
 (.no)))))
def qrE (x0 : List UInt8) : Option qB6 := qav (qqr x0).ev
theorem qEc (x0) : qrE x0 = (qqr x0).ev := qaa _
theorem q0g : FH IP 132 qRE qSH qrE := qae (F := qYC) (L := [(1013200, qFB)]) (t := qqr) qDm (qab (l := [qaf qYC 0]) (by kernel_rfl) ⟨qau (by kernel_rfl) q25, trivial⟩) (by kernel_rfl) (fun v => by kernel_rfl) (fun _ => qaa _)
def T66 : Tab := (132, FE qRE qSH qrE) :: T65
theorem qP4 : qai IP T66 := ⟨qah q0g, qDm⟩
abbrev qO5 : Type := Bool
def qRY : PArgs := ⟨[.str], []⟩
def qS1 : List PRes := [⟨false, .bool, []⟩]
def qqL (x0 : List UInt8) : DT qO5 :=
 .bi (qrE x0) (fun y0 =>
 .bi (br (y0.2.2 == 0) (some ((y0.1.length : Int) == 1)) (some false)) (fun y1 =>
 .bi (br y1 (br (qay [.int .i64, .int .i64, .str] y0.1 0) (some (intOf (cellAt y0.1 0 0) == 1)) none) (some false)) (fun y2 =>
 .bi (br y2 (br (qay [.int .i64, .int .i64, .str] y0.1 0) (some (strOf (cellAt y0.1 0 2) == x0)) none) (some false)) (fun y3 =>
 .at (y3))
 (.no))
 (.no))
 (.no))
 (.no)
def qnZ (x0 : List UInt8) : Option qO5 := qav (qqL x0).ev
theorem qEw (x0) : qnZ x0 = (qqL x0).ev := qaa _
theorem q0z : FH IP 114 qRY qS1 qnZ := fh q5l qqL qP4
def T67 : Tab := (114, FE qRY qS1 qnZ) :: T66
theorem qP5 : qai IP T67 := ⟨qah q0z, qP4⟩
abbrev qBb : Type := Bool
def qGC : PArgs := ⟨[.agg [.int .i64, .int .i64, .str, .view 4]], []⟩
def qId : List PRes := [⟨false, .bool, []⟩]
def qjt (x0 x1 : Int) (x2 : List UInt8) (x3 : List AV) : DT qBb :=
 .bi (br (x0 != 4) (some true) (br (sm (qnZ x2)) (some (gv (qnZ x2))) none)) (fun y0 =>
 .at (y0))
 (.no)
def qkS (x0 x1 : Int) (x2 : List UInt8) (x3 : List AV) : Option qBb := qav (qjt x0 x1 x2 x3).ev
theorem qyb (x0 x1 x2 x3) : qkS x0 x1 x2 x3 = (qjt x0 x1 x2 x3).ev := qaa _
theorem qUM : FH IP 84 qGC qId (k4 qkS) := fh F84 (k4 qjt) qP5
def T68 : Tab := (84, FE qGC qId (k4 qkS)) :: T67
theorem qP6 : qai IP T68 := ⟨qah qUM, qP5⟩
abbrev qtp : Type := Bool
def qlK : PArgs := ⟨[.agg [.int .i64, .int .i64, .str, .view 4], .fn (.func 84) []], []⟩
def qlX : List PRes := [⟨false, .bool, []⟩]
abbrev qbh : Type := Int -> Int -> (List UInt8) -> (List AV) -> Option qtp
abbrev qTT : Type := Bool
def qF3 : PArgs := ⟨[.view 4, .fn (.func 112) [.ptr [.fn (.func 84) []]]], []⟩
def qHE : List PRes := [⟨false, .bool, []⟩]
abbrev qdx : Type := (List AV) -> Option qTT
abbrev qTV : Type := Int
def qHz : PArgs := ⟨[.view 4, .fn (.func 112) [.ptr [.fn (.func 84) []]]], []⟩
def qJa : List PRes := [⟨false, .int .i64, []⟩]
abbrev qdz : Type := (List AV) -> Option qTV
abbrev qB9 : Type := Bool
def qso : PArgs := ⟨[.agg [.int .i64, .int .i64, .str, .view 4], .ptr [.fn (.func 84) []]], []⟩
def qst : List PRes := [⟨false, .bool, []⟩]
abbrev qbP : Type := Int -> Int -> (List UInt8) -> (List AV) -> Option qB9
def qoM (G_u136q : qbh) (G_u0q : qdx) (G_u4q : qdz) (G_u74q : qbP) : Prop := FH IP 82 qlK qlX (k4 G_u136q) /\ FH IP 111 qF3 qHE G_u0q /\ FH IP 131 qHz qJa G_u4q /\ FH IP 112 qso qst (k4 G_u74q)
def qMi (G_u136q : qbh) (G_u0q : qdx) (G_u4q : qdz) (G_u74q : qbP) : Tab := (82, FE qlK qlX (k4 G_u136q)) :: (111, FE qF3 qHE G_u0q) :: (131, FE qHz qJa G_u4q) :: (112, FE qso qst (k4 G_u74q)) :: T68
theorem qda (G_u136q : qbh) (G_u0q : qdx) (G_u4q : qdz) (G_u74q : qbP) (hG : qoM G_u136q G_u0q G_u4q G_u74q) : qai IP (qMi G_u136q G_u0q G_u4q G_u74q) := ⟨qah (hG.1), qah (hG.2.1), qah (hG.2.2.1), qah (hG.2.2.2), qP6⟩
abbrev qgO : Type := List AV × Int × Int
def qQQ : List PSt := [⟨[(1013100, .junk), (0, .view 4), (1, .fn (.func 112) [.ptr [.fn (.func 84) []]]), (7, .int .i64), (8, .int .i64)], [], 0, 0⟩]
def qXz (x0 : List AV) (x1 x2 : Int) : X × St := (.ret, ⟨[(4, .int .i64 x2)], [], 0, 0⟩)
def qXA (x0 : List AV) (x1 x2 : Int) : X × St := (.exit 0, ⟨[(4, .junk)], [], 0, 0⟩)
def q8x : List (qgO -> X × St) := [(k3 qXz), (k3 qXA)]
def qpP (G_u136q : qbh) (G_u0q : qdx) (G_u4q : qdz) (G_u74q : qbP) (x0 : List AV) (x1 x2 : Int) : DT (Rd qgO) :=
 .br (decide (x2 < x1))
 (.br (qay [.int .i64, .int .i64, .str, .slice 4] x0 x2)
 (.bi (G_u74q (intOf (cellAt x0 x2 0)) (intOf (cellAt x0 x2 1)) (strOf (cellAt x0 x2 2)) (qaj (cellAt x0 x2 3))) (fun y0 =>
 .br (y0) (.at (.done 0)) (.at (.next ((x0, x1, IntKind.i64.wrap (x2 + 1))))))
 (.no))
 (.no))
 (.at (.done 1))
def qsA (G_u136q : qbh) (G_u0q : qdx) (G_u4q : qdz) (G_u74q : qbP) : qgO -> DT (Rd qgO) := (fun v => qpP G_u136q G_u0q G_u4q G_u74q v.1 v.2.1 v.2.2)
def qFq (G_u136q : qbh) (G_u0q : qdx) (G_u4q : qdz) (G_u74q : qbP) (v : qgO) : Option (Nat × qgO) := qav (qaq (fun v => (qsA G_u136q G_u0q G_u4q G_u74q v).ev) v)
theorem qwf (G_u136q G_u0q G_u4q G_u74q v) : qFq G_u136q G_u0q G_u4q G_u74q v = qaq (fun v => (qsA G_u136q G_u0q G_u4q G_u74q v).ev) v := qaa _
def qQZ (G_u136q : qbh) (G_u0q : qdx) (G_u4q : qdz) (G_u74q : qbP) : qb3 := LE (τ := qgO) (hD qQQ) (qFq G_u136q G_u0q G_u4q G_u74q) q8x
theorem q8q (G_u136q : qbh) (G_u0q : qdx) (G_u4q : qdz) (G_u74q : qbP) (hG : qoM G_u136q G_u0q G_u4q G_u74q) : Go.Eng.Told IP (qaf qK9 0).1 (qaf qK9 0).2 (qQZ G_u136q G_u0q G_u4q G_u74q) := qat (inferInstance : Inhabited qgO) (hs := qQQ) (st := qsA G_u136q G_u0q G_u4q G_u74q) (L := []) (qda G_u136q G_u0q G_u4q G_u74q hG) (qab (l := []) (by kernel_rfl) trivial) (qwf G_u136q G_u0q G_u4q G_u74q) (fun v => by kernel_rfl) (fun v => by kernel_rfl)
def qpX (G_u136q : qbh) (G_u0q : qdx) (G_u4q : qdz) (G_u74q : qbP) (x0 x1 : Int) (x2 : List UInt8) (x3 : List AV) : DT qtp :=
 .bi (qkS x0 x1 x2 x3) (fun y0 =>
 .bi (br y0 (br (sm (G_u0q x3)) (some !gv (G_u0q x3)) none) (some false)) (fun y1 =>
 .at (y1))
 (.no))
 (.no)
def qJz (G_u136q : qbh) (G_u0q : qdx) (G_u4q : qdz) (G_u74q : qbP) (x0 : List AV) : DT qTT :=
 .bi (G_u4q x0) (fun y0 =>
 .at (decide (y0 >= 0)))
 (.no)
def qJB (G_u136q : qbh) (G_u0q : qdx) (G_u4q : qdz) (G_u74q : qbP) (x0 : List AV) : DT qTV :=
 .bi (pj 0
 (qFq G_u136q G_u0q G_u4q G_u74q
 (x0, (x0.length : Int), 0))) (fun y0 =>
 .at (y0.2.2))
 (.bi (pj 1
 (qFq G_u136q G_u0q G_u4q G_u74q
 (x0, (x0.length : Int), 0))) (fun y0 =>
 .at (-1))
 (.no))
def qvg (G_u136q : qbh) (G_u0q : qdx) (G_u4q : qdz) (G_u74q : qbP) (x0 x1 : Int) (x2 : List UInt8) (x3 : List AV) : DT qB9 :=
 .bi (G_u136q x0 x1 x2 x3) (fun y0 =>
 .at (!y0))
 (.no)
def qam : Nat -> qbh × qdx × qdz × qbP
 | 0 => (fun _ _ _ _ => none, fun _ => none, fun _ => none, fun _ _ _ _ => none)
 | n + 1 => (fun x0 x1 x2 x3 => (qpX ((qam n).1) ((qam n).2.1) ((qam n).2.2.1) ((qam n).2.2.2) x0 x1 x2 x3).ev, fun x0 => (qJz ((qam n).1) ((qam n).2.1) ((qam n).2.2.1) ((qam n).2.2.2) x0).ev, fun x0 => (qJB ((qam n).1) ((qam n).2.1) ((qam n).2.2.1) ((qam n).2.2.2) x0).ev, fun x0 x1 x2 x3 => (qvg ((qam n).1) ((qam n).2.1) ((qam n).2.2.1) ((qam n).2.2.2) x0 x1 x2 x3).ev)
def qpg (x0 x1 : Int) (x2 : List UInt8) (x3 : List AV) : Option qtp := qmX fun n => (qam n).1 x0 x1 x2 x3
def q1g (x0 : List AV) : Option qTT := qmX fun n => (qam n).2.1 x0
def q1i (x0 : List AV) : Option qTV := qmX fun n => (qam n).2.2.1 x0
def qQL (x0 x1 : Int) (x2 : List UInt8) (x3 : List AV) : Option qB9 := qmX fun n => (qam n).2.2.2 x0 x1 x2 x3
theorem qd1 : ∀ n, qoM ((qam n).1) ((qam n).2.1) ((qam n).2.2.1) ((qam n).2.2.2)
 | 0 => ⟨(fun v y h => nomatch h), (fun v y h => nomatch h), (fun v y h => nomatch h), (fun v y h => nomatch h)⟩
 | n + 1 => have hG := qd1 n
 ⟨qae (F := F82) (L := []) (t := (k4 (qpX ((qam n).1) ((qam n).2.1) ((qam n).2.2.1) ((qam n).2.2.2)))) (qda ((qam n).1) ((qam n).2.1) ((qam n).2.2.1) ((qam n).2.2.2) hG) (qab (l := []) (by kernel_rfl) trivial) (by kernel_rfl) (fun v => by kernel_rfl) (fun v => rfl), qae (F := q3V) (L := []) (t := (qJz ((qam n).1) ((qam n).2.1) ((qam n).2.2.1) ((qam n).2.2.2))) (qda ((qam n).1) ((qam n).2.1) ((qam n).2.2.1) ((qam n).2.2.2) hG) (qab (l := []) (by kernel_rfl) trivial) (by kernel_rfl) (fun v => by kernel_rfl) (fun v => rfl), qae (F := qK9) (L := [(1013100, qQZ ((qam n).1) ((qam n).2.1) ((qam n).2.2.1) ((qam n).2.2.2))]) (t := (qJB ((qam n).1) ((qam n).2.1) ((qam n).2.2.1) ((qam n).2.2.2))) (qda ((qam n).1) ((qam n).2.1) ((qam n).2.2.1) ((qam n).2.2.2) hG) (qab (l := [qaf qK9 0]) (by kernel_rfl) ⟨qau (by kernel_rfl) (q8q ((qam n).1) ((qam n).2.1) ((qam n).2.2.1) ((qam n).2.2.2) hG), trivial⟩) (by kernel_rfl) (fun v => by kernel_rfl) (fun v => rfl), qae (F := q3W) (L := []) (t := (k4 (qvg ((qam n).1) ((qam n).2.1) ((qam n).2.2.1) ((qam n).2.2.2)))) (qda ((qam n).1) ((qam n).2.1) ((qam n).2.2.1) ((qam n).2.2.2) hG) (qab (l := []) (by kernel_rfl) trivial) (by kernel_rfl) (fun v => by kernel_rfl) (fun v => rfl)⟩
theorem qUq : FH IP 82 qlK qlX (k4 qpg) := qbI (p := qlK) (rs := qlX) (s := fun n => (k4 ((qam n).1))) fun n => (qd1 n).1
theorem q6c : FH IP 111 qF3 qHE q1g := qbI (p := qF3) (rs := qHE) (s := fun n => ((qam n).2.1)) fun n => (qd1 n).2.1
theorem q6e : FH IP 131 qHz qJa q1i := qbI (p := qHz) (rs := qJa) (s := fun n => ((qam n).2.2.1)) fun n => (qd1 n).2.2.1
theorem q0x : FH IP 112 qso qst (k4 qQL) := qbI (p := qso) (rs := qst) (s := fun n => (k4 ((qam n).2.2.2))) fun n => (qd1 n).2.2.2
def T69 : Tab := (82, FE qlK qlX (k4 qpg)) :: T68
theorem qZz : qai IP T69 := ⟨qah qUq, qP6⟩
def T70 : Tab := (111, FE qF3 qHE q1g) :: T69
theorem qZB : qai IP T70 := ⟨qah q6c, qZz⟩
def T71 : Tab := (131, FE qHz qJa q1i) :: T70
theorem qZC : qai IP T71 := ⟨qah q6e, qZB⟩
def T72 : Tab := (112, FE qso qst (k4 qQL)) :: T71
theorem qP7 : qai IP T72 := ⟨qah q0x, qZC⟩
abbrev qO3 : Type := Int
def qRW : PArgs := ⟨[.agg [.int .i64, .int .i64, .str, .view 4]], []⟩
def qSZ : List PRes := [⟨false, .int .i64, []⟩]
def qqJ (x0 x1 : Int) (x2 : List UInt8) (x3 : List AV) : DT qO3 :=
 .bi (qph x0 x1 x2 x3) (fun y0 =>
 .bi (br (decide (y0 > 64)) (some true) (br (sm (qkR x0 x1 x2 x3)) (some (decide (gv (qkR x0 x1 x2 x3) > 8))) none)) (fun y1 =>
 .br (y1)
 (.at (5))
 (.bi (qpi x0 x1 x2 x3) (fun y2 =>
 .br (!y2)
 (.at (1))
 (.bi (qpg x0 x1 x2 x3) (fun y3 =>
 .br (!y3) (.at (4)) (.at (0)))
 (.no)))
 (.no)))
 (.no))
 (.no)
def qln (x0 x1 : Int) (x2 : List UInt8) (x3 : List AV) : Option qO3 := qav (qqJ x0 x1 x2 x3).ev
theorem qEu (x0 x1 x2 x3) : qln x0 x1 x2 x3 = (qqJ x0 x1 x2 x3).ev := qaa _
theorem q0w : FH IP 48 qRW qSZ (k4 qln) := fh F48 (k4 qqJ) qP7
def T73 : Tab := (48, FE qRW qSZ (k4 qln)) :: T72
theorem qvl : qai IP T73 := ⟨qah q0w, qP7⟩
abbrev qey : Type := List AV × List AV × Int × Int × List AV × Int × Int × List UInt8 × Int
def qFk : List PSt := [⟨[(1003701, .junk), (0, .view 2), (4, .ref 0 0 0), (10, .view 2), (11, .int .i64), (12, .int .i64), (24, .view 2), (25, .int .i64), (26, .int .i64)], [(0, .box [.str, .int .i64] false)], 1, 0⟩]
def qOi (x0 x1 : List AV) (x2 x3 : Int) (x4 : List AV) (x5 x6 : Int) (x7 : List UInt8) (x8 : Int) : X × St := (.ret,
 ⟨[(0, .view 2 x0), (2, .int .i64 12), (4, .ref 0 0 0), (10, .view 2 x1), (11, .int .i64 x2), (12, .int .i64 x3)], [(0, .box [.str x7, .int .i64 x8] false)], 1, 0⟩)
def qOj (x0 x1 : List AV) (x2 x3 : Int) (x4 : List AV) (x5 x6 : Int) (x7 : List UInt8) (x8 : Int) : X × St := (.exit 2,
 ⟨[(0, .view 2 x0), (2, .junk), (4, .ref 0 0 0), (10, .view 2 x1), (11, .int .i64 x2), (12, .int .i64 x3)], [(0, .box [.str x7, .int .i64 x8] false)], 1, 0⟩)
def q3N : List (qey -> X × St) := [(k9 qOi), (k9 qOj)]
def qmI (x0 x1 : List AV) (x2 x3 : Int) (x4 : List AV) (x5 x6 : Int) (x7 : List UInt8) (x8 : Int) : DT (Rd qey) :=
 .br (decide (x6 < x5))
 (.br (qay [.str, .int .i64] x4 x6)
 (.br (strOf (cellAt x4 x6 0) == x7) (.at (.done 0)) (.at (.next ((x0, x1, x2, x3, x4, x5, IntKind.i64.wrap (x6 + 1), x7, x8)))))
 (.no))
 (.at (.done 1))
def qmH : qey -> DT (Rd qey) := (fun v => qmI v.1 v.2.1 v.2.2.1 v.2.2.2.1 v.2.2.2.2.1 v.2.2.2.2.2.1 v.2.2.2.2.2.2.1 v.2.2.2.2.2.2.2.1 v.2.2.2.2.2.2.2.2)
def qsd (v : qey) : Option (Nat × qey) := qav (qaq (fun v => (qmH v).ev) v)
theorem qse (v) : qsd v = qaq (fun v => (qmH v).ev) v := qaa _
def qFM : qb3 := LE (τ := qey) (hD qFk) (qsd) q3N
theorem q3g : Go.Eng.Told IP (qaf F37 1).1 (qaf F37 1).2 (qFM) := lp (inferInstance : Inhabited qey) (hs := qFk) qmH qvl qse
abbrev qex : Type := List AV × List AV × Int × Int
def qFj : List PSt := [⟨[(1003700, .junk), (0, .view 2), (10, .view 2), (11, .int .i64), (12, .int .i64)], [], 0, 0⟩]
def qOe (x0 x1 : List AV) (x2 x3 : Int) : X × St := (.ret, ⟨[(2, .int .i64 4)], [], 0, 0⟩)
def qOf (x0 x1 : List AV) (x2 x3 : Int) : X × St := (.ret, ⟨[(2, .int .i64 12)], [], 0, 0⟩)
def qOg (x0 x1 : List AV) (x2 x3 : Int) : X × St := (.ret, ⟨[(2, .int .i64 3)], [], 0, 0⟩)
def qOh (x0 x1 : List AV) (x2 x3 : Int) : X × St := (.exit 0, ⟨[(2, .junk)], [], 0, 0⟩)
def q3M : List (qex -> X × St) := [(k4 qOe), (k4 qOf), (k4 qOg), (k4 qOh)]
def qmG (x0 x1 : List AV) (x2 x3 : Int) : DT (Rd qex) :=
 .br (decide (x3 < x2))
 (.br (qay [.str, .int .i64] x1 x3)
 (.bi (qln 4 0 (strOf (cellAt x1 x3 0)) []) (fun y0 =>
 .br (y0 != 0)
 (.at (.done 0))
 (.br (leB x3 x0.length && true)
 (.bi (pj 0 (qsd (x0, x1, x2, x3, List.take x3.toNat x0, ((List.take x3.toNat x0).length : Int), 0, strOf (cellAt x1 x3 0), intOf (cellAt x1 x3 1)))) (fun y1 =>
 .at (.done 1))
 (.bi (pj 1 (qsd (x0, x1, x2, x3, List.take x3.toNat x0, ((List.take x3.toNat x0).length : Int), 0, strOf (cellAt x1 x3 0), intOf (cellAt x1 x3 1)))) (fun y1 =>
 .bi (qgi y1.2.2.2.2.2.2.2.2) (fun y2 =>
 .br (!y2) (.at (.done 2)) (.at (.next ((y1.1, y1.2.1, y1.2.2.1, IntKind.i64.wrap (y1.2.2.2.1 + 1))))))
 (.no))
 (.no)))
 (.no)))
 (.no))
 (.no))
 (.at (.done 3))
def qmF : qex -> DT (Rd qex) := (fun v => qmG v.1 v.2.1 v.2.2.1 v.2.2.2)
def qlG (v : qex) : Option (Nat × qex) := qav (qaq (fun v => (qmF v).ev) v)
theorem qsc (v) : qlG v = qaq (fun v => (qmF v).ev) v := qaa _
def qFL : qb3 := LE (τ := qex) (hD qFj) (qlG) q3M
theorem q3f : Go.Eng.Told IP (qaf F37 0).1 (qaf F37 0).2 (qFL) := qat (inferInstance : Inhabited qex) (hs := qFj) (st := qmF) (L := [(1003701, qFM)]) qvl (qab (l := [qaf F37 1]) (by kernel_rfl) ⟨qau (by kernel_rfl) q3g, trivial⟩) (qsc) (fun v => by kernel_rfl) (fun v => by kernel_rfl)
abbrev qAY : Type := Int
def qGp : PArgs := ⟨[.view 2], []⟩
def qH0 : List PRes := [⟨false, .int .i64, []⟩]
def qjj (x0 : List AV) : DT qAY :=
 .br (decide ((x0.length : Int) > 64))
 (.at (5))
 (.bi (pj 0 (qlG (x0, x0, (x0.length : Int), 0))) (fun y0 =>
 .at (4))
 (.bi (pj 1 (qlG (x0, x0, (x0.length : Int), 0))) (fun y0 =>
 .at (12))
 (.bi (pj 2 (qlG (x0, x0, (x0.length : Int), 0))) (fun y0 =>
 .at (3))
 (.bi (pj 3 (qlG (x0, x0, (x0.length : Int), 0))) (fun y0 =>
 .at (0))
 (.no)))))
def qhJ (x0 : List AV) : Option qAY := qav (qjj x0).ev
theorem qxX (x0) : qhJ x0 = (qjj x0).ev := qaa _
theorem qUw : FH IP 37 qGp qH0 qhJ := qae (F := F37) (L := [(1003700, qFL)]) (t := qjj) qvl (qab (l := [qaf F37 0, qaf F37 1]) (by kernel_rfl) ⟨qau (by kernel_rfl) q3f, qAg (by kernel_rfl), trivial⟩) (by kernel_rfl) (fun v => by kernel_rfl) (fun _ => qaa _)
def T74 : Tab := (37, FE qGp qH0 qhJ) :: T73
theorem qDn : qai IP T74 := ⟨qah qUw, qvl⟩
abbrev qcP : Type := List AV × List AV × Int × Int
def qvL : List PSt := [⟨[(1001500, .junk), (0, .view 2), (12, .view 2), (13, .int .i64), (14, .int .i64)], [], 0, 0⟩]
def qJN (x0 x1 : List AV) (x2 x3 : Int) : X × St := (.ret, ⟨[(4, .bool false)], [], 0, 0⟩)
def qJO (x0 x1 : List AV) (x2 x3 : Int) : X × St := (.exit 0, ⟨[(4, .junk)], [], 0, 0⟩)
def qW7 : List (qcP -> X × St) := [(k4 qJN), (k4 qJO)]
def qic (x0 x1 : List AV) (x2 x3 : Int) : DT (Rd qcP) :=
 .br (decide (x3 < x2))
 (.br (qay [.int .i64, .int .i64] x1 x3)
 (.br (qay [.str, .int .i64] x0 x3)
 (.br (intOf (cellAt x1 x3 0) != intOf (cellAt x0 x3 1))
 (.at (.done 0))
 (.bi (qdS (intOf (cellAt x1 x3 0)) (intOf (cellAt x1 x3 1))) (fun y0 =>
 .br (!y0) (.at (.done 0)) (.at (.next ((x0, x1, x2, IntKind.i64.wrap (x3 + 1))))))
 (.no)))
 (.no))
 (.no))
 (.at (.done 1))
def qg4 : qcP -> DT (Rd qcP) := (fun v => qic v.1 v.2.1 v.2.2.1 v.2.2.2)
def qls (v : qcP) : Option (Nat × qcP) := qav (qaq (fun v => (qg4 v).ev) v)
theorem qoc (v) : qls v = qaq (fun v => (qg4 v).ev) v := qaa _
def qwr : qb3 := LE (τ := qcP) (hD qvL) (qls) qW7
theorem qWw : Go.Eng.Told IP (qaf F15 0).1 (qaf F15 0).2 (qwr) := lp (inferInstance : Inhabited qcP) (hs := qvL) qg4 qDn qoc
abbrev qA8 : Type := Bool
def qGz : PArgs := ⟨[.view 2, .view 2], []⟩
def qIa : List PRes := [⟨false, .bool, []⟩]
def qjq (x0 x1 : List AV) : DT qA8 :=
 .br ((x0.length : Int) != (x1.length : Int))
 (.at (false))
 (.bi (pj 0 (qls (x0, x1, (x1.length : Int), 0))) (fun y0 =>
 .at (false))
 (.bi (pj 1 (qls (x0, x1, (x1.length : Int), 0))) (fun y0 =>
 .at (true))
 (.no)))
def qbG (x0 x1 : List AV) : Option qA8 := qav (qjq x0 x1).ev
theorem qx8 (x0 x1) : qbG x0 x1 = (qjq x0 x1).ev := qaa _
theorem qUG : FH IP 15 qGz qIa (k2 qbG) := qae (F := F15) (L := [(1001500, qwr)]) (t := (k2 qjq)) qDn (qab (l := [qaf F15 0]) (by kernel_rfl) ⟨qau (by kernel_rfl) qWw, trivial⟩) (by kernel_rfl) (fun v => by kernel_rfl) (fun _ => qaa _)
def T78 : Tab := (15, FE qGz qIa (k2 qbG)) :: T74
theorem qDp : qai IP T78 := ⟨qah qUG, qDn⟩
end
end Go.Proofs.H13

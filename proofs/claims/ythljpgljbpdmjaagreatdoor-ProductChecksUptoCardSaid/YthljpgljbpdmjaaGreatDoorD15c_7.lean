/- Functions over plain data. Printed by a program of mine. -/
import Derived.Test.YthljpgljbpdmjaaGreatDoorD15c_6
import Derived.KernelRfl
set_option linter.unusedVariables false
set_option linter.unusedSimpArgs false
set_option linter.unnecessarySimpa false
namespace Go.Proofs.H15c
open Go Go.Eng
set_option maxRecDepth 100000
noncomputable section
abbrev qel : Type := Int × Int × Int × List UInt8 × List AV
def qBN : List PSt := [⟨[(1009700, .junk), (1, .ref 0 0 0), (3, .int .i64)], [(0, .box [.int .i64, .int .i64, .str, .view 4] false)], 1, 0⟩]
def qHI (x0 x1 x2 : Int) (x3 : List UInt8) (x4 : List AV) : X × St := (X.ret, ⟨[(2, AV.bool false)], [], 0, 0⟩)
def qHJ (x0 x1 x2 : Int) (x3 : List UInt8) (x4 : List AV) : X × St := (X.exit 0, ⟨[(2, AV.junk)], [], 0, 0⟩)
def qRH : List (qel → X × St) := [(k5 qHI), (k5 qHJ)]
def qmI (G_u144q : qbU) (x0 x1 x2 : Int) (x3 : List UInt8) (x4 : List AV) : DT (Rd qel) :=
 .br (decide (x0 < (x4.length : Int)))
 (.br (qaS [CS.int IntKind.i64, CS.int IntKind.i64, CS.str, CS.slice 4] x4 x0)
 (.bi (G_u144q (intOf (cellAt x4 x0 0)) (intOf (cellAt x4 x0 1)) (strOf (cellAt x4 x0 2)) (qal (cellAt x4 x0 3))) (fun y0 =>
 .br (!y0) (.at (.done 0)) (.at (.next ((IntKind.i64.wrap (x0 + 1), x1, x2, x3, x4)))))
 (.no))
 (.no))
 (.at (.done 1))
def qmH (G_u144q : qbU) : qel → DT (Rd qel) := (fun v => qmI G_u144q v.1 v.2.1 v.2.2.1 v.2.2.2.1 v.2.2.2.2)
def qk9 (G_u144q : qbU) (v : qel) : Option (Nat × qel) := qaF (qao (fun v => (qmH G_u144q v).ev) v)
theorem qrU (G_u144q : qbU) (v : qel) : qk9 G_u144q v = qao (fun v => (qmH G_u144q v).ev) v := qaa _
def qCv (G_u144q : qbU) : qb3 := LE (τ := qel) (hD qBN) (qk9 G_u144q) qRH
theorem qQ7 (G_u144q : qbU) (hG : qox G_u144q) : Go.Eng.Told IP (qae F97 0).1 (qae F97 0).2 (qCv G_u144q) := qaw (inferInstance : Inhabited qel) (hs := qBN) (st := qmH G_u144q) (L := []) (qjE G_u144q hG) (qad (l := []) (by kernel_rfl) trivial) (qrU G_u144q) (fun v => by kernel_rfl) (fun v => by kernel_rfl)
def qpB (G_u144q : qbU) (x0 x1 : Int) (x2 : List UInt8) (x3 : List AV) : DT qsW :=
 .bi (qqZ x0) (fun y0 =>
 .br ((x3.length : Int) != y0)
 (.at (false))
 (.br (decide (x1 < 0))
 (.at (false))
 (.bi (qkn x0) (fun y1 =>
 .br (decide (x1 > y1))
 (.at (false))
 (.br (x0 != 4)
 (.br (!x2 == [])
 (.at (false))
 (.bi (pj 0 (qk9 G_u144q (0, x0, x1, x2, x3))) (fun y2 =>
 .at (false))
 (.bi (pj 1 (qk9 G_u144q (0, x0, x1, x2, x3))) (fun y2 =>
 .at (true))
 (.no))))
 (.bi (pj 0 (qk9 G_u144q (0, x0, x1, x2, x3))) (fun y2 =>
 .at (false))
 (.bi (pj 1 (qk9 G_u144q (0, x0, x1, x2, x3))) (fun y2 =>
 .at (true))
 (.no)))))
 (.no))))
 (.no)
def qcS : Nat → qbU
 | 0 => fun _ _ _ _ => none
 | n + 1 => fun x0 x1 x2 x3 => (qpB ((qcS n)) x0 x1 x2 x3).ev
def qoU (x0 x1 : Int) (x2 : List UInt8) (x3 : List AV) : Option qsW := qiE fun n => (qcS n) x0 x1 x2 x3
theorem qm9 : ∀ n, qox ((qcS n))
 | 0 => (fun v y h => nomatch h)
 | n + 1 => have hG := qm9 n
 qah (F := F97) (L := [(1009700, qCv ((qcS n)))]) (t := (k4 (qpB ((qcS n))))) (qjE ((qcS n)) hG) (qad (l := [qae F97 0]) (by kernel_rfl) ⟨qax (by kernel_rfl) (qQ7 ((qcS n)) hG), trivial⟩) (by kernel_rfl) (fun v => by kernel_rfl) (fun v => rfl)
theorem qMl : FH IP 97 qlp qlD (k4 qoU) := qbL (p := qlp) (rs := qlD) (s := fun n => (k4 ((qcS n)))) fun n => (qm9 n)
def T95 : Tab := (97, FE qlp qlD (k4 qoU)) :: T94
theorem qzI : qan IP T95 := ⟨qam qMl, qJo⟩
abbrev qeb : Type := List AV × List UInt8 × Int
def qBB : List PSt := [⟨[(1012500, .junk), (0, .view 1), (1, .str), (5, .int .i64)], [], 0, 0⟩]
def qHo (x0 : List AV) (x1 : List UInt8) (x2 : Int) : X × St := (X.exit 0, ⟨[(0, AV.view 1 x0), (1, AV.str x1), (5, AV.int IntKind.i64 x2)], [], 0, 0⟩)
def qRv : List (qeb → X × St) := [(k3 qHo)]
def qhi (x0 : List AV) (x1 : List UInt8) (x2 : Int) : DT (Rd qeb) :=
 .bi (br (decide (x2 < (x0.length : Int))) (br (qaS [CS.str] x0 x2) (some (qbt (strOf (cellAt x0 x2 0)) x1)) none) (some false)) (fun y0 =>
 .br (y0) (.at (.next ((x0, x1, IntKind.i64.wrap (x2 + 1))))) (.at (.done 0)))
 (.no)
def qie : qeb → DT (Rd qeb) := (fun v => qhi v.1 v.2.1 v.2.2)
def qvh (v : qeb) : Option (Nat × qeb) := qaF (qao (fun v => (qie v).ev) v)
theorem qrG (v : qeb) : qvh v = qao (fun v => (qie v).ev) v := qaa _
def qCj : qb3 := LE (τ := qeb) (hD qBB) (qvh) qRv
theorem qQV : Go.Eng.Told IP (qae qNZ 0).1 (qae qNZ 0).2 (qCj) := qaw (inferInstance : Inhabited qeb) (hs := qBB) (st := qie) (L := []) qzI (qad (l := []) (by kernel_rfl) trivial) (qrG) (fun v => by kernel_rfl) (fun v => by kernel_rfl)
abbrev qyt : Type := List AV
def qC0 : PArgs := ⟨[.view 1, .str], []⟩
def qDM : List PRes := [⟨false, .view 1, []⟩]
def qiX (x0 : List AV) (x1 : List UInt8) : DT qyt :=
 .bi (pj 0 (qvh (x0, x1, 0))) (fun y0 =>
 .bi (br (decide (y0.2.2 < (y0.1.length : Int))) (br (qaS [CS.str] y0.1 y0.2.2) (some (strOf (cellAt y0.1 y0.2.2 0) == y0.2.1)) none) (some false)) (fun y1 =>
 .br (y1)
 (.at (y0.1))
 (.br (leB y0.2.2 y0.1.length && true)
 (.br (decide ((List.take y0.2.2.toNat y0.1).length = 0) && decide (1 = 1))
 (.br (leB y0.2.2 y0.1.length)
 (.br (decide ((List.drop y0.2.2.toNat y0.1).length = 0) && decide (1 = 1))
 (.at ([AV.str y0.2.1]))
 (.br (decide ((List.drop y0.2.2.toNat y0.1).length ≠ 0) && room (1 + (List.drop y0.2.2.toNat y0.1).length) 16)
 (.at (AV.str y0.2.1 :: List.drop y0.2.2.toNat y0.1))
 (.no)))
 (.no))
 (.br (decide ((List.take y0.2.2.toNat y0.1).length ≠ 0) && room (List.take y0.2.2.toNat y0.1).length 16)
 (.br (room ((List.take y0.2.2.toNat y0.1).length + 1) 16)
 (.br (leB y0.2.2 y0.1.length)
 (.br (decide ((List.drop y0.2.2.toNat y0.1).length = 0) && decide (1 = 1))
 (.at (List.take y0.2.2.toNat y0.1 ++ [AV.str y0.2.1]))
 (.br (decide ((List.drop y0.2.2.toNat y0.1).length ≠ 0) && room ((List.take y0.2.2.toNat y0.1 ++ [AV.str y0.2.1]).length + (List.drop y0.2.2.toNat y0.1).length) 16)
 (.at (List.take y0.2.2.toNat y0.1 ++ [AV.str y0.2.1] ++ List.drop y0.2.2.toNat y0.1))
 (.no)))
 (.no))
 (.no))
 (.no)))
 (.no)))
 (.no))
 (.no)
def qeP (x0 : List AV) (x1 : List UInt8) : Option qyt := qaF (qiX x0 x1).ev
theorem qww (x0 : List AV) (x1 : List UInt8) : qeP x0 x1 = (qiX x0 x1).ev := qaa _
theorem qLY : FH IP 125 qC0 qDM (k2 qeP) := qah (F := qNZ) (L := [(1012500, qCj)]) (t := (k2 qiX)) qzI (qad (l := [qae qNZ 0]) (by kernel_rfl) ⟨qax (by kernel_rfl) qQV, trivial⟩) (by kernel_rfl) (fun v => by kernel_rfl) (fun _ => qaa _)
def T96 : Tab := (125, FE qC0 qDM (k2 qeP)) :: T95
theorem qzJ : qan IP T96 := ⟨qam qLY, qzI⟩
abbrev qcw : Type := (Int × List AV × Int × Int × Int × List UInt8 × List AV × List AV) ⊕ (Int × List AV × Int × Int × Int × List UInt8 × List AV) ⊕ (List AV × Int × List AV × Int × Int × Int × List UInt8 × List AV)
def qBL : List PSt := [⟨[(1009801, .junk), (1, .ref 0 0 0), (3, .own 1 0), (4, .int .i64), (5, .view 1), (6, .int .i64)], [(0, .box [.int .i64, .int .i64, .str, .view 4] false), (1, .arr 1 false)], 2, 0⟩, ⟨[(1009801, .junk), (1, .ref 0 0 0), (3, .nils 1), (4, .int .i64), (5, .view 1), (6, .int .i64)], [(0, .box [.int .i64, .int .i64, .str, .view 4] false)], 1, 0⟩, ⟨[(1009801, .junk), (1, .ref 0 0 0), (3, .view 1), (4, .int .i64), (5, .view 1), (6, .int .i64)], [(0, .box [.int .i64, .int .i64, .str, .view 4] false)], 1, 0⟩]
def qHE (x0 : Int) (x1 : List AV) (x2 x3 x4 : Int) (x5 : List UInt8) (x6 x7 : List AV) : X × St := (X.exit 2,
 ⟨[(1, AV.ref 0 0 0), (3, AV.own 1 0 none), (4, AV.int IntKind.i64 x0)], [(0, Blk.box [AV.int IntKind.i64 x3, AV.int IntKind.i64 x4, AV.str x5, AV.view 4 x6] false), (1, Blk.arr 1 x7 false)], 2, 0⟩)
def qHF (x0 : Int) (x1 : List AV) (x2 x3 x4 : Int) (x5 : List UInt8) (x6 : List AV) : X × St := (X.exit 2,
 ⟨[(1, AV.ref 0 0 0), (3, AV.nils ⟨1, NKd.nil⟩), (4, AV.int IntKind.i64 x0)], [(0, Blk.box [AV.int IntKind.i64 x3, AV.int IntKind.i64 x4, AV.str x5, AV.view 4 x6] false)], 1, 0⟩)
def qHG (x0 : List AV) (x1 : Int) (x2 : List AV) (x3 x4 x5 : Int) (x6 : List UInt8) (x7 : List AV) : X × St := (X.exit 2,
 ⟨[(1, AV.ref 0 0 0), (3, AV.view 1 x0), (4, AV.int IntKind.i64 x1)], [(0, Blk.box [AV.int IntKind.i64 x4, AV.int IntKind.i64 x5, AV.str x6, AV.view 4 x7] false)], 1, 0⟩)
def qRF : List (qcw → X × St) := [fun w => (k8 qHE) ((sl w)), fun w => (k7 qHF) ((sl (sr w))), fun w => (k8 qHG) ((sr (sr w)))]
def qmE (x0 : Int) (x1 : List AV) (x2 x3 x4 : Int) (x5 : List UInt8) (x6 x7 : List AV) : DT (Rd qcw) :=
 .br (decide (x2 < (x1.length : Int)))
 (.br (qaS [CS.str] x1 x2)
 (.bi (qeP x7 (strOf (cellAt x1 x2 0))) (fun y0 =>
 .at (.next ((.inr (.inr (y0, x0, x1, IntKind.i64.wrap (x2 + 1), x3, x4, x5, x6))))))
 (.no))
 (.no))
 (.at (.done 0))
def qmF (x0 : Int) (x1 : List AV) (x2 x3 x4 : Int) (x5 : List UInt8) (x6 : List AV) : DT (Rd qcw) :=
 .br (decide (x2 < (x1.length : Int)))
 (.br (qaS [CS.str] x1 x2)
 (.bi (qeP [] (strOf (cellAt x1 x2 0))) (fun y0 =>
 .at (.next ((.inr (.inr (y0, x0, x1, IntKind.i64.wrap (x2 + 1), x3, x4, x5, x6))))))
 (.no))
 (.no))
 (.at (.done 1))
def qmG (x0 : List AV) (x1 : Int) (x2 : List AV) (x3 x4 x5 : Int) (x6 : List UInt8) (x7 : List AV) : DT (Rd qcw) :=
 .br (decide (x3 < (x2.length : Int)))
 (.br (qaS [CS.str] x2 x3)
 (.bi (qeP x0 (strOf (cellAt x2 x3 0))) (fun y0 =>
 .at (.next ((.inr (.inr (y0, x1, x2, IntKind.i64.wrap (x3 + 1), x4, x5, x6, x7))))))
 (.no))
 (.no))
 (.at (.done 2))
def qdA : qcw → DT (Rd qcw) := (Sum.elim (fun v => qmE v.1 v.2.1 v.2.2.1 v.2.2.2.1 v.2.2.2.2.1 v.2.2.2.2.2.1 v.2.2.2.2.2.2.1 v.2.2.2.2.2.2.2) (Sum.elim (fun v => qmF v.1 v.2.1 v.2.2.1 v.2.2.2.1 v.2.2.2.2.1 v.2.2.2.2.2.1 v.2.2.2.2.2.2) (fun v => qmG v.1 v.2.1 v.2.2.1 v.2.2.2.1 v.2.2.2.2.1 v.2.2.2.2.2.1 v.2.2.2.2.2.2.1 v.2.2.2.2.2.2.2)))
def qdL (v : qcw) : Option (Nat × qcw) := qaF (qao (fun v => (qdA v).ev) v)
theorem qk8 (v : qcw) : qdL v = qao (fun v => (qdA v).ev) v := qaa _
def qCt : qb3 := LE (τ := qcw) (hD qBL) (qdL) qRF
theorem qQ5 : Go.Eng.Told IP (qae F98 1).1 (qae F98 1).2 (qCt) := qaw (inferInstance : Inhabited qcw) (hs := qBL) (st := qdA) (L := []) qzJ (qad (l := []) (by kernel_rfl) trivial) (qk8) (fun v => match v with | (.inl v) => by kernel_rfl | (.inr (.inl v)) => by kernel_rfl | (.inr (.inr v)) => by kernel_rfl) (fun v => match v with | (.inl v) => by kernel_rfl | (.inr (.inl v)) => by kernel_rfl | (.inr (.inr v)) => by kernel_rfl)
abbrev qjy : Type := List AV
def qln : PArgs := ⟨[.agg [.int .i64, .int .i64, .str, .view 4]], []⟩
def qlB : List PRes := [⟨false, .view 1, []⟩]
abbrev qbp : Type := Int → Int → (List UInt8) → (List AV) → Option qjy
def qov (G_u142q : qbp) : Prop := FH IP 98 qln qlB (k4 G_u142q)
def qFG (G_u142q : qbp) : Tab := (98, FE qln qlB (k4 G_u142q)) :: T96
theorem qjC (G_u142q : qbp) (hG : qov G_u142q) : qan IP (qFG G_u142q) := ⟨qam (hG), qzJ⟩
abbrev qca : Type := (Int × Int × Int × List UInt8 × List AV × List AV) ⊕ (Int × Int × Int × List UInt8 × List AV) ⊕ (List AV × Int × Int × Int × List UInt8 × List AV)
def qBK : List PSt := [⟨[(1009800, .junk), (1, .ref 0 0 0), (3, .own 1 0), (4, .int .i64)], [(0, .box [.int .i64, .int .i64, .str, .view 4] false), (1, .arr 1 false)], 2, 0⟩, ⟨[(1009800, .junk), (1, .ref 0 0 0), (3, .nils 1), (4, .int .i64)], [(0, .box [.int .i64, .int .i64, .str, .view 4] false)], 1, 0⟩, ⟨[(1009800, .junk), (1, .ref 0 0 0), (3, .view 1), (4, .int .i64)], [(0, .box [.int .i64, .int .i64, .str, .view 4] false)], 1, 0⟩]
def qHB (x0 x1 x2 : Int) (x3 : List UInt8) (x4 x5 : List AV) : X × St := (X.exit 0, ⟨[(3, AV.own 0 0 none)], [(0, Blk.arr 1 x5 false)], 1, 0⟩)
def qHC (x0 x1 x2 : Int) (x3 : List UInt8) (x4 : List AV) : X × St := (X.exit 0, ⟨[(3, AV.nils ⟨1, NKd.nil⟩)], [], 0, 0⟩)
def qHD (x0 : List AV) (x1 x2 x3 : Int) (x4 : List UInt8) (x5 : List AV) : X × St := (X.exit 0, ⟨[(3, AV.view 1 x0)], [], 0, 0⟩)
def qRE : List (qca → X × St) := [fun w => (k6 qHB) ((sl w)), fun w => (k5 qHC) ((sl (sr w))), fun w => (k6 qHD) ((sr (sr w)))]
def qe7 (G_u142q : qbp) (x0 x1 x2 : Int) (x3 : List UInt8) (x4 x5 : List AV) : DT (Rd qca) :=
 .br (decide (x0 < (x4.length : Int)))
 (.br (qaS [CS.int IntKind.i64, CS.int IntKind.i64, CS.str, CS.slice 4] x4 x0)
 (.bi (G_u142q (intOf (cellAt x4 x0 0)) (intOf (cellAt x4 x0 1)) (strOf (cellAt x4 x0 2)) (qal (cellAt x4 x0 3))) (fun y0 =>
 .bi (pj 0 (qdL (Sum.inl (x0, y0, 0, x1, x2, x3, x4, x5)))) (fun y1 =>
 .at (.next ((.inl (IntKind.i64.wrap ((sl y1).1 + 1), (sl y1).2.2.2.1, (sl y1).2.2.2.2.1, (sl y1).2.2.2.2.2.1, (sl y1).2.2.2.2.2.2.1, (sl y1).2.2.2.2.2.2.2)))))
 (.bi (pj 1 (qdL (Sum.inl (x0, y0, 0, x1, x2, x3, x4, x5)))) (fun y1 =>
 .at (.next ((.inr (.inl (IntKind.i64.wrap ((sl (sr y1)).1 + 1), (sl (sr y1)).2.2.2.1, (sl (sr y1)).2.2.2.2.1, (sl (sr y1)).2.2.2.2.2.1, (sl (sr y1)).2.2.2.2.2.2))))))
 (.bi (pj 2 (qdL (Sum.inl (x0, y0, 0, x1, x2, x3, x4, x5)))) (fun y1 =>
 .at (.next ((.inr (.inr ((sr (sr y1)).1, IntKind.i64.wrap ((sr (sr y1)).2.1 + 1), (sr (sr y1)).2.2.2.2.1, (sr (sr y1)).2.2.2.2.2.1, (sr (sr y1)).2.2.2.2.2.2.1, (sr (sr y1)).2.2.2.2.2.2.2))))))
 (.no))))
 (.no))
 (.no))
 (.at (.done 0))
def qe8 (G_u142q : qbp) (x0 x1 x2 : Int) (x3 : List UInt8) (x4 : List AV) : DT (Rd qca) :=
 .br (decide (x0 < (x4.length : Int)))
 (.br (qaS [CS.int IntKind.i64, CS.int IntKind.i64, CS.str, CS.slice 4] x4 x0)
 (.bi (G_u142q (intOf (cellAt x4 x0 0)) (intOf (cellAt x4 x0 1)) (strOf (cellAt x4 x0 2)) (qal (cellAt x4 x0 3))) (fun y0 =>
 .bi (pj 0 (qdL (Sum.inr (Sum.inl (x0, y0, 0, x1, x2, x3, x4))))) (fun y1 =>
 .at (.next ((.inl (IntKind.i64.wrap ((sl y1).1 + 1), (sl y1).2.2.2.1, (sl y1).2.2.2.2.1, (sl y1).2.2.2.2.2.1, (sl y1).2.2.2.2.2.2.1, (sl y1).2.2.2.2.2.2.2)))))
 (.bi (pj 1 (qdL (Sum.inr (Sum.inl (x0, y0, 0, x1, x2, x3, x4))))) (fun y1 =>
 .at (.next ((.inr (.inl (IntKind.i64.wrap ((sl (sr y1)).1 + 1), (sl (sr y1)).2.2.2.1, (sl (sr y1)).2.2.2.2.1, (sl (sr y1)).2.2.2.2.2.1, (sl (sr y1)).2.2.2.2.2.2))))))
 (.bi (pj 2 (qdL (Sum.inr (Sum.inl (x0, y0, 0, x1, x2, x3, x4))))) (fun y1 =>
 .at (.next ((.inr (.inr ((sr (sr y1)).1, IntKind.i64.wrap ((sr (sr y1)).2.1 + 1), (sr (sr y1)).2.2.2.2.1, (sr (sr y1)).2.2.2.2.2.1, (sr (sr y1)).2.2.2.2.2.2.1, (sr (sr y1)).2.2.2.2.2.2.2))))))
 (.no))))
 (.no))
 (.no))
 (.at (.done 1))
def qe9 (G_u142q : qbp) (x0 : List AV) (x1 x2 x3 : Int) (x4 : List UInt8) (x5 : List AV) : DT (Rd qca) :=
 .br (decide (x1 < (x5.length : Int)))
 (.br (qaS [CS.int IntKind.i64, CS.int IntKind.i64, CS.str, CS.slice 4] x5 x1)
 (.bi (G_u142q (intOf (cellAt x5 x1 0)) (intOf (cellAt x5 x1 1)) (strOf (cellAt x5 x1 2)) (qal (cellAt x5 x1 3))) (fun y0 =>
 .bi (pj 0 (qdL (Sum.inr (Sum.inr (x0, x1, y0, 0, x2, x3, x4, x5))))) (fun y1 =>
 .at (.next ((.inl (IntKind.i64.wrap ((sl y1).1 + 1), (sl y1).2.2.2.1, (sl y1).2.2.2.2.1, (sl y1).2.2.2.2.2.1, (sl y1).2.2.2.2.2.2.1, (sl y1).2.2.2.2.2.2.2)))))
 (.bi (pj 1 (qdL (Sum.inr (Sum.inr (x0, x1, y0, 0, x2, x3, x4, x5))))) (fun y1 =>
 .at (.next ((.inr (.inl (IntKind.i64.wrap ((sl (sr y1)).1 + 1), (sl (sr y1)).2.2.2.1, (sl (sr y1)).2.2.2.2.1, (sl (sr y1)).2.2.2.2.2.1, (sl (sr y1)).2.2.2.2.2.2))))))
 (.bi (pj 2 (qdL (Sum.inr (Sum.inr (x0, x1, y0, 0, x2, x3, x4, x5))))) (fun y1 =>
 .at (.next ((.inr (.inr ((sr (sr y1)).1, IntKind.i64.wrap ((sr (sr y1)).2.1 + 1), (sr (sr y1)).2.2.2.2.1, (sr (sr y1)).2.2.2.2.2.1, (sr (sr y1)).2.2.2.2.2.2.1, (sr (sr y1)).2.2.2.2.2.2.2))))))
 (.no))))
 (.no))
 (.no))
 (.at (.done 2))
def qbv (G_u142q : qbp) : qca → DT (Rd qca) := (Sum.elim (fun v => qe7 G_u142q v.1 v.2.1 v.2.2.1 v.2.2.2.1 v.2.2.2.2.1 v.2.2.2.2.2) (Sum.elim (fun v => qe8 G_u142q v.1 v.2.1 v.2.2.1 v.2.2.2.1 v.2.2.2.2) (fun v => qe9 G_u142q v.1 v.2.1 v.2.2.1 v.2.2.2.1 v.2.2.2.2.1 v.2.2.2.2.2)))
def qeY (G_u142q : qbp) (v : qca) : Option (Nat × qca) := qaF (qao (fun v => (qbv G_u142q v).ev) v)
theorem qk7 (G_u142q : qbp) (v : qca) : qeY G_u142q v = qao (fun v => (qbv G_u142q v).ev) v := qaa _
def qCs (G_u142q : qbp) : qb3 := LE (τ := qca) (hD qBK) (qeY G_u142q) qRE
theorem qQ4 (G_u142q : qbp) (hG : qov G_u142q) : Go.Eng.Told IP (qae F98 0).1 (qae F98 0).2 (qCs G_u142q) := qaw (inferInstance : Inhabited qca) (hs := qBK) (st := qbv G_u142q) (L := [(1009801, qCt)]) (qjC G_u142q hG) (qad (l := [qae F98 1]) (by kernel_rfl) ⟨qax (by kernel_rfl) qQ5, trivial⟩) (qk7 G_u142q) (fun v => match v with | (.inl v) => by kernel_rfl | (.inr (.inl v)) => by kernel_rfl | (.inr (.inr v)) => by kernel_rfl) (fun v => match v with | (.inl v) => by kernel_rfl | (.inr (.inl v)) => by kernel_rfl | (.inr (.inr v)) => by kernel_rfl)
def qpz (G_u142q : qbp) (x0 x1 : Int) (x2 : List UInt8) (x3 : List AV) : DT qjy :=
 .br (x0 == 4)
 (.bi (pj 0 (qeY G_u142q (Sum.inl (0, x0, x1, x2, x3, [AV.str x2])))) (fun y0 =>
 .at ((sl y0).2.2.2.2.2))
 (.bi (pj 1 (qeY G_u142q (Sum.inl (0, x0, x1, x2, x3, [AV.str x2])))) (fun y0 =>
 .at ([]))
 (.bi (pj 2 (qeY G_u142q (Sum.inl (0, x0, x1, x2, x3, [AV.str x2])))) (fun y0 =>
 .at ((sr (sr y0)).1))
 (.no))))
 (.bi (pj 0 (qeY G_u142q (Sum.inr (Sum.inl (0, x0, x1, x2, x3))))) (fun y0 =>
 .at ((sl y0).2.2.2.2.2))
 (.bi (pj 1 (qeY G_u142q (Sum.inr (Sum.inl (0, x0, x1, x2, x3))))) (fun y0 =>
 .at ([]))
 (.bi (pj 2 (qeY G_u142q (Sum.inr (Sum.inl (0, x0, x1, x2, x3))))) (fun y0 =>
 .at ((sr (sr y0)).1))
 (.no))))
def qb8 : Nat → qbp
 | 0 => fun _ _ _ _ => none
 | n + 1 => fun x0 x1 x2 x3 => (qpz ((qb8 n)) x0 x1 x2 x3).ev
def qoS (x0 x1 : Int) (x2 : List UInt8) (x3 : List AV) : Option qjy := qiE fun n => (qb8 n) x0 x1 x2 x3
theorem qm7 : ∀ n, qov ((qb8 n))
 | 0 => (fun v y h => nomatch h)
 | n + 1 => have hG := qm7 n
 qah (F := F98) (L := [(1009800, qCs ((qb8 n)))]) (t := (k4 (qpz ((qb8 n))))) (qjC ((qb8 n)) hG) (qad (l := [qae F98 0, qae F98 1]) (by kernel_rfl) ⟨qax (by kernel_rfl) (qQ4 ((qb8 n)) hG), qLz (by kernel_rfl), trivial⟩) (by kernel_rfl) (fun v => by kernel_rfl) (fun v => rfl)
theorem qMj : FH IP 98 qln qlB (k4 qoS) := qbL (p := qln) (rs := qlB) (s := fun n => (k4 ((qb8 n)))) fun n => (qm7 n)
def T97 : Tab := (98, FE qln qlB (k4 qoS)) :: T96
theorem qzK : qan IP T97 := ⟨qam qMj, qzJ⟩
abbrev qcN : Type := List UInt8 × Int
def qu0 : List PSt := [⟨[(1009300, .junk), (0, .str), (3, .int .i64)], [], 0, 0⟩]
def qE9 (x0 : List UInt8) (x1 : Int) : X × St := (X.ret, ⟨[(2, AV.bool false)], [], 0, 0⟩)
def qFa (x0 : List UInt8) (x1 : Int) : X × St := (X.exit 0, ⟨[(2, AV.junk)], [], 0, 0⟩)
def qNL : List (qcN → X × St) := [(k2 qE9), (k2 qFa)]
def qh2 (x0 : List UInt8) (x1 : Int) : DT (Rd qcN) :=
 .br (decide (x1 < (x0.length : Int)))
 (.br (inB x0.length x1)
 (.bi (br (decide (qaC x0 x1 < 97)) (some true) (br (inB x0.length x1) (some (decide (qaC x0 x1 > 122))) none)) (fun y0 =>
 .bi (br y0 (br (inB x0.length x1) (br (decide (qaC x0 x1 < 48)) (some true) (br (inB x0.length x1) (some (decide (qaC x0 x1 > 57))) none)) none) (some false)) (fun y1 =>
 .bi (br y1 (br (inB x0.length x1) (some (qaC x0 x1 != 95)) none) (some false)) (fun y2 =>
 .br (y2) (.at (.done 0)) (.at (.next ((x0, IntKind.i64.wrap (x1 + 1))))))
 (.no))
 (.no))
 (.no))
 (.no))
 (.at (.done 1))
def qhd : qcN → DT (Rd qcN) := (fun v => qh2 v.1 v.2)
def qkW (v : qcN) : Option (Nat × qcN) := qaF (qao (fun v => (qhd v).ev) v)
theorem qnS (v : qcN) : qkW v = qao (fun v => (qhd v).ev) v := qaa _
def qvw : qb3 := LE (τ := qcN) (hD qu0) (qkW) qNL
theorem qNr : Go.Eng.Told IP (qae F93 0).1 (qae F93 0).2 (qvw) := qaw (inferInstance : Inhabited qcN) (hs := qu0) (st := qhd) (L := []) qzK (qad (l := []) (by kernel_rfl) trivial) (qnS) (fun v => by kernel_rfl) (fun v => by kernel_rfl)
abbrev qyT : Type := Bool
def qDo : PArgs := ⟨[.str], []⟩
def qEa : List PRes := [⟨false, .bool, []⟩]
def qjn (x0 : List UInt8) : DT qyT :=
 .bi (br (decide ((x0.length : Int) < 1)) (some true) (some (decide ((x0.length : Int) > 16)))) (fun y0 =>
 .bi (br y0 (some true) (br (inB x0.length 0) (some (decide (qaC x0 0 < 97))) none)) (fun y1 =>
 .bi (br y1 (some true) (br (inB x0.length 0) (some (decide (qaC x0 0 > 122))) none)) (fun y2 =>
 .br (y2)
 (.at (false))
 (.bi (pj 0 (qkW (x0, 0))) (fun y3 =>
 .at (false))
 (.bi (pj 1 (qkW (x0, 0))) (fun y3 =>
 .at (true))
 (.no))))
 (.no))
 (.no))
 (.no)
def qkm (x0 : List UInt8) : Option qyT := qaF (qjn x0).ev
theorem qwT (x0 : List UInt8) : qkm x0 = (qjn x0).ev := qaa _
theorem qMw : FH IP 93 qDo qEa qkm := qah (F := F93) (L := [(1009300, qvw)]) (t := qjn) qzK (qad (l := [qae F93 0]) (by kernel_rfl) ⟨qax (by kernel_rfl) qNr, trivial⟩) (by kernel_rfl) (fun v => by kernel_rfl) (fun _ => qaa _)
def T98 : Tab := (93, FE qDo qEa qkm) :: T97
theorem qJp : qan IP T98 := ⟨qam qMw, qzK⟩
abbrev qyJ : Type := List AV
def qDf : PArgs := ⟨[], []⟩
def qD1 : List PRes := [⟨false, .view 1, []⟩]
def qjc : DT qyJ :=
 .at ([AV.str [112, 114, 111, 100, 117, 99, 116], AV.str [99, 117, 114, 114, 101, 110, 99, 121], AV.str [99, 97, 108, 101, 110, 100, 97, 114], AV.str [102, 114, 111, 109],
 AV.str [101, 118, 101, 114, 121], AV.str [111, 118, 101, 114, 100, 114, 97, 102, 116], AV.str [116, 97, 120], AV.str [99, 114, 101, 100, 105, 116],
 AV.str [100, 101, 98, 105, 116], AV.str [109, 97, 114, 103, 105, 110, 97, 108], AV.str [119, 104, 111, 108, 101], AV.str [97, 99, 116, 51, 54, 48],
 AV.str [97, 99, 116, 51, 54, 53], AV.str [97, 99, 116, 117, 97, 108], AV.str [116, 104, 105, 114, 116, 121], AV.str [100, 111, 119, 110], AV.str [117, 112],
 AV.str [102, 108, 111, 111, 114], AV.str [99, 101, 105, 108], AV.str [104, 97, 108, 102, 95, 117, 112], AV.str [104, 97, 108, 102, 95, 101, 118, 101, 110],
 AV.str [107, 101, 101, 112], AV.str [100, 114, 111, 112], AV.str [102, 101, 101], AV.str [108, 105, 109, 105, 116], AV.str [119, 104, 101, 110],
 AV.str [97, 109, 111, 117, 110, 116, 95, 111, 102], AV.str [115, 105, 110, 103, 108, 101], AV.str [100, 97, 105, 108, 121], AV.str [109, 111, 110, 116, 104, 108, 121],
 AV.str [109, 111, 110, 116, 104], AV.str [114, 101, 116, 117, 114, 110], AV.str [99, 108, 111, 115, 101], AV.str [101, 118, 101, 110, 116], AV.str [105, 102],
 AV.str [116, 104, 101, 110], AV.str [101, 108, 115, 101], AV.str [97, 110, 100], AV.str [111, 114], AV.str [110, 111, 116], AV.str [109, 105, 110], AV.str [109, 97, 120]])
def qkc : Option qyJ := qaF (qjc).ev
theorem qwK : qkc = (qjc).ev := qaa _
theorem qMg : FH IP 121 qDf qD1 (fun _ => qkc) := qah (F := qR6) (L := []) (t := (fun _ => qjc)) qJp (qad (l := []) (by kernel_rfl) trivial) (by kernel_rfl) (fun v => by kernel_rfl) (fun _ => qaa _)
def T99 : Tab := (121, FE qDf qD1 (fun _ => qkc)) :: T98
theorem qzL : qan IP T99 := ⟨qam qMg, qJp⟩
abbrev qcO : Type := List UInt8 × List AV × Int
def qu1 : List PSt := [⟨[(1009400, .junk), (0, .str), (3, .view 1), (4, .int .i64)], [], 0, 0⟩]
def qFb (x0 : List UInt8) (x1 : List AV) (x2 : Int) : X × St := (X.ret, ⟨[(2, AV.bool true)], [], 0, 0⟩)
def qFc (x0 : List UInt8) (x1 : List AV) (x2 : Int) : X × St := (X.exit 0, ⟨[(2, AV.junk)], [], 0, 0⟩)
def qNM : List (qcO → X × St) := [(k3 qFb), (k3 qFc)]
def qh3 (x0 : List UInt8) (x1 : List AV) (x2 : Int) : DT (Rd qcO) :=
 .br (decide (x2 < (x1.length : Int)))
 (.br (qaS [CS.str] x1 x2)
 (.br (strOf (cellAt x1 x2 0) == x0) (.at (.done 0)) (.at (.next ((x0, x1, IntKind.i64.wrap (x2 + 1))))))
 (.no))
 (.at (.done 1))
def qhe : qcO → DT (Rd qcO) := (fun v => qh3 v.1 v.2.1 v.2.2)
def qkX (v : qcO) : Option (Nat × qcO) := qaF (qao (fun v => (qhe v).ev) v)
theorem qnT (v : qcO) : qkX v = qao (fun v => (qhe v).ev) v := qaa _
def qvx : qb3 := LE (τ := qcO) (hD qu1) (qkX) qNM
theorem qNs : Go.Eng.Told IP (qae F94 0).1 (qae F94 0).2 (qvx) := qaw (inferInstance : Inhabited qcO) (hs := qu1) (st := qhe) (L := []) qzL (qad (l := []) (by kernel_rfl) trivial) (qnT) (fun v => by kernel_rfl) (fun v => by kernel_rfl)
abbrev qyU : Type := Bool
def qDp : PArgs := ⟨[.str], []⟩
def qEb : List PRes := [⟨false, .bool, []⟩]
def qjo (x0 : List UInt8) : DT qyU :=
 .bi (qkc) (fun y0 =>
 .bi (pj 0 (qkX (x0, y0, 0))) (fun y1 =>
 .at (true))
 (.bi (pj 1 (qkX (x0, y0, 0))) (fun y1 =>
 .at (false))
 (.no)))
 (.no)
def qhA (x0 : List UInt8) : Option qyU := qaF (qjo x0).ev
theorem qwU (x0 : List UInt8) : qhA x0 = (qjo x0).ev := qaa _
theorem qMx : FH IP 94 qDp qEb qhA := qah (F := F94) (L := [(1009400, qvx)]) (t := qjo) qzL (qad (l := [qae F94 0]) (by kernel_rfl) ⟨qax (by kernel_rfl) qNs, trivial⟩) (by kernel_rfl) (fun v => by kernel_rfl) (fun _ => qaa _)
def qUF : Tab := (94, FE qDp qEb qhA) :: T99
theorem qza : qan IP qUF := ⟨qam qMx, qzL⟩
abbrev qIh : Type := Bool
def qKs : PArgs := ⟨[.str], []⟩
def qLh : List PRes := [⟨false, .bool, []⟩]
def qqa (x0 : List UInt8) : DT qIh :=
 .bi (qkm x0) (fun y0 =>
 .bi (br y0 (br (sm (qhA x0)) (some !gv (qhA x0)) none) (some false)) (fun y1 =>
 .at (y1))
 (.no))
 (.no)
def qq1 (x0 : List UInt8) : Option qIh := qaF (qqa x0).ev
theorem qAQ (x0 : List UInt8) : qq1 x0 = (qqa x0).ev := qaa _
theorem qPn : FH IP 78 qKs qLh qq1 := qah (F := F78) (L := []) (t := qqa) qza (qad (l := []) (by kernel_rfl) trivial) (by kernel_rfl) (fun v => by kernel_rfl) (fun _ => qaa _)
def qUG : Tab := (78, FE qKs qLh qq1) :: qUF
theorem qs2 : qan IP qUG := ⟨qam qPn, qza⟩
abbrev qd7 : Type := List AV × Int
def qBu : List PSt := [⟨[(1008000, .junk), (3, .view 1), (4, .int .i64)], [], 0, 0⟩]
def qHb (x0 : List AV) (x1 : Int) : X × St := (X.ret, ⟨[(2, AV.int IntKind.i64 4)], [], 0, 0⟩)
def qHc (x0 : List AV) (x1 : Int) : X × St := (X.exit 0, ⟨[(2, AV.junk)], [], 0, 0⟩)
def qRo : List (qd7 → X × St) := [(k2 qHb), (k2 qHc)]
def qmi (x0 : List AV) (x1 : Int) : DT (Rd qd7) :=
 .br (decide (x1 < (x0.length : Int)))
 (.br (qaS [CS.str] x0 x1)
 (.bi (qq1 (strOf (cellAt x0 x1 0))) (fun y0 =>
 .br (!y0) (.at (.done 0)) (.at (.next ((x0, IntKind.i64.wrap (x1 + 1))))))
 (.no))
 (.no))
 (.at (.done 1))
def qmh : qd7 → DT (Rd qd7) := (fun v => qmi v.1 v.2)
def qrv (v : qd7) : Option (Nat × qd7) := qaF (qao (fun v => (qmh v).ev) v)
theorem qrw (v : qd7) : qrv v = qao (fun v => (qmh v).ev) v := qaa _
def qCc : qb3 := LE (τ := qd7) (hD qBu) (qrv) qRo
theorem qQO : Go.Eng.Told IP (qae F80 0).1 (qae F80 0).2 (qCc) := qaw (inferInstance : Inhabited qd7) (hs := qBu) (st := qmh) (L := []) qs2 (qad (l := []) (by kernel_rfl) trivial) (qrw) (fun v => by kernel_rfl) (fun v => by kernel_rfl)
abbrev qIg : Type := Int
def qKr : PArgs := ⟨[.agg [.int .i64, .int .i64, .str, .view 4]], []⟩
def qLg : List PRes := [⟨false, .int .i64, []⟩]
def qp9 (x0 x1 : Int) (x2 : List UInt8) (x3 : List AV) : DT qIg :=
 .bi (qke x0 x1 x2 x3 64) (fun y0 =>
 .bi (br y0 (some true) (br (sm (qkd x0 x1 x2 x3)) (some (decide (gv (qkd x0 x1 x2 x3) > 8))) none)) (fun y1 =>
 .br (y1)
 (.at (5))
 (.bi (qoU x0 x1 x2 x3) (fun y2 =>
 .br (!y2)
 (.at (1))
 (.bi (qoS x0 x1 x2 x3) (fun y3 =>
 .bi (pj 0 (qrv (y3, 0))) (fun y4 =>
 .at (4))
 (.bi (pj 1 (qrv (y3, 0))) (fun y4 =>
 .at (0))
 (.no)))
 (.no)))
 (.no)))
 (.no))
 (.no)
def qq0 (x0 x1 : Int) (x2 : List UInt8) (x3 : List AV) : Option qIg := qaF (qp9 x0 x1 x2 x3).ev
theorem qAP (x0 x1 : Int) (x2 : List UInt8) (x3 : List AV) : qq0 x0 x1 x2 x3 = (qp9 x0 x1 x2 x3).ev := qaa _
theorem qPm : FH IP 80 qKr qLg (k4 qq0) := qah (F := F80) (L := [(1008000, qCc)]) (t := (k4 qp9)) qs2 (qad (l := [qae F80 0]) (by kernel_rfl) ⟨qax (by kernel_rfl) qQO, trivial⟩) (by kernel_rfl) (fun v => by kernel_rfl) (fun _ => qaa _)
def qUH : Tab := (80, FE qKr qLg (k4 qq0)) :: qUG
theorem qzb : qan IP qUH := ⟨qam qPm, qs2⟩
abbrev qyW : Type := Bool
def qDr : PArgs := ⟨[.int .i64], []⟩
def qEd : List PRes := [⟨false, .bool, []⟩]
def qjq (x0 : Int) : DT qyW :=
 .bi (br (decide (x0 ≥ 1)) (some (decide (x0 ≤ 5))) (some false)) (fun y0 =>
 .at (y0))
 (.no)
def qhB (x0 : Int) : Option qyW := qaF (qjq x0).ev
theorem qwW (x0 : Int) : qhB x0 = (qjq x0).ev := qaa _
theorem qMz : FH IP 79 qDr qEd qhB := qah (F := F79) (L := []) (t := qjq) qzb (qad (l := []) (by kernel_rfl) trivial) (by kernel_rfl) (fun v => by kernel_rfl) (fun _ => qaa _)
def qUI : Tab := (79, FE qDr qEd qhB) :: qUH
theorem qoG : qan IP qUI := ⟨qam qMz, qzb⟩
abbrev qcl : Type := List AV × Int × Int × Int × List UInt8 × List AV
def qu5 : List PSt := [⟨[(1008100, .junk), (1, .view 2), (2, .ref 0 0 0), (6, .int .i64)], [(0, .box [.int .i64, .int .i64, .str, .view 4] false)], 1, 0⟩]
def qFj (x0 : List AV) (x1 x2 x3 : Int) (x4 : List UInt8) (x5 : List AV) : X × St := (X.ret, ⟨[(4, AV.int IntKind.i64 (intOf (cellAt x0 x1 1))), (5, AV.int IntKind.i64 0)], [], 0, 0⟩)
def qFk (x0 : List AV) (x1 x2 x3 : Int) (x4 : List UInt8) (x5 : List AV) : X × St := (X.ret, ⟨[(4, AV.int IntKind.i64 0), (5, AV.int IntKind.i64 3)], [], 0, 0⟩)
def qFl (x0 : List AV) (x1 x2 x3 : Int) (x4 : List UInt8) (x5 : List AV) : X × St := (X.exit 1, ⟨[(4, AV.junk), (5, AV.junk)], [], 0, 0⟩)
def qNQ : List (qcl → X × St) := [(k6 qFj), (k6 qFk), (k6 qFl)]
def qh7 (x0 : List AV) (x1 x2 x3 : Int) (x4 : List UInt8) (x5 : List AV) : DT (Rd qcl) :=
 .br (decide (x1 < (x0.length : Int)))
 (.br (qaS [CS.str, CS.int IntKind.i64] x0 x1)
 (.br (strOf (cellAt x0 x1 0) == x4)
 (.br (qaS [CS.str, CS.int IntKind.i64] x0 x1)
 (.bi (qhB (intOf (cellAt x0 x1 1))) (fun y0 =>
 .br (y0)
 (.br (qaS [CS.str, CS.int IntKind.i64] x0 x1) (.at (.done 0)) (.no))
 (.br (qaS [CS.str, CS.int IntKind.i64] x0 x1)
 (.br (strOf (cellAt x0 x1 0) == x4) (.at (.done 1)) (.at (.next ((x0, IntKind.i64.wrap (x1 + 1), x2, x3, x4, x5)))))
 (.no)))
 (.no))
 (.no))
 (.br (qaS [CS.str, CS.int IntKind.i64] x0 x1)
 (.br (strOf (cellAt x0 x1 0) == x4) (.at (.done 1)) (.at (.next ((x0, IntKind.i64.wrap (x1 + 1), x2, x3, x4, x5)))))
 (.no)))
 (.no))
 (.at (.done 2))
def qhf : qcl → DT (Rd qcl) := (fun v => qh7 v.1 v.2.1 v.2.2.1 v.2.2.2.1 v.2.2.2.2.1 v.2.2.2.2.2)
def qeW (v : qcl) : Option (Nat × qcl) := qaF (qao (fun v => (qhf v).ev) v)
theorem qnX (v : qcl) : qeW v = qao (fun v => (qhf v).ev) v := qaa _
def qvB : qb3 := LE (τ := qcl) (hD qu5) (qeW) qNQ
theorem qNw : Go.Eng.Told IP (qae F81 0).1 (qae F81 0).2 (qvB) := qaw (inferInstance : Inhabited qcl) (hs := qu5) (st := qhf) (L := []) qoG (qad (l := []) (by kernel_rfl) trivial) (qnX) (fun v => by kernel_rfl) (fun v => by kernel_rfl)
abbrev qec : Type := Int × List AV × Int
def qBC : List PSt := [⟨[(1009900, .junk), (0, .int .i64), (1, .view 1), (6, .int .i64)], [], 0, 0⟩]
def qHp (x0 : Int) (x1 : List AV) (x2 : Int) : X × St := (X.ret, ⟨[(0, AV.int IntKind.i64 x0), (1, AV.view 1 x1), (4, AV.int IntKind.i64 0), (5, AV.bool false)], [], 0, 0⟩)
def qHq (x0 : Int) (x1 : List AV) (x2 : Int) : X × St := (X.exit 0, ⟨[(0, AV.int IntKind.i64 x0), (1, AV.view 1 x1), (4, AV.junk), (5, AV.junk)], [], 0, 0⟩)
def qRw : List (qec → X × St) := [(k3 qHp), (k3 qHq)]
def qmr (x0 : Int) (x1 : List AV) (x2 : Int) : DT (Rd qec) :=
 .br (decide (x2 < (x1.length : Int)))
 (.br (qaS [CS.int IntKind.i64] x1 x2)
 (.bi (qhB (intOf (cellAt x1 x2 0))) (fun y0 =>
 .br (!y0) (.at (.done 0)) (.at (.next ((x0, x1, IntKind.i64.wrap (x2 + 1))))))
 (.no))
 (.no))
 (.at (.done 1))
def qmq : qec → DT (Rd qec) := (fun v => qmr v.1 v.2.1 v.2.2)
def qrH (v : qec) : Option (Nat × qec) := qaF (qao (fun v => (qmq v).ev) v)
theorem qrI (v : qec) : qrH v = qao (fun v => (qmq v).ev) v := qaa _
def qCk : qb3 := LE (τ := qec) (hD qBC) (qrH) qRw
theorem qQW : Go.Eng.Told IP (qae F99 0).1 (qae F99 0).2 (qCk) := qaw (inferInstance : Inhabited qec) (hs := qBC) (st := qmq) (L := []) qoG (qad (l := []) (by kernel_rfl) trivial) (qrI) (fun v => by kernel_rfl) (fun v => by kernel_rfl)
abbrev qyw : Type := Bool
def qC3 : PArgs := ⟨[.int .i64], []⟩
def qDP : List PRes := [⟨false, .bool, []⟩]
def qiZ (x0 : Int) : DT qyw :=
 .bi (br (x0 == 1) (some true) (some (x0 == 2))) (fun y0 =>
 .bi (br y0 (some true) (some (x0 == 3))) (fun y1 =>
 .at (y1))
 (.no))
 (.no)
def qcd (x0 : Int) : Option qyw := qaF (qiZ x0).ev
theorem qwy (x0 : Int) : qcd x0 = (qiZ x0).ev := qaa _
theorem qL1 : FH IP 141 qC3 qDP qcd := qah (F := qSa) (L := []) (t := qiZ) qoG (qad (l := []) (by kernel_rfl) trivial) (by kernel_rfl) (fun v => by kernel_rfl) (fun _ => qaa _)
def qUJ : Tab := (141, FE qC3 qDP qcd) :: qUI
theorem qzc : qan IP qUJ := ⟨qam qL1, qoG⟩
abbrev qym : Type := Int × Bool
def qCT : PArgs := ⟨[.int .i64, .int .i64], []⟩
def qDF : List PRes := [⟨false, .tup [.int .i64, .bool], []⟩]
def qiQ (x0 x1 : Int) : DT qym :=
 .bi (qcd x0) (fun y0 =>
 .bi (br (!y0) (some true) (br (sm (qcd x1)) (some !gv (qcd x1)) none)) (fun y1 =>
 .br (y1)
 (.at ((0, false)))
 (.br (x0 == 1)
 (.at ((x1, true)))
 (.br (x1 == 1) (.at ((x0, true))) (.at ((2, x0 != x1))))))
 (.no))
 (.no)
def qoO (x0 x1 : Int) : Option qym := qaF (qiQ x0 x1).ev
theorem qwp (x0 x1 : Int) : qoO x0 x1 = (qiQ x0 x1).ev := qaa _
theorem qLQ : FH IP 160 qCT qDF (k2 qoO) := qah (F := qSc) (L := []) (t := (k2 qiQ)) qzc (qad (l := []) (by kernel_rfl) trivial) (by kernel_rfl) (fun v => by kernel_rfl) (fun _ => qaa _)
def qUK : Tab := (160, FE qCT qDF (k2 qoO)) :: qUJ
theorem qzd : qan IP qUK := ⟨qam qLQ, qzc⟩
abbrev qy1 : Type := Int × Bool
def qDw : PArgs := ⟨[.int .i64, .int .i64, .int .i64], []⟩
def qEi : List PRes := [⟨false, .tup [.int .i64, .bool], []⟩]
def qjv (x0 x1 x2 : Int) : DT qy1 :=
 .br (x0 == 5)
 (.br (x1 == 4)
 (.at ((x1, x2 == 1)))
 (.bi (br (x1 == x2) (br (sm (qcd x1)) (some (gv (qcd x1))) none) (some false)) (fun y0 =>
 .at ((x1, y0)))
 (.no)))
 (.br (x0 == 6)
 (.bi (br (x1 == 4) (some (x2 == 4)) (some false)) (fun y0 =>
 .br (y0)
 (.at ((1, true)))
 (.br (x1 == 4)
 (.at ((x1, x2 == 1)))
 (.bi (br (x1 == x2) (br (sm (qcd x1)) (some (gv (qcd x1))) none) (some false)) (fun y1 =>
 .at ((x1, y1)))
 (.no))))
 (.no))
 (.br (x0 == 7)
 (.bi (qoO x1 x2) (fun y0 =>
 .at ((y0.1, y0.2)))
 (.no))
 (.br (x0 == 8)
 (.bi (br (x1 == 2) (some (x2 == 2)) (some false)) (fun y0 =>
 .br (y0)
 (.at ((1, true)))
 (.bi (qcd x1) (fun y1 =>
 .bi (br y1 (some (x2 == 1)) (some false)) (fun y2 =>
 .at ((x1, y2)))
 (.no))
 (.no)))
 (.no))
 (.br (x0 == 10)
 (.br (x0 == 10)
 (.at ((5, x1 == x2)))
 (.br (x0 == 12)
 (.br (x0 == 12)
 (.bi (br (x1 == x2) (some (x1 != 5)) (some false)) (fun y0 =>
 .at ((5, y0)))
 (.no))
 (.br (x0 == 14)
 (.br (x0 == 14)
 (.bi (br (x1 == 5) (some (x2 == 5)) (some false)) (fun y0 =>
 .at ((5, y0)))
 (.no))
 (.br (x0 == 17)
 (.br (x0 == 17)
 (.bi (br (x1 == x2) (some (x1 != 5)) (some false)) (fun y0 =>
 .at ((x1, y0)))
 (.no))
 (.at ((0, false))))
 (.br (x0 == 18)
 (.bi (br (x1 == x2) (some (x1 != 5)) (some false)) (fun y0 =>
 .at ((x1, y0)))
 (.no))
 (.at ((0, false))))))
 (.br (x0 == 15)
 (.bi (br (x1 == 5) (some (x2 == 5)) (some false)) (fun y0 =>
 .at ((5, y0)))
 (.no))
 (.br (x0 == 17)
 (.br (x0 == 17)
 (.bi (br (x1 == x2) (some (x1 != 5)) (some false)) (fun y0 =>
 .at ((x1, y0)))
 (.no))
 (.at ((0, false))))
 (.br (x0 == 18)
 (.bi (br (x1 == x2) (some (x1 != 5)) (some false)) (fun y0 =>
 .at ((x1, y0)))
 (.no))
 (.at ((0, false))))))))
 (.br (x0 == 13)
 (.bi (br (x1 == x2) (some (x1 != 5)) (some false)) (fun y0 =>
 .at ((5, y0)))
 (.no))
 (.br (x0 == 14)
 (.br (x0 == 14)
 (.bi (br (x1 == 5) (some (x2 == 5)) (some false)) (fun y0 =>
 .at ((5, y0)))
 (.no))
 (.br (x0 == 17)
 (.br (x0 == 17)
 (.bi (br (x1 == x2) (some (x1 != 5)) (some false)) (fun y0 =>
 .at ((x1, y0)))
 (.no))
 (.at ((0, false))))
 (.br (x0 == 18)
 (.bi (br (x1 == x2) (some (x1 != 5)) (some false)) (fun y0 =>
 .at ((x1, y0)))
 (.no))
 (.at ((0, false))))))
 (.br (x0 == 15)
 (.bi (br (x1 == 5) (some (x2 == 5)) (some false)) (fun y0 =>
 .at ((5, y0)))
 (.no))
 (.br (x0 == 17)
 (.br (x0 == 17)
 (.bi (br (x1 == x2) (some (x1 != 5)) (some false)) (fun y0 =>
 .at ((x1, y0)))
 (.no))
 (.at ((0, false))))
 (.br (x0 == 18)
 (.bi (br (x1 == x2) (some (x1 != 5)) (some false)) (fun y0 =>
 .at ((x1, y0)))
 (.no))
 (.at ((0, false))))))))))
 (.br (x0 == 11)
 (.at ((5, x1 == x2)))
 (.br (x0 == 12)
 (.br (x0 == 12)
 (.bi (br (x1 == x2) (some (x1 != 5)) (some false)) (fun y0 =>
 .at ((5, y0)))
 (.no))
 (.br (x0 == 14)
 (.br (x0 == 14)
 (.bi (br (x1 == 5) (some (x2 == 5)) (some false)) (fun y0 =>
 .at ((5, y0)))
 (.no))
 (.br (x0 == 17)
 (.br (x0 == 17)
 (.bi (br (x1 == x2) (some (x1 != 5)) (some false)) (fun y0 =>
 .at ((x1, y0)))
 (.no))
 (.at ((0, false))))
 (.br (x0 == 18)
 (.bi (br (x1 == x2) (some (x1 != 5)) (some false)) (fun y0 =>
 .at ((x1, y0)))
 (.no))
 (.at ((0, false))))))
 (.br (x0 == 15)
 (.bi (br (x1 == 5) (some (x2 == 5)) (some false)) (fun y0 =>
 .at ((5, y0)))
 (.no))
 (.br (x0 == 17)
 (.br (x0 == 17)
 (.bi (br (x1 == x2) (some (x1 != 5)) (some false)) (fun y0 =>
 .at ((x1, y0)))
 (.no))
 (.at ((0, false))))
 (.br (x0 == 18)
 (.bi (br (x1 == x2) (some (x1 != 5)) (some false)) (fun y0 =>
 .at ((x1, y0)))
 (.no))
 (.at ((0, false))))))))
 (.br (x0 == 13)
 (.bi (br (x1 == x2) (some (x1 != 5)) (some false)) (fun y0 =>
 .at ((5, y0)))
 (.no))
 (.br (x0 == 14)
 (.br (x0 == 14)
 (.bi (br (x1 == 5) (some (x2 == 5)) (some false)) (fun y0 =>
 .at ((5, y0)))
 (.no))
 (.br (x0 == 17)
 (.br (x0 == 17)
 (.bi (br (x1 == x2) (some (x1 != 5)) (some false)) (fun y0 =>
 .at ((x1, y0)))
 (.no))
 (.at ((0, false))))
 (.br (x0 == 18)
 (.bi (br (x1 == x2) (some (x1 != 5)) (some false)) (fun y0 =>
 .at ((x1, y0)))
 (.no))
 (.at ((0, false))))))
 (.br (x0 == 15)
 (.bi (br (x1 == 5) (some (x2 == 5)) (some false)) (fun y0 =>
 .at ((5, y0)))
 (.no))
 (.br (x0 == 17)
 (.br (x0 == 17)
 (.bi (br (x1 == x2) (some (x1 != 5)) (some false)) (fun y0 =>
 .at ((x1, y0)))
 (.no))
 (.at ((0, false))))
 (.br (x0 == 18)
 (.bi (br (x1 == x2) (some (x1 != 5)) (some false)) (fun y0 =>
 .at ((x1, y0)))
 (.no))
 (.at ((0, false))))))))))))))
def qks (x0 x1 x2 : Int) : Option qy1 := qaF (qjv x0 x1 x2).ev
theorem qw1 (x0 x1 x2 : Int) : qks x0 x1 x2 = (qjv x0 x1 x2).ev := qaa _
theorem qME : FH IP 142 qDw qEi (k3 qks) := qah (F := qSb) (L := []) (t := (k3 qjv)) qzd (qad (l := []) (by kernel_rfl) trivial) (by kernel_rfl) (fun v => by kernel_rfl) (fun _ => qaa _)
def qUL : Tab := (142, FE qDw qEi (k3 qks)) :: qUK
theorem qze : qan IP qUL := ⟨qam qME, qzd⟩
abbrev qyv : Type := Int × Bool
def qC2 : PArgs := ⟨[.int .i64, .view 1], []⟩
def qDO : List PRes := [⟨false, .tup [.int .i64, .bool], []⟩]
def qeD (x0 : Int) (x1 : List AV) : DT qyv :=
 .bi (br (x0 == 9) (some ((x1.length : Int) == 1)) (some false)) (fun y0 =>
 .br (y0)
 (.br (qaS [CS.int IntKind.i64] x1 0)
 (.br (qaS [CS.int IntKind.i64] x1 0)
 (.bi (qcd (intOf (cellAt x1 0 0))) (fun y1 =>
 .at ((intOf (cellAt x1 0 0), y1)))
 (.no))
 (.no))
 (.no))
 (.bi (br (x0 == 16) (some ((x1.length : Int) == 1)) (some false)) (fun y1 =>
 .br (y1)
 (.br (qaS [CS.int IntKind.i64] x1 0) (.at ((5, intOf (cellAt x1 0 0) == 5))) (.no))
 (.bi (br (x0 == 19) (some ((x1.length : Int) == 3)) (some false)) (fun y2 =>
 .br (y2)
 (.br (qaS [CS.int IntKind.i64] x1 1)
 (.br (qaS [CS.int IntKind.i64] x1 0)
 (.br (intOf (cellAt x1 0 0) == 5)
 (.br (qaS [CS.int IntKind.i64] x1 1)
 (.br (qaS [CS.int IntKind.i64] x1 2) (.at ((intOf (cellAt x1 1 0), intOf (cellAt x1 1 0) == intOf (cellAt x1 2 0)))) (.no))
 (.no))
 (.at ((intOf (cellAt x1 1 0), false))))
 (.no))
 (.no))
 (.br ((x1.length : Int) == 2)
 (.br (qaS [CS.int IntKind.i64] x1 0)
 (.br (qaS [CS.int IntKind.i64] x1 1)
 (.bi (qks x0 (intOf (cellAt x1 0 0)) (intOf (cellAt x1 1 0))) (fun y3 =>
 .at ((y3.1, y3.2)))
 (.no))
 (.no))
 (.no))
 (.at ((0, false)))))
 (.no)))
 (.no)))
 (.no)
def qeQ (x0 : Int) (x1 : List AV) : Option qyv := qaF (qeD x0 x1).ev
theorem qfc (x0 : Int) (x1 : List AV) : qeQ x0 x1 = (qeD x0 x1).ev := qaa _
theorem qL0 : FH IP 126 qC2 qDO (k2 qeQ) := qah (F := qR9) (L := []) (t := (k2 qeD)) qze (qad (l := []) (by kernel_rfl) trivial) (by kernel_rfl) (fun v => by kernel_rfl) (fun _ => qaa _)
def qUM : Tab := (126, FE qC2 qDO (k2 qeQ)) :: qUL
theorem qzf : qan IP qUM := ⟨qam qL0, qze⟩
abbrev qyu : Type := Int × Bool
def qC1 : PArgs := ⟨[.int .i64, .view 1], []⟩
def qDN : List PRes := [⟨false, .tup [.int .i64, .bool], []⟩]
def qiY (x0 : Int) (x1 : List AV) : DT qyu :=
 .br (decide ((x1.length : Int) > 3))
 (.at ((0, false)))
 (.bi (pj 0 (qrH (x0, x1, 0))) (fun y0 =>
 .at ((0, false)))
 (.bi (pj 1 (qrH (x0, x1, 0))) (fun y0 =>
 .bi (qeQ y0.1 y0.2.1) (fun y1 =>
 .br (!y1.2) (.at ((0, false))) (.at ((y1.1, true))))
 (.no))
 (.no)))
def qes (x0 : Int) (x1 : List AV) : Option qyu := qaF (qiY x0 x1).ev
theorem qwx (x0 : Int) (x1 : List AV) : qes x0 x1 = (qiY x0 x1).ev := qaa _
theorem qLZ : FH IP 99 qC1 qDN (k2 qes) := qah (F := F99) (L := [(1009900, qCk)]) (t := (k2 qiY)) qzf (qad (l := [qae F99 0]) (by kernel_rfl) ⟨qax (by kernel_rfl) qQW, trivial⟩) (by kernel_rfl) (fun v => by kernel_rfl) (fun _ => qaa _)
def qSx : Tab := (99, FE qC1 qDN (k2 qes)) :: qUM
theorem qzg : qan IP qSx := ⟨qam qLZ, qzf⟩
abbrev qfW : Type := Int × Int
def qlt : PArgs := ⟨[.agg [.int .i64, .int .i64, .str, .view 4], .view 2], []⟩
def qlH : List PRes := [⟨false, .tup [.int .i64, .int .i64], []⟩]
abbrev qa2 : Type := Int → Int → (List UInt8) → (List AV) → (List AV) → Option qfW
def qoB (G_u168q : qa2) : Prop := FH IP 81 qlt qlH (k5 G_u168q)
def qFM (G_u168q : qa2) : Tab := (81, FE qlt qlH (k5 G_u168q)) :: qSx
theorem qjH (G_u168q : qa2) (hG : qoB G_u168q) : qan IP (qFM G_u168q) := ⟨qam (hG), qzg⟩
abbrev qbA : Type := (List AV × Int × Int × Int × List UInt8 × List AV) ⊕ (List AV × Int × Int × Int × List UInt8 × List AV × List AV)
def qu6 : List PSt := [⟨[(1008101, .junk), (1, .view 2), (2, .ref 0 0 0), (7, .nils ⟨1, .any⟩), (8, .int .i64)], [(0, .box [.int .i64, .int .i64, .str, .view 4] false)], 1, 0⟩, ⟨[(1008101, .junk), (1, .view 2), (2, .ref 0 0 0), (7, .own 1 0), (8, .int .i64)], [(0, .box [.int .i64, .int .i64, .str, .view 4] false), (1, .arr 1 false)], 2, 0⟩]
def qFm (G_u168q : qa2) (x0 : List AV) (x1 x2 x3 : Int) (x4 : List UInt8) (x5 : List AV) : X × St := (X.ret,
 ⟨[(2, AV.ref 0 0 0), (4, AV.int IntKind.i64 0),
 (5, AV.int IntKind.i64 (gv (G_u168q (intOf (cellAt x5 x1 0)) (intOf (cellAt x5 x1 1)) (strOf (cellAt x5 x1 2)) (qal (cellAt x5 x1 3)) x0)).2),
 (7, AV.nils ⟨1, NKd.any⟩)], [(0, Blk.box [AV.int IntKind.i64 x2, AV.int IntKind.i64 x3, AV.str x4, AV.view 4 x5] false)], 1, 0⟩)
def qFn (G_u168q : qa2) (x0 : List AV) (x1 x2 x3 : Int) (x4 : List UInt8) (x5 : List AV) : X × St := (X.exit 3,
 ⟨[(2, AV.ref 0 0 0), (4, AV.junk), (5, AV.junk), (7, AV.nils ⟨1, NKd.any⟩)], [(0, Blk.box [AV.int IntKind.i64 x2, AV.int IntKind.i64 x3, AV.str x4, AV.view 4 x5] false)], 1, 0⟩)
def qFo (G_u168q : qa2) (x0 : List AV) (x1 x2 x3 : Int) (x4 : List UInt8) (x5 x6 : List AV) : X × St := (X.ret,
 ⟨[(2, AV.ref 0 0 0), (4, AV.int IntKind.i64 0),
 (5, AV.int IntKind.i64 (gv (G_u168q (intOf (cellAt x5 x1 0)) (intOf (cellAt x5 x1 1)) (strOf (cellAt x5 x1 2)) (qal (cellAt x5 x1 3)) x0)).2), (7, AV.own 1 0 none)], [(0, Blk.box [AV.int IntKind.i64 x2, AV.int IntKind.i64 x3, AV.str x4, AV.view 4 x5] false), (1, Blk.arr 1 x6 false)], 2, 0⟩)
def qFp (G_u168q : qa2) (x0 : List AV) (x1 x2 x3 : Int) (x4 : List UInt8) (x5 x6 : List AV) : X × St := (X.exit 3,
 ⟨[(2, AV.ref 0 0 0), (4, AV.junk), (5, AV.junk), (7, AV.own 1 0 none)], [(0, Blk.box [AV.int IntKind.i64 x2, AV.int IntKind.i64 x3, AV.str x4, AV.view 4 x5] false), (1, Blk.arr 1 x6 false)], 2, 0⟩)
def qNR (G_u168q : qa2) : List (qbA → X × St) := [fun w => (k6 (qFm G_u168q)) ((sl w)), fun w => (k6 (qFn G_u168q)) ((sl w)), fun w => (k7 (qFo G_u168q)) ((sr w)), fun w => (k7 (qFp G_u168q)) ((sr w))]
def qfF (G_u168q : qa2) (x0 : List AV) (x1 x2 x3 : Int) (x4 : List UInt8) (x5 : List AV) : DT (Rd qbA) :=
 .br (decide (x1 < (x5.length : Int)))
 (.br (qaS [CS.int IntKind.i64, CS.int IntKind.i64, CS.str, CS.slice 4] x5 x1)
 (.bi (G_u168q (intOf (cellAt x5 x1 0)) (intOf (cellAt x5 x1 1)) (strOf (cellAt x5 x1 2)) (qal (cellAt x5 x1 3)) x0) (fun y0 =>
 .br (y0.2 != 0) (.at (.done 0)) (.at (.next ((.inr (x0, IntKind.i64.wrap (x1 + 1), x2, x3, x4, x5, [AV.int IntKind.i64 y0.1]))))))
 (.no))
 (.no))
 (.at (.done 1))
def qfG (G_u168q : qa2) (x0 : List AV) (x1 x2 x3 : Int) (x4 : List UInt8) (x5 x6 : List AV) : DT (Rd qbA) :=
 .br (decide (x1 < (x5.length : Int)))
 (.br (qaS [CS.int IntKind.i64, CS.int IntKind.i64, CS.str, CS.slice 4] x5 x1)
 (.bi (G_u168q (intOf (cellAt x5 x1 0)) (intOf (cellAt x5 x1 1)) (strOf (cellAt x5 x1 2)) (qal (cellAt x5 x1 3)) x0) (fun y0 =>
 .br (y0.2 != 0)
 (.at (.done 2))
 (.br (room (x6.length + 1) 8) (.at (.next ((.inr (x0, IntKind.i64.wrap (x1 + 1), x2, x3, x4, x5, x6 ++ [AV.int IntKind.i64 y0.1]))))) (.no)))
 (.no))
 (.no))
 (.at (.done 3))
def qco (G_u168q : qa2) : qbA → DT (Rd qbA) := (Sum.elim (fun v => qfF G_u168q v.1 v.2.1 v.2.2.1 v.2.2.2.1 v.2.2.2.2.1 v.2.2.2.2.2) (fun v => qfG G_u168q v.1 v.2.1 v.2.2.1 v.2.2.2.1 v.2.2.2.2.1 v.2.2.2.2.2.1 v.2.2.2.2.2.2))
def qeX (G_u168q : qa2) (v : qbA) : Option (Nat × qbA) := qaF (qao (fun v => (qco G_u168q v).ev) v)
theorem qfj (G_u168q : qa2) (v : qbA) : qeX G_u168q v = qao (fun v => (qco G_u168q v).ev) v := qaa _
def qvC (G_u168q : qa2) : qb3 := LE (τ := qbA) (hD qu6) (qeX G_u168q) (qNR G_u168q)
theorem qNx (G_u168q : qa2) (hG : qoB G_u168q) : Go.Eng.Told IP (qae F81 1).1 (qae F81 1).2 (qvC G_u168q) := qaw (inferInstance : Inhabited qbA) (hs := qu6) (st := qco G_u168q) (L := []) (qjH G_u168q hG) (qad (l := []) (by kernel_rfl) trivial) (qfj G_u168q) (fun v => match v with | (.inl v) => by kernel_rfl | (.inr v) => by kernel_rfl) (fun v => match v with | (.inl v) => by kernel_rfl | (.inr v) => by kernel_rfl)
end
end Go.Proofs.H15c

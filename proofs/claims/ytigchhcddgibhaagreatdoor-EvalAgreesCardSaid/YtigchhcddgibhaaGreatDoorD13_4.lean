/- Functions over plain data. Printed by a program of mine. -/
import Derived.Test.YtigchhcddgibhaaGreatDoorD13_3
import Derived.KernelRfl
set_option linter.unusedVariables false
set_option linter.unusedSimpArgs false
set_option linter.unnecessarySimpa false
namespace Go.Proofs.H13
open Go Go.Eng
set_option maxRecDepth 100000
noncomputable section
abbrev qGv : Type := Int × Int × List UInt8 × Int
def qMv : PArgs := ⟨[.str], []⟩
def qN6 : List PRes := [⟨false, .tup [.agg [.int .i64, .int .i64, .str], .int .i64], []⟩]
def qmD (x0 : List UInt8) : DT qGv :=
 .br (inB x0.length 0)
 (.bi (qko (IntKind.i32.wrap (qaX x0 0))) (fun y0 =>
 .br (y0)
 (.bi (qwt x0) (fun y1 =>
 .bi (qol y1) (fun y2 =>
 .br (y2)
 (.at ((5, 0, y1, 0)))
 (.br (decide ((y1.length : Int) > 16)) (.at ((0, 0, [], 4))) (.at ((1, 0, y1, 0)))))
 (.no))
 (.no))
 (.bi (qge (IntKind.i32.wrap (qaX x0 0))) (fun y1 =>
 .br (y1)
 (.bi (qwu x0) (fun y2 =>
 .bi (qob y2) (fun y3 =>
 .at ((y3.1, y3.2.1, y3.2.2.1, y3.2.2.2)))
 (.no))
 (.no))
 (.bi (qog) (fun y2 =>
 .bi (pj 0 (qo8 (x0, y2, (y2.length : Int), 0, 0, 0, []))) (fun y3 =>
 .at ((4, 0, strOf (cellAt y3.2.1 y3.2.2.2.1 0), 0)))
 (.bi (pj 1 (qo8 (x0, y2, (y2.length : Int), 0, 0, 0, []))) (fun y3 =>
 .at ((0, 0, [], 2)))
 (.no)))
 (.no)))
 (.no)))
 (.no))
 (.no)
def qdP (x0 : List UInt8) : Option qGv := qaz (qmD x0).ev
theorem qDJ (x0 : List UInt8) : qdP x0 = (qmD x0).ev := qaa _
theorem qY9 : FH IP 144 qMv qN6 qdP := qaf (F := q2y) (L := [(1014400, qBM)]) (t := qmD) qIF (qab (l := [qah q2y 0]) (by kernel_rfl) ⟨qay (by kernel_rfl) q1e, trivial⟩) (by kernel_rfl) (fun v => by kernel_rfl) (fun _ => qaa _)
def T65 : Tab := (144, FE qMv qN6 qdP) :: T64
theorem qIG : qaj IP T65 := ⟨qak qY9, qIF⟩
abbrev qdM : Type := (List UInt8 × Int) ⊕ (List UInt8 × Int × List AV)
def qKG : List PSt := [⟨[(1013200, .junk), (0, .str), (5, .nils 3), (6, .int .i64)], [], 0, 0⟩, ⟨[(1013200, .junk), (0, .str), (5, .own 0 0), (6, .int .i64)], [(0, .arr 3 false)], 1, 0⟩]
def qSW (x0 : List UInt8) (x1 : Int) : X × St := (X.ret, ⟨[(2, AV.nils ⟨3, NKd.nil⟩), (3, AV.int IntKind.i64 0), (4, AV.int IntKind.i64 0)], [], 0, 0⟩)
def qSX (x0 : List UInt8) (x1 : Int) : X × St := (X.ret,
 ⟨[(2, AV.nils ⟨3, NKd.nil⟩), (3, AV.int IntKind.i64 (IntKind.i64.wrap (x1 + ((Lib.countByte (List.take (gv (qbO x0)).toNat x0) 10) : Int)))),
 (4, AV.int IntKind.i64 (gv (qdP (List.drop (gv (qbO x0)).toNat x0))).2.2.2)], [], 0, 0⟩)
def qSY (x0 : List UInt8) (x1 : Int) (x2 : List AV) : X × St := (X.ret, ⟨[(2, AV.own 0 0 none), (3, AV.int IntKind.i64 0), (4, AV.int IntKind.i64 0)], [(0, Blk.arr 3 x2 false)], 1, 0⟩)
def qSZ (x0 : List UInt8) (x1 : Int) (x2 : List AV) : X × St := (X.ret,
 ⟨[(2, AV.nils ⟨3, NKd.nil⟩), (3, AV.int IntKind.i64 (IntKind.i64.wrap (x1 + ((Lib.countByte (List.take (gv (qbO x0)).toNat x0) 10) : Int)))),
 (4, AV.int IntKind.i64 (gv (qdP (List.drop (gv (qbO x0)).toNat x0))).2.2.2)], [], 0, 0⟩)
def q6w : List (qdM → X × St) := [fun w => (k2 qSW) ((sl w)), fun w => (k2 qSX) ((sl w)), fun w => (k3 qSY) ((sr w)), fun w => (k3 qSZ) ((sr w))]
def qjU (x0 : List UInt8) (x1 : Int) : DT (Rd qdM) :=
 .bi (qbO x0) (fun y0 =>
 .br (leB y0 x0.length && true)
 (.br (leB y0 x0.length)
 (.br (List.drop y0.toNat x0 == [])
 (.at (.done 0))
 (.bi (qdP (List.drop y0.toNat x0)) (fun y1 =>
 .br (y1.2.2.2 != 0)
 (.at (.done 1))
 (.br (leB (y1.2.2.1.length : Int) (List.drop y0.toNat x0).length)
 (.at (.next ((.inr (List.drop (y1.2.2.1.length : Int).toNat (List.drop y0.toNat x0), IntKind.i64.wrap (x1 + ((Lib.countByte (List.take y0.toNat x0) 10) : Int)), [AV.agg [AV.int IntKind.i64 y1.1, AV.int IntKind.i64 (IntKind.i64.wrap (x1 + ((Lib.countByte (List.take y0.toNat x0) 10) : Int))), AV.str y1.2.2.1]])))))
 (.no)))
 (.no)))
 (.no))
 (.no))
 (.no)
def qjV (x0 : List UInt8) (x1 : Int) (x2 : List AV) : DT (Rd qdM) :=
 .bi (qbO x0) (fun y0 =>
 .br (leB y0 x0.length && true)
 (.br (leB y0 x0.length)
 (.br (List.drop y0.toNat x0 == [])
 (.at (.done 2))
 (.bi (qdP (List.drop y0.toNat x0)) (fun y1 =>
 .br (y1.2.2.2 != 0)
 (.at (.done 3))
 (.br (room (x2.length + 1) 32)
 (.br (leB (y1.2.2.1.length : Int) (List.drop y0.toNat x0).length)
 (.at (.next ((.inr (List.drop (y1.2.2.1.length : Int).toNat (List.drop y0.toNat x0), IntKind.i64.wrap (x1 + ((Lib.countByte (List.take y0.toNat x0) 10) : Int)), x2 ++ [AV.agg [AV.int IntKind.i64 y1.1, AV.int IntKind.i64 (IntKind.i64.wrap (x1 + ((Lib.countByte (List.take y0.toNat x0) 10) : Int))), AV.str y1.2.2.1]])))))
 (.no))
 (.no)))
 (.no)))
 (.no))
 (.no))
 (.no)
def qfh : qdM → DT (Rd qdM) := (Sum.elim (fun v => qjU v.1 v.2) (fun v => qjV v.1 v.2.1 v.2.2))
def qlA (v : qdM) : Option (Nat × qdM) := qaz (qar (fun v => (qfh v).ev) v)
theorem qpk (v : qdM) : qlA v = qar (fun v => (qfh v).ev) v := qaa _
def qLc : qcJ := LE (τ := qdM) (hD qKG) (qlA) q6w
theorem q54 : Go.Eng.Told IP (qah q2v 0).1 (qah q2v 0).2 (qLc) := qax (inferInstance : Inhabited qdM) (hs := qKG) (st := qfh) (L := []) qIG (qab (l := []) (by kernel_rfl) trivial) (qpk) (fun v => match v with | (.inl v) => by kernel_rfl | (.inr v) => by kernel_rfl) (fun v => match v with | (.inl v) => by kernel_rfl | (.inr v) => by kernel_rfl)
abbrev qHo : Type := List AV × Int × Int
def qWo : PArgs := ⟨[.str], []⟩
def qXs : List PRes := [⟨false, .tup [.view 3, .int .i64, .int .i64], []⟩]
def qu7 (x0 : List UInt8) : DT qHo :=
 .br (decide ((x0.length : Int) > 2048))
 (.at (([], 0, 5)))
 (.bi (pj 0 (qlA (Sum.inl (x0, 1)))) (fun y0 =>
 .at (([], 0, 0)))
 (.bi (pj 1 (qlA (Sum.inl (x0, 1)))) (fun y0 =>
 .at (([], IntKind.i64.wrap ((sl y0).2 + ((Lib.countByte (List.take (gv (qbO (sl y0).1)).toNat (sl y0).1) 10) : Int)), (gv (qdP (List.drop (gv (qbO (sl y0).1)).toNat (sl y0).1))).2.2.2)))
 (.bi (pj 2 (qlA (Sum.inl (x0, 1)))) (fun y0 =>
 .at (((sr y0).2.2, 0, 0)))
 (.bi (pj 3 (qlA (Sum.inl (x0, 1)))) (fun y0 =>
 .at (([], IntKind.i64.wrap ((sr y0).2.1 + ((Lib.countByte (List.take (gv (qbO (sr y0).1)).toNat (sr y0).1) 10) : Int)), (gv (qdP (List.drop (gv (qbO (sr y0).1)).toNat (sr y0).1))).2.2.2)))
 (.no)))))
def qwq (x0 : List UInt8) : Option qHo := qaz (qu7 x0).ev
theorem qJK (x0 : List UInt8) : qwq x0 = (qu7 x0).ev := qaa _
theorem q3W : FH IP 132 qWo qXs qwq := qaf (F := q2v) (L := [(1013200, qLc)]) (t := qu7) qIG (qab (l := [qah q2v 0]) (by kernel_rfl) ⟨qay (by kernel_rfl) q54, trivial⟩) (by kernel_rfl) (fun v => by kernel_rfl) (fun _ => qaa _)
def T66 : Tab := (132, FE qWo qXs qwq) :: T65
theorem qU2 : qaj IP T66 := ⟨qak q3W, qIG⟩
abbrev qT3 : Type := Bool
def qWI : PArgs := ⟨[.str], []⟩
def qXM : List PRes := [⟨false, .bool, []⟩]
def qvr (x0 : List UInt8) : DT qT3 :=
 .bi (qwq x0) (fun y0 =>
 .bi (br (y0.2.2 == 0) (some ((y0.1.length : Int) == 1)) (some false)) (fun y1 =>
 .bi (br y1 (br (qaB [CS.int IntKind.i64, CS.int IntKind.i64, CS.str] y0.1 0) (some (intOf (cellAt y0.1 0 0) == 1)) none) (some false)) (fun y2 =>
 .bi (br y2 (br (qaB [CS.int IntKind.i64, CS.int IntKind.i64, CS.str] y0.1 0) (some (strOf (cellAt y0.1 0 2) == x0)) none) (some false)) (fun y3 =>
 .at (y3))
 (.no))
 (.no))
 (.no))
 (.no)
def qrU (x0 : List UInt8) : Option qT3 := qaz (qvr x0).ev
theorem qJ4 (x0 : List UInt8) : qrU x0 = (qvr x0).ev := qaa _
theorem q4f : FH IP 114 qWI qXM qrU := qaf (F := q7j) (L := []) (t := qvr) qU2 (qab (l := []) (by kernel_rfl) trivial) (by kernel_rfl) (fun v => by kernel_rfl) (fun _ => qaa _)
def T67 : Tab := (114, FE qWI qXM qrU) :: T66
theorem qU3 : qaj IP T67 := ⟨qak q4f, qU2⟩
abbrev qGs : Type := Bool
def qMs : PArgs := ⟨[.agg [.int .i64, .int .i64, .str, .view 4]], []⟩
def qN3 : List PRes := [⟨false, .bool, []⟩]
def qmA (x0 x1 : Int) (x2 : List UInt8) (x3 : List AV) : DT qGs :=
 .bi (br (x0 != 4) (some true) (br (sm (qrU x2)) (some (gv (qrU x2))) none)) (fun y0 =>
 .at (y0))
 (.no)
def qoj (x0 x1 : Int) (x2 : List UInt8) (x3 : List AV) : Option qGs := qaz (qmA x0 x1 x2 x3).ev
theorem qDG (x0 x1 : Int) (x2 : List UInt8) (x3 : List AV) : qoj x0 x1 x2 x3 = (qmA x0 x1 x2 x3).ev := qaa _
theorem qY6 : FH IP 84 qMs qN3 (k4 qoj) := qaf (F := F84) (L := []) (t := (k4 qmA)) qU3 (qab (l := []) (by kernel_rfl) trivial) (by kernel_rfl) (fun v => by kernel_rfl) (fun _ => qaa _)
def T68 : Tab := (84, FE qMs qN3 (k4 qoj)) :: T67
theorem qU4 : qaj IP T68 := ⟨qak qY6, qU3⟩
abbrev qye : Type := Bool
def qpz : PArgs := ⟨[.agg [.int .i64, .int .i64, .str, .view 4], .fn (.func 84) []], []⟩
def qpO : List PRes := [⟨false, .bool, []⟩]
abbrev qbR : Type := Int → Int → (List UInt8) → (List AV) → Option qye
abbrev qYc : Type := Bool
def qLT : PArgs := ⟨[.view 4, .fn (.func 112) [.ptr [.fn (.func 84) []]]], []⟩
def qNu : List PRes := [⟨false, .bool, []⟩]
abbrev qeK : Type := (List AV) → Option qYc
abbrev qYe : Type := Int
def qNq : PArgs := ⟨[.view 4, .fn (.func 112) [.ptr [.fn (.func 84) []]]], []⟩
def qO2 : List PRes := [⟨false, .int .i64, []⟩]
abbrev qeM : Type := (List AV) → Option qYe
abbrev qHr : Type := Bool
def qxo : PArgs := ⟨[.agg [.int .i64, .int .i64, .str, .view 4], .ptr [.fn (.func 84) []]], []⟩
def qxr : List PRes := [⟨false, .bool, []⟩]
abbrev qcI : Type := Int → Int → (List UInt8) → (List AV) → Option qHr
def qsZ (G_u136q : qbR) (G_u0q : qeK) (G_u4q : qeM) (G_u74q : qcI) : Prop := FH IP 82 qpz qpO (k4 G_u136q) ∧ FH IP 111 qLT qNu G_u0q ∧ FH IP 131 qNq qO2 G_u4q ∧ FH IP 112 qxo qxr (k4 G_u74q)
def qRh (G_u136q : qbR) (G_u0q : qeK) (G_u4q : qeM) (G_u74q : qcI) : Tab := (82, FE qpz qpO (k4 G_u136q)) :: (111, FE qLT qNu G_u0q) :: (131, FE qNq qO2 G_u4q) :: (112, FE qxo qxr (k4 G_u74q)) :: T68
theorem qef (G_u136q : qbR) (G_u0q : qeK) (G_u4q : qeM) (G_u74q : qcI) (hG : qsZ G_u136q G_u0q G_u4q G_u74q) : qaj IP (qRh G_u136q G_u0q G_u4q G_u74q) := ⟨qak (hG.1), qak (hG.2.1), qak (hG.2.2.1), qak (hG.2.2.2), qU4⟩
abbrev qjc : Type := List AV × Int × Int
def qVL : List PSt := [⟨[(1013100, .junk), (0, .view 4), (1, .fn (.func 112) [.ptr [.fn (.func 84) []]]), (7, .int .i64), (8, .int .i64)], [], 0, 0⟩]
def q2g (x0 : List AV) (x1 x2 : Int) : X × St := (X.ret, ⟨[(4, AV.int IntKind.i64 x2)], [], 0, 0⟩)
def q2h (x0 : List AV) (x1 x2 : Int) : X × St := (X.exit 0, ⟨[(4, AV.junk)], [], 0, 0⟩)
def zaz : List (qjc → X × St) := [(k3 q2g), (k3 q2h)]
def qut (G_u136q : qbR) (G_u0q : qeK) (G_u4q : qeM) (G_u74q : qcI) (x0 : List AV) (x1 x2 : Int) : DT (Rd qjc) :=
 .br (decide (x2 < x1))
 (.br (qaB [CS.int IntKind.i64, CS.int IntKind.i64, CS.str, CS.slice 4] x0 x2)
 (.bi (G_u74q (intOf (cellAt x0 x2 0)) (intOf (cellAt x0 x2 1)) (strOf (cellAt x0 x2 2)) (qal (cellAt x0 x2 3))) (fun y0 =>
 .br (y0) (.at (.done 0)) (.at (.next ((x0, x1, IntKind.i64.wrap (x2 + 1))))))
 (.no))
 (.no))
 (.at (.done 1))
def qxK (G_u136q : qbR) (G_u0q : qeK) (G_u4q : qeM) (G_u74q : qcI) : qjc → DT (Rd qjc) := (fun v => qut G_u136q G_u0q G_u4q G_u74q v.1 v.2.1 v.2.2)
def qKY (G_u136q : qbR) (G_u0q : qeK) (G_u4q : qeM) (G_u74q : qcI) (v : qjc) : Option (Nat × qjc) := qaz (qar (fun v => (qxK G_u136q G_u0q G_u4q G_u74q v).ev) v)
theorem qBt (G_u136q : qbR) (G_u0q : qeK) (G_u4q : qeM) (G_u74q : qcI) (v : qjc) : qKY G_u136q G_u0q G_u4q G_u74q v = qar (fun v => (qxK G_u136q G_u0q G_u4q G_u74q v).ev) v := qaa _
def qVS (G_u136q : qbR) (G_u0q : qeK) (G_u4q : qeM) (G_u74q : qcI) : qcJ := LE (τ := qjc) (hD qVL) (qKY G_u136q G_u0q G_u4q G_u74q) zaz
theorem zaq (G_u136q : qbR) (G_u0q : qeK) (G_u4q : qeM) (G_u74q : qcI) (hG : qsZ G_u136q G_u0q G_u4q G_u74q) : Go.Eng.Told IP (qah qQ8 0).1 (qah qQ8 0).2 (qVS G_u136q G_u0q G_u4q G_u74q) := qax (inferInstance : Inhabited qjc) (hs := qVL) (st := qxK G_u136q G_u0q G_u4q G_u74q) (L := []) (qef G_u136q G_u0q G_u4q G_u74q hG) (qab (l := []) (by kernel_rfl) trivial) (qBt G_u136q G_u0q G_u4q G_u74q) (fun v => by kernel_rfl) (fun v => by kernel_rfl)
def quD (G_u136q : qbR) (G_u0q : qeK) (G_u4q : qeM) (G_u74q : qcI) (x0 x1 : Int) (x2 : List UInt8) (x3 : List AV) : DT qye :=
 .bi (qoj x0 x1 x2 x3) (fun y0 =>
 .bi (br y0 (br (sm (G_u0q x3)) (some !gv (G_u0q x3)) none) (some false)) (fun y1 =>
 .at (y1))
 (.no))
 (.no)
def qPu (G_u136q : qbR) (G_u0q : qeK) (G_u4q : qeM) (G_u74q : qcI) (x0 : List AV) : DT qYc :=
 .bi (G_u4q x0) (fun y0 =>
 .at (decide (y0 ≥ 0)))
 (.no)
def qPw (G_u136q : qbR) (G_u0q : qeK) (G_u4q : qeM) (G_u74q : qcI) (x0 : List AV) : DT qYe :=
 .bi (pj 0
 (qKY G_u136q G_u0q G_u4q G_u74q
 (x0, (x0.length : Int), 0))) (fun y0 =>
 .at (y0.2.2))
 (.bi (pj 1
 (qKY G_u136q G_u0q G_u4q G_u74q
 (x0, (x0.length : Int), 0))) (fun y0 =>
 .at (-1))
 (.no))
def qAo (G_u136q : qbR) (G_u0q : qeK) (G_u4q : qeM) (G_u74q : qcI) (x0 x1 : Int) (x2 : List UInt8) (x3 : List AV) : DT qHr :=
 .bi (G_u136q x0 x1 x2 x3) (fun y0 =>
 .at (!y0))
 (.no)
def qap : Nat → qbR × qeK × qeM × qcI
 | 0 => (fun _ _ _ _ => none, fun _ => none, fun _ => none, fun _ _ _ _ => none)
 | n + 1 => (fun x0 x1 x2 x3 => (quD ((qap n).1) ((qap n).2.1) ((qap n).2.2.1) ((qap n).2.2.2) x0 x1 x2 x3).ev, fun x0 => (qPu ((qap n).1) ((qap n).2.1) ((qap n).2.2.1) ((qap n).2.2.2) x0).ev, fun x0 => (qPw ((qap n).1) ((qap n).2.1) ((qap n).2.2.1) ((qap n).2.2.2) x0).ev, fun x0 x1 x2 x3 => (qAo ((qap n).1) ((qap n).2.1) ((qap n).2.2.1) ((qap n).2.2.2) x0 x1 x2 x3).ev)
def qtw (x0 x1 : Int) (x2 : List UInt8) (x3 : List AV) : Option qye := qlO fun n => (qap n).1 x0 x1 x2 x3
def q4I (x0 : List AV) : Option qYc := qlO fun n => (qap n).2.1 x0
def q4K (x0 : List AV) : Option qYe := qlO fun n => (qap n).2.2.1 x0
def qVI (x0 x1 : Int) (x2 : List UInt8) (x3 : List AV) : Option qHr := qlO fun n => (qap n).2.2.2 x0 x1 x2 x3
theorem qfk : ∀ n, qsZ ((qap n).1) ((qap n).2.1) ((qap n).2.2.1) ((qap n).2.2.2)
 | 0 => ⟨(fun v y h => nomatch h), (fun v y h => nomatch h), (fun v y h => nomatch h), (fun v y h => nomatch h)⟩
 | n + 1 => have hG := qfk n
 ⟨qaf (F := F82) (L := []) (t := (k4 (quD ((qap n).1) ((qap n).2.1) ((qap n).2.2.1) ((qap n).2.2.2)))) (qef ((qap n).1) ((qap n).2.1) ((qap n).2.2.1) ((qap n).2.2.2) hG) (qab (l := []) (by kernel_rfl) trivial) (by kernel_rfl) (fun v => by kernel_rfl) (fun v => rfl), qaf (F := q6K) (L := []) (t := (qPu ((qap n).1) ((qap n).2.1) ((qap n).2.2.1) ((qap n).2.2.2))) (qef ((qap n).1) ((qap n).2.1) ((qap n).2.2.1) ((qap n).2.2.2) hG) (qab (l := []) (by kernel_rfl) trivial) (by kernel_rfl) (fun v => by kernel_rfl) (fun v => rfl), qaf (F := qQ8) (L := [(1013100, qVS ((qap n).1) ((qap n).2.1) ((qap n).2.2.1) ((qap n).2.2.2))]) (t := (qPw ((qap n).1) ((qap n).2.1) ((qap n).2.2.1) ((qap n).2.2.2))) (qef ((qap n).1) ((qap n).2.1) ((qap n).2.2.1) ((qap n).2.2.2) hG) (qab (l := [qah qQ8 0]) (by kernel_rfl) ⟨qay (by kernel_rfl) (zaq ((qap n).1) ((qap n).2.1) ((qap n).2.2.1) ((qap n).2.2.2) hG), trivial⟩) (by kernel_rfl) (fun v => by kernel_rfl) (fun v => rfl), qaf (F := q6L) (L := []) (t := (k4 (qAo ((qap n).1) ((qap n).2.1) ((qap n).2.2.1) ((qap n).2.2.2)))) (qef ((qap n).1) ((qap n).2.1) ((qap n).2.2.1) ((qap n).2.2.2) hG) (qab (l := []) (by kernel_rfl) trivial) (by kernel_rfl) (fun v => by kernel_rfl) (fun v => rfl)⟩
theorem qYK : FH IP 82 qpz qpO (k4 qtw) := qcz (p := qpz) (rs := qpO) (s := fun n => (k4 ((qap n).1))) fun n => (qfk n).1
theorem q8d : FH IP 111 qLT qNu q4I := qcz (p := qLT) (rs := qNu) (s := fun n => ((qap n).2.1)) fun n => (qfk n).2.1
theorem q8f : FH IP 131 qNq qO2 q4K := qcz (p := qNq) (rs := qO2) (s := fun n => ((qap n).2.2.1)) fun n => (qfk n).2.2.1
theorem q4d : FH IP 112 qxo qxr (k4 qVI) := qcz (p := qxo) (rs := qxr) (s := fun n => (k4 ((qap n).2.2.2))) fun n => (qfk n).2.2.2
def T69 : Tab := (82, FE qpz qpO (k4 qtw)) :: T68
theorem q3e : qaj IP T69 := ⟨qak qYK, qU4⟩
def T70 : Tab := (111, FE qLT qNu q4I) :: T69
theorem q3g : qaj IP T70 := ⟨qak q8d, q3e⟩
def T71 : Tab := (131, FE qNq qO2 q4K) :: T70
theorem q3h : qaj IP T71 := ⟨qak q8f, q3g⟩
def T72 : Tab := (112, FE qxo qxr (k4 qVI)) :: T71
theorem qU5 : qaj IP T72 := ⟨qak q4d, q3h⟩
abbrev qT1 : Type := Int
def qWG : PArgs := ⟨[.agg [.int .i64, .int .i64, .str, .view 4]], []⟩
def qXK : List PRes := [⟨false, .int .i64, []⟩]
def qvp (x0 x1 : Int) (x2 : List UInt8) (x3 : List AV) : DT qT1 :=
 .bi (qtx x0 x1 x2 x3) (fun y0 =>
 .bi (br (decide (y0 > 64)) (some true) (br (sm (qoi x0 x1 x2 x3)) (some (decide (gv (qoi x0 x1 x2 x3) > 8))) none)) (fun y1 =>
 .br (y1)
 (.at (5))
 (.bi (qty x0 x1 x2 x3) (fun y2 =>
 .br (!y2)
 (.at (1))
 (.bi (qtw x0 x1 x2 x3) (fun y3 =>
 .br (!y3) (.at (4)) (.at (0)))
 (.no)))
 (.no)))
 (.no))
 (.no)
def qoO (x0 x1 : Int) (x2 : List UInt8) (x3 : List AV) : Option qT1 := qaz (qvp x0 x1 x2 x3).ev
theorem qJ2 (x0 x1 : Int) (x2 : List UInt8) (x3 : List AV) : qoO x0 x1 x2 x3 = (qvp x0 x1 x2 x3).ev := qaa _
theorem q4c : FH IP 48 qWG qXK (k4 qoO) := qaf (F := F48) (L := []) (t := (k4 qvp)) qU5 (qab (l := []) (by kernel_rfl) trivial) (by kernel_rfl) (fun v => by kernel_rfl) (fun _ => qaa _)
def T73 : Tab := (48, FE qWG qXK (k4 qoO)) :: T72
theorem qAw : qaj IP T73 := ⟨qak q4c, qU5⟩
abbrev qf0 : Type := List AV × List AV × Int × Int × List AV × Int × Int × List UInt8 × Int
def qKR : List PSt := [⟨[(1003701, .junk), (0, .view 2), (4, .ref 0 0 0), (10, .view 2), (11, .int .i64), (12, .int .i64), (24, .view 2), (25, .int .i64), (26, .int .i64)], [(0, .box [.str, .int .i64] false)], 1, 0⟩]
def qTh (x0 x1 : List AV) (x2 x3 : Int) (x4 : List AV) (x5 x6 : Int) (x7 : List UInt8) (x8 : Int) : X × St := (X.ret,
 ⟨[(0, AV.view 2 x0), (2, AV.int IntKind.i64 12), (4, AV.ref 0 0 0), (10, AV.view 2 x1), (11, AV.int IntKind.i64 x2), (12, AV.int IntKind.i64 x3)], [(0, Blk.box [AV.str x7, AV.int IntKind.i64 x8] false)], 1, 0⟩)
def qTi (x0 x1 : List AV) (x2 x3 : Int) (x4 : List AV) (x5 x6 : Int) (x7 : List UInt8) (x8 : Int) : X × St := (X.exit 2,
 ⟨[(0, AV.view 2 x0), (2, AV.junk), (4, AV.ref 0 0 0), (10, AV.view 2 x1), (11, AV.int IntKind.i64 x2), (12, AV.int IntKind.i64 x3)], [(0, Blk.box [AV.str x7, AV.int IntKind.i64 x8] false)], 1, 0⟩)
def q6H : List (qf0 → X × St) := [(k9 qTh), (k9 qTi)]
def qqG (x0 x1 : List AV) (x2 x3 : Int) (x4 : List AV) (x5 x6 : Int) (x7 : List UInt8) (x8 : Int) : DT (Rd qf0) :=
 .br (decide (x6 < x5))
 (.br (qaB [CS.str, CS.int IntKind.i64] x4 x6)
 (.br (strOf (cellAt x4 x6 0) == x7) (.at (.done 0)) (.at (.next ((x0, x1, x2, x3, x4, x5, IntKind.i64.wrap (x6 + 1), x7, x8)))))
 (.no))
 (.at (.done 1))
def qqF : qf0 → DT (Rd qf0) := (fun v => qqG v.1 v.2.1 v.2.2.1 v.2.2.2.1 v.2.2.2.2.1 v.2.2.2.2.2.1 v.2.2.2.2.2.2.1 v.2.2.2.2.2.2.2.1 v.2.2.2.2.2.2.2.2)
def qwZ (v : qf0) : Option (Nat × qf0) := qaz (qar (fun v => (qqF v).ev) v)
theorem qw0 (v : qf0) : qwZ v = qar (fun v => (qqF v).ev) v := qaa _
def qLn : qcJ := LE (τ := qf0) (hD qKR) (qwZ) q6H
theorem q6f : Go.Eng.Told IP (qah F37 1).1 (qah F37 1).2 (qLn) := qax (inferInstance : Inhabited qf0) (hs := qKR) (st := qqF) (L := []) qAw (qab (l := []) (by kernel_rfl) trivial) (qw0) (fun v => by kernel_rfl) (fun v => by kernel_rfl)
abbrev qfZ : Type := List AV × List AV × Int × Int
def qKQ : List PSt := [⟨[(1003700, .junk), (0, .view 2), (10, .view 2), (11, .int .i64), (12, .int .i64)], [], 0, 0⟩]
def qTd (x0 x1 : List AV) (x2 x3 : Int) : X × St := (X.ret, ⟨[(2, AV.int IntKind.i64 4)], [], 0, 0⟩)
def qTe (x0 x1 : List AV) (x2 x3 : Int) : X × St := (X.ret, ⟨[(2, AV.int IntKind.i64 12)], [], 0, 0⟩)
def qTf (x0 x1 : List AV) (x2 x3 : Int) : X × St := (X.ret, ⟨[(2, AV.int IntKind.i64 3)], [], 0, 0⟩)
def qTg (x0 x1 : List AV) (x2 x3 : Int) : X × St := (X.exit 0, ⟨[(2, AV.junk)], [], 0, 0⟩)
def q6G : List (qfZ → X × St) := [(k4 qTd), (k4 qTe), (k4 qTf), (k4 qTg)]
def qqE (x0 x1 : List AV) (x2 x3 : Int) : DT (Rd qfZ) :=
 .br (decide (x3 < x2))
 (.br (qaB [CS.str, CS.int IntKind.i64] x1 x3)
 (.bi (qoO 4 0 (strOf (cellAt x1 x3 0)) []) (fun y0 =>
 .br (y0 != 0)
 (.at (.done 0))
 (.br (leB x3 x0.length && true)
 (.bi (pj 0 (qwZ (x0, x1, x2, x3, List.take x3.toNat x0, ((List.take x3.toNat x0).length : Int), 0, strOf (cellAt x1 x3 0), intOf (cellAt x1 x3 1)))) (fun y1 =>
 .at (.done 1))
 (.bi (pj 1 (qwZ (x0, x1, x2, x3, List.take x3.toNat x0, ((List.take x3.toNat x0).length : Int), 0, strOf (cellAt x1 x3 0), intOf (cellAt x1 x3 1)))) (fun y1 =>
 .bi (qiu y1.2.2.2.2.2.2.2.2) (fun y2 =>
 .br (!y2) (.at (.done 2)) (.at (.next ((y1.1, y1.2.1, y1.2.2.1, IntKind.i64.wrap (y1.2.2.2.1 + 1))))))
 (.no))
 (.no)))
 (.no)))
 (.no))
 (.no))
 (.at (.done 3))
def qqD : qfZ → DT (Rd qfZ) := (fun v => qqE v.1 v.2.1 v.2.2.1 v.2.2.2)
def qpl (v : qfZ) : Option (Nat × qfZ) := qaz (qar (fun v => (qqD v).ev) v)
theorem qwY (v : qfZ) : qpl v = qar (fun v => (qqD v).ev) v := qaa _
def qLm : qcJ := LE (τ := qfZ) (hD qKQ) (qpl) q6G
theorem q6e : Go.Eng.Told IP (qah F37 0).1 (qah F37 0).2 (qLm) := qax (inferInstance : Inhabited qfZ) (hs := qKQ) (st := qqD) (L := [(1003701, qLn)]) qAw (qab (l := [qah F37 1]) (by kernel_rfl) ⟨qay (by kernel_rfl) q6f, trivial⟩) (qwY) (fun v => by kernel_rfl) (fun v => by kernel_rfl)
abbrev qGf : Type := Int
def qMf : PArgs := ⟨[.view 2], []⟩
def qNQ : List PRes := [⟨false, .int .i64, []⟩]
def qmq (x0 : List AV) : DT qGf :=
 .br (decide ((x0.length : Int) > 64))
 (.at (5))
 (.bi (pj 0 (qpl (x0, x0, (x0.length : Int), 0))) (fun y0 =>
 .at (4))
 (.bi (pj 1 (qpl (x0, x0, (x0.length : Int), 0))) (fun y0 =>
 .at (12))
 (.bi (pj 2 (qpl (x0, x0, (x0.length : Int), 0))) (fun y0 =>
 .at (3))
 (.bi (pj 3 (qpl (x0, x0, (x0.length : Int), 0))) (fun y0 =>
 .at (0))
 (.no)))))
def qix (x0 : List AV) : Option qGf := qaz (qmq x0).ev
theorem qDw (x0 : List AV) : qix x0 = (qmq x0).ev := qaa _
theorem qYQ : FH IP 37 qMf qNQ qix := qaf (F := F37) (L := [(1003700, qLm)]) (t := qmq) qAw (qab (l := [qah F37 0, qah F37 1]) (by kernel_rfl) ⟨qay (by kernel_rfl) q6e, qCx (by kernel_rfl), trivial⟩) (by kernel_rfl) (fun v => by kernel_rfl) (fun _ => qaa _)
def T74 : Tab := (37, FE qMf qNQ qix) :: T73
theorem qIH : qaj IP T74 := ⟨qak qYQ, qAw⟩
abbrev qfP : Type := List UInt8 × List AV × Int × Int
def qKF : List PSt := [⟨[(1008500, .junk), (0, .str), (8, .view 2), (9, .int .i64), (10, .int .i64)], [], 0, 0⟩]
def qST (x0 : List UInt8) (x1 : List AV) (x2 x3 : Int) : X × St := (X.ret, ⟨[(4, AV.int IntKind.i64 0), (5, AV.int IntKind.i64 3)], [], 0, 0⟩)
def qSU (x0 : List UInt8) (x1 : List AV) (x2 x3 : Int) : X × St := (X.ret, ⟨[(4, AV.int IntKind.i64 (intOf (cellAt x1 x3 1))), (5, AV.int IntKind.i64 0)], [], 0, 0⟩)
def qSV (x0 : List UInt8) (x1 : List AV) (x2 x3 : Int) : X × St := (X.exit 0, ⟨[(4, AV.junk), (5, AV.junk)], [], 0, 0⟩)
def q6v : List (qfP → X × St) := [(k4 qST), (k4 qSU), (k4 qSV)]
def qqm (x0 : List UInt8) (x1 : List AV) (x2 x3 : Int) : DT (Rd qfP) :=
 .br (decide (x3 < x2))
 (.br (qaB [CS.str, CS.int IntKind.i64] x1 x3)
 (.br (strOf (cellAt x1 x3 0) == x0)
 (.bi (qiu (intOf (cellAt x1 x3 1))) (fun y0 =>
 .br (!y0) (.at (.done 0)) (.at (.done 1)))
 (.no))
 (.at (.next ((x0, x1, x2, IntKind.i64.wrap (x3 + 1))))))
 (.no))
 (.at (.done 2))
def qql : qfP → DT (Rd qfP) := (fun v => qqm v.1 v.2.1 v.2.2.1 v.2.2.2)
def qst (v : qfP) : Option (Nat × qfP) := qaz (qar (fun v => (qql v).ev) v)
theorem qwM (v : qfP) : qst v = qar (fun v => (qql v).ev) v := qaa _
def qLb : qcJ := LE (τ := qfP) (hD qKF) (qst) q6v
theorem q53 : Go.Eng.Told IP (qah F85 0).1 (qah F85 0).2 (qLb) := qax (inferInstance : Inhabited qfP) (hs := qKF) (st := qql) (L := []) qIH (qab (l := []) (by kernel_rfl) trivial) (qwM) (fun v => by kernel_rfl) (fun v => by kernel_rfl)
abbrev qTH : Type := Int × Int
def qWj : PArgs := ⟨[.str, .view 2], []⟩
def qXn : List PRes := [⟨false, .tup [.int .i64, .int .i64], []⟩]
def qu3 (x0 : List UInt8) (x1 : List AV) : DT qTH :=
 .bi (pj 0 (qst (x0, x1, (x1.length : Int), 0))) (fun y0 =>
 .at ((0, 3)))
 (.bi (pj 1 (qst (x0, x1, (x1.length : Int), 0))) (fun y0 =>
 .at ((intOf (cellAt y0.2.1 y0.2.2.2 1), 0)))
 (.bi (pj 2 (qst (x0, x1, (x1.length : Int), 0))) (fun y0 =>
 .at ((0, 4)))
 (.no)))
def qrN (x0 : List UInt8) (x1 : List AV) : Option qTH := qaz (qu3 x0 x1).ev
theorem qJG (x0 : List UInt8) (x1 : List AV) : qrN x0 x1 = (qu3 x0 x1).ev := qaa _
theorem q3S : FH IP 85 qWj qXn (k2 qrN) := qaf (F := F85) (L := [(1008500, qLb)]) (t := (k2 qu3)) qIH (qab (l := [qah F85 0]) (by kernel_rfl) ⟨qay (by kernel_rfl) q53, trivial⟩) (by kernel_rfl) (fun v => by kernel_rfl) (fun _ => qaa _)
def T75 : Tab := (85, FE qWj qXn (k2 qrN)) :: T74
theorem qU6 : qaj IP T75 := ⟨qak q3S, qIH⟩
abbrev qkc : Type := Int × Int
def qpJ : PArgs := ⟨[.agg [.int .i64, .int .i64, .str, .view 4], .view 2], []⟩
def qpY : List PRes := [⟨false, .tup [.int .i64, .int .i64], []⟩]
abbrev qbl : Type := Int → Int → (List UInt8) → (List AV) → (List AV) → Option qkc
def qta (G_u195q : qbl) : Prop := FH IP 49 qpJ qpY (k5 G_u195q)
def qRr (G_u195q : qbl) : Tab := (49, FE qpJ qpY (k5 G_u195q)) :: T75
theorem qnF (G_u195q : qbl) (hG : qta G_u195q) : qaj IP (qRr G_u195q) := ⟨qak (hG), qU6⟩
abbrev qci : Type := (List AV × List AV × Int × Int × Int × Int × List UInt8 × List AV) ⊕ (List AV × List AV × Int × Int × Int × Int × List UInt8 × List AV × List AV)
def qBg : List PSt := [⟨[(1004900, .junk), (1, .view 2), (2, .ref 0 0 0), (6, .nils 1), (30, .view 4), (31, .int .i64), (32, .int .i64)], [(0, .box [.int .i64, .int .i64, .str, .view 4] false)], 1, 0⟩, ⟨[(1004900, .junk), (1, .view 2), (2, .ref 0 0 0), (6, .own 1 0), (30, .view 4), (31, .int .i64), (32, .int .i64)], [(0, .box [.int .i64, .int .i64, .str, .view 4] false), (1, .arr 1 false)], 2, 0⟩]
def qQm (G_u195q : qbl) (x0 x1 : List AV) (x2 x3 : Int) (x4 x5 : Int) (x6 : List UInt8) (x7 : List AV) : X × St := (X.ret,
 ⟨[(2, AV.ref 0 0 0), (4, AV.int IntKind.i64 0),
 (5, AV.int IntKind.i64 (gv (G_u195q (intOf (cellAt x1 x3 0)) (intOf (cellAt x1 x3 1)) (strOf (cellAt x1 x3 2)) (qal (cellAt x1 x3 3)) x0)).2),
 (6, AV.nils ⟨1, NKd.nil⟩)], [(0, Blk.box [AV.int IntKind.i64 x4, AV.int IntKind.i64 x5, AV.str x6, AV.view 4 x7] false)], 1, 0⟩)
def qQn (G_u195q : qbl) (x0 x1 : List AV) (x2 x3 : Int) (x4 x5 : Int) (x6 : List UInt8) (x7 : List AV) : X × St := (X.exit 1,
 ⟨[(2, AV.ref 0 0 0), (4, AV.junk), (5, AV.junk), (6, AV.nils ⟨1, NKd.nil⟩)], [(0, Blk.box [AV.int IntKind.i64 x4, AV.int IntKind.i64 x5, AV.str x6, AV.view 4 x7] false)], 1, 0⟩)
def qQo (G_u195q : qbl) (x0 x1 : List AV) (x2 x3 : Int) (x4 x5 : Int) (x6 : List UInt8) (x7 x8 : List AV) : X × St := (X.ret,
 ⟨[(2, AV.ref 0 0 0), (4, AV.int IntKind.i64 0),
 (5, AV.int IntKind.i64 (gv (G_u195q (intOf (cellAt x1 x3 0)) (intOf (cellAt x1 x3 1)) (strOf (cellAt x1 x3 2)) (qal (cellAt x1 x3 3)) x0)).2),
 (6, AV.own 1 0 none)], [(0, Blk.box [AV.int IntKind.i64 x4, AV.int IntKind.i64 x5, AV.str x6, AV.view 4 x7] false), (1, Blk.arr 1 x8 false)], 2, 0⟩)
def qQp (G_u195q : qbl) (x0 x1 : List AV) (x2 x3 : Int) (x4 x5 : Int) (x6 : List UInt8) (x7 x8 : List AV) : X × St := (X.exit 1,
 ⟨[(2, AV.ref 0 0 0), (4, AV.junk), (5, AV.junk), (6, AV.own 1 0 none)], [(0, Blk.box [AV.int IntKind.i64 x4, AV.int IntKind.i64 x5, AV.str x6, AV.view 4 x7] false), (1, Blk.arr 1 x8 false)], 2, 0⟩)
def q15 (G_u195q : qbl) : List (qci → X × St) := [fun w => (k8 (qQm G_u195q)) ((sl w)), fun w => (k8 (qQn G_u195q)) ((sl w)), fun w => (k9 (qQo G_u195q)) ((sr w)), fun w => (k9 (qQp G_u195q)) ((sr w))]
def qhX (G_u195q : qbl) (x0 x1 : List AV) (x2 x3 : Int) (x4 x5 : Int) (x6 : List UInt8) (x7 : List AV) : DT (Rd qci) :=
 .br (decide (x3 < x2))
 (.br (qaB [CS.int IntKind.i64, CS.int IntKind.i64, CS.str, CS.slice 4] x1 x3)
 (.bi (G_u195q (intOf (cellAt x1 x3 0)) (intOf (cellAt x1 x3 1)) (strOf (cellAt x1 x3 2)) (qal (cellAt x1 x3 3)) x0) (fun y0 =>
 .br (y0.2 != 0) (.at (.done 0)) (.at (.next ((.inr (x0, x1, x2, IntKind.i64.wrap (x3 + 1), x4, x5, x6, x7, [AV.int IntKind.i64 y0.1]))))))
 (.no))
 (.no))
 (.at (.done 1))
def qhY (G_u195q : qbl) (x0 x1 : List AV) (x2 x3 : Int) (x4 x5 : Int) (x6 : List UInt8) (x7 x8 : List AV) : DT (Rd qci) :=
 .br (decide (x3 < x2))
 (.br (qaB [CS.int IntKind.i64, CS.int IntKind.i64, CS.str, CS.slice 4] x1 x3)
 (.bi (G_u195q (intOf (cellAt x1 x3 0)) (intOf (cellAt x1 x3 1)) (strOf (cellAt x1 x3 2)) (qal (cellAt x1 x3 3)) x0) (fun y0 =>
 .br (y0.2 != 0)
 (.at (.done 2))
 (.br (room (x8.length + 1) 8) (.at (.next ((.inr (x0, x1, x2, IntKind.i64.wrap (x3 + 1), x4, x5, x6, x7, x8 ++ [AV.int IntKind.i64 y0.1]))))) (.no)))
 (.no))
 (.no))
 (.at (.done 3))
def qdw (G_u195q : qbl) : qci → DT (Rd qci) := (Sum.elim (fun v => qhX G_u195q v.1 v.2.1 v.2.2.1 v.2.2.2.1 v.2.2.2.2.1 v.2.2.2.2.2.1 v.2.2.2.2.2.2.1 v.2.2.2.2.2.2.2) (fun v => qhY G_u195q v.1 v.2.1 v.2.2.1 v.2.2.2.1 v.2.2.2.2.1 v.2.2.2.2.2.1 v.2.2.2.2.2.2.1 v.2.2.2.2.2.2.2.1 v.2.2.2.2.2.2.2.2))
def qg8 (G_u195q : qbl) (v : qci) : Option (Nat × qci) := qaz (qar (fun v => (qdw G_u195q v).ev) v)
theorem qhz (G_u195q : qbl) (v : qci) : qg8 G_u195q v = qar (fun v => (qdw G_u195q v).ev) v := qaa _
def qBZ (G_u195q : qbl) : qcJ := LE (τ := qci) (hD qBg) (qg8 G_u195q) (q15 G_u195q)
theorem q1r (G_u195q : qbl) (hG : qta G_u195q) : Go.Eng.Told IP (qah F49 0).1 (qah F49 0).2 (qBZ G_u195q) := qax (inferInstance : Inhabited qci) (hs := qBg) (st := qdw G_u195q) (L := []) (qnF G_u195q hG) (qab (l := []) (by kernel_rfl) trivial) (qhz G_u195q) (fun v => match v with | (.inl v) => by kernel_rfl | (.inr v) => by kernel_rfl) (fun v => match v with | (.inl v) => by kernel_rfl | (.inr v) => by kernel_rfl)
def quO (G_u195q : qbl) (x0 x1 : Int) (x2 : List UInt8) (x3 x4 : List AV) : DT qkc :=
 .br (x0 == 1)
 (.at ((1, 0)))
 (.br (x0 == 2)
 (.at ((2, 0)))
 (.br (x0 == 3)
 (.at ((3, 0)))
 (.br (x0 == 4)
 (.bi (qrN x2 x4) (fun y0 =>
 .at ((y0.1, y0.2)))
 (.no))
 (.bi (pj 0 (qg8 G_u195q (Sum.inl (x4, x3, (x3.length : Int), 0, x0, x1, x2, x3)))) (fun y0 =>
 .at ((0, (gv
 (G_u195q (intOf (cellAt (sl y0).2.1 (sl y0).2.2.2.1 0)) (intOf (cellAt (sl y0).2.1 (sl y0).2.2.2.1 1))
 (strOf (cellAt (sl y0).2.1 (sl y0).2.2.2.1 2)) (qal (cellAt (sl y0).2.1 (sl y0).2.2.2.1 3)) (sl y0).1)).2)))
 (.bi (pj 1 (qg8 G_u195q (Sum.inl (x4, x3, (x3.length : Int), 0, x0, x1, x2, x3)))) (fun y0 =>
 .bi (qcZ (sl y0).2.2.2.2.1 []) (fun y1 =>
 .br (!y1.2) (.at ((0, 3))) (.at ((y1.1, 0))))
 (.no))
 (.bi (pj 2 (qg8 G_u195q (Sum.inl (x4, x3, (x3.length : Int), 0, x0, x1, x2, x3)))) (fun y0 =>
 .at ((0, (gv
 (G_u195q (intOf (cellAt (sr y0).2.1 (sr y0).2.2.2.1 0)) (intOf (cellAt (sr y0).2.1 (sr y0).2.2.2.1 1))
 (strOf (cellAt (sr y0).2.1 (sr y0).2.2.2.1 2)) (qal (cellAt (sr y0).2.1 (sr y0).2.2.2.1 3)) (sr y0).1)).2)))
 (.bi (pj 3 (qg8 G_u195q (Sum.inl (x4, x3, (x3.length : Int), 0, x0, x1, x2, x3)))) (fun y0 =>
 .bi (qcZ (sr y0).2.2.2.2.1 (sr y0).2.2.2.2.2.2.2.2) (fun y1 =>
 .br (!y1.2) (.at ((0, 3))) (.at ((y1.1, 0))))
 (.no))
 (.no))))))))
def qcL : Nat → qbl
 | 0 => fun _ _ _ _ _ => none
 | n + 1 => fun x0 x1 x2 x3 x4 => (quO ((qcL n)) x0 x1 x2 x3 x4).ev
def qtF (x0 x1 : Int) (x2 : List UInt8) (x3 x4 : List AV) : Option qkc := qlO fun n => (qcL n) x0 x1 x2 x3 x4
theorem qro : ∀ n, qta ((qcL n))
 | 0 => (fun v y h => nomatch h)
 | n + 1 => have hG := qro n
 qaf (F := F49) (L := [(1004900, qBZ ((qcL n)))]) (t := (k5 (quO ((qcL n))))) (qnF ((qcL n)) hG) (qab (l := [qah F49 0]) (by kernel_rfl) ⟨qay (by kernel_rfl) (q1r ((qcL n)) hG), trivial⟩) (by kernel_rfl) (fun v => by kernel_rfl) (fun v => rfl)
theorem qZy : FH IP 49 qpJ qpY (k5 qtF) := qcz (p := qpJ) (rs := qpY) (s := fun n => (k5 ((qcL n)))) fun n => (qro n)
def T76 : Tab := (49, FE qpJ qpY (k5 qtF)) :: T75
theorem qU7 : qaj IP T76 := ⟨qak qZy, qU6⟩
abbrev qGM : Type := Int × Int
def qMN : PArgs := ⟨[.agg [.int .i64, .int .i64, .str, .view 4], .view 2], []⟩
def qOo : List PRes := [⟨false, .tup [.int .i64, .int .i64], []⟩]
def qmT (x0 x1 : Int) (x2 : List UInt8) (x3 x4 : List AV) : DT qGM :=
 .bi (qoO x0 x1 x2 x3) (fun y0 =>
 .br (y0 != 0)
 (.at ((0, y0)))
 (.bi (qtF x0 x1 x2 x3 x4) (fun y1 =>
 .at ((y1.1, y1.2)))
 (.no)))
 (.no)
def qiF (x0 x1 : Int) (x2 : List UInt8) (x3 x4 : List AV) : Option qGM := qaz (qmT x0 x1 x2 x3 x4).ev
theorem qDZ (x0 x1 : Int) (x2 : List UInt8) (x3 x4 : List AV) : qiF x0 x1 x2 x3 x4 = (qmT x0 x1 x2 x3 x4).ev := qaa _
theorem qZx : FH IP 20 qMN qOo (k5 qiF) := qaf (F := F20) (L := []) (t := (k5 qmT)) qU7 (qab (l := []) (by kernel_rfl) trivial) (by kernel_rfl) (fun v => by kernel_rfl) (fun _ => qaa _)
def T77 : Tab := (20, FE qMN qOo (k5 qiF)) :: T76
theorem qII : qaj IP T77 := ⟨qak qZx, qU7⟩
abbrev qdV : Type := List AV × List AV × Int × Int
def qAZ : List PSt := [⟨[(1001500, .junk), (0, .view 2), (12, .view 2), (13, .int .i64), (14, .int .i64)], [], 0, 0⟩]
def qPO (x0 x1 : List AV) (x2 x3 : Int) : X × St := (X.ret, ⟨[(4, AV.bool false)], [], 0, 0⟩)
def qPP (x0 x1 : List AV) (x2 x3 : Int) : X × St := (X.exit 0, ⟨[(4, AV.junk)], [], 0, 0⟩)
def q1K : List (qdV → X × St) := [(k4 qPO), (k4 qPP)]
def qk4 (x0 x1 : List AV) (x2 x3 : Int) : DT (Rd qdV) :=
 .br (decide (x3 < x2))
 (.br (qaB [CS.int IntKind.i64, CS.int IntKind.i64] x1 x3)
 (.br (qaB [CS.str, CS.int IntKind.i64] x0 x3)
 (.br (intOf (cellAt x1 x3 0) != intOf (cellAt x0 x3 1))
 (.at (.done 0))
 (.bi (qfc (intOf (cellAt x1 x3 0)) (intOf (cellAt x1 x3 1))) (fun y0 =>
 .br (!y0) (.at (.done 0)) (.at (.next ((x0, x1, x2, IntKind.i64.wrap (x3 + 1))))))
 (.no)))
 (.no))
 (.no))
 (.at (.done 1))
def qjC : qdV → DT (Rd qdV) := (fun v => qk4 v.1 v.2.1 v.2.2.1 v.2.2.2)
def qo7 (v : qdV) : Option (Nat × qdV) := qaz (qar (fun v => (qjC v).ev) v)
theorem qsb (v : qdV) : qo7 v = qar (fun v => (qjC v).ev) v := qaa _
def qBI : qcJ := LE (τ := qdV) (hD qAZ) (qo7) q1K
theorem q1a : Go.Eng.Told IP (qah F15 0).1 (qah F15 0).2 (qBI) := qax (inferInstance : Inhabited qdV) (hs := qAZ) (st := qjC) (L := []) qII (qab (l := []) (by kernel_rfl) trivial) (qsb) (fun v => by kernel_rfl) (fun v => by kernel_rfl)
abbrev qGp : Type := Bool
def qMp : PArgs := ⟨[.view 2, .view 2], []⟩
def qN0 : List PRes := [⟨false, .bool, []⟩]
def qmx (x0 x1 : List AV) : DT qGp :=
 .br ((x0.length : Int) != (x1.length : Int))
 (.at (false))
 (.bi (pj 0 (qo7 (x0, x1, (x1.length : Int), 0))) (fun y0 =>
 .at (false))
 (.bi (pj 1 (qo7 (x0, x1, (x1.length : Int), 0))) (fun y0 =>
 .at (true))
 (.no)))
def qco (x0 x1 : List AV) : Option qGp := qaz (qmx x0 x1).ev
theorem qDD (x0 x1 : List AV) : qco x0 x1 = (qmx x0 x1).ev := qaa _
theorem qY0 : FH IP 15 qMp qN0 (k2 qco) := qaf (F := F15) (L := [(1001500, qBI)]) (t := (k2 qmx)) qII (qab (l := [qah F15 0]) (by kernel_rfl) ⟨qay (by kernel_rfl) q1a, trivial⟩) (by kernel_rfl) (fun v => by kernel_rfl) (fun _ => qaa _)
def T78 : Tab := (15, FE qMp qN0 (k2 qco)) :: T77
theorem qIJ : qaj IP T78 := ⟨qak qY0, qII⟩
abbrev qd6 : Type := List AV × List AV × List AV × Int × Int × Int × Int × List UInt8 × List AV × Int × Int
def qBe : List PSt := [⟨[(1003800, .junk), (1, .view 2), (2, .view 2), (3, .ref 0 0 0), (6, .ref 1 0 0), (36, .view 2), (37, .int .i64), (38, .int .i64)], [(0, .box [.int .i64, .int .i64, .str, .view 4] false), (1, .box [.int .i64, .int .i64] false)], 2, 0⟩]
def qQg (x0 x1 x2 : List AV) (x3 x4 : Int) (x5 x6 : Int) (x7 : List UInt8) (x8 : List AV) (x9 x10 : Int) : X × St := (X.ret,
 ⟨[(1, AV.view 2 x0), (2, AV.view 2 x1), (3, AV.ref 0 0 0), (6, AV.ref 1 0 0), (7, AV.int IntKind.i64 0)], [(0, Blk.box [AV.int IntKind.i64 x5, AV.int IntKind.i64 x6, AV.str x7, AV.view 4 x8] false),
 (1, Blk.box [AV.int IntKind.i64 (intOf (cellAt x1 x4 0)), AV.int IntKind.i64 (intOf (cellAt x1 x4 1))] false)], 2, 0⟩)
def qQh (x0 x1 x2 : List AV) (x3 x4 : Int) (x5 x6 : Int) (x7 : List UInt8) (x8 : List AV) (x9 x10 : Int) : X × St := (X.exit 1,
 ⟨[(1, AV.view 2 x0), (2, AV.view 2 x1), (3, AV.ref 0 0 0), (6, AV.ref 1 0 0), (7, AV.junk)], [(0, Blk.box [AV.int IntKind.i64 x5, AV.int IntKind.i64 x6, AV.str x7, AV.view 4 x8] false), (1, Blk.box [AV.int IntKind.i64 x9, AV.int IntKind.i64 x10] false)], 2, 0⟩)
def q1Z : List (qd6 → X × St) := [(k11 qQg), (k11 qQh)]
def qlh (x0 x1 x2 : List AV) (x3 x4 : Int) (x5 x6 : Int) (x7 : List UInt8) (x8 : List AV) (x9 x10 : Int) : DT (Rd qd6) :=
 .br (decide (x4 < x3))
 (.br (qaB [CS.str, CS.int IntKind.i64] x2 x4)
 (.br (strOf (cellAt x2 x4 0) == x7)
 (.br (qaB [CS.int IntKind.i64, CS.int IntKind.i64] x1 x4) (.at (.done 0)) (.no))
 (.at (.next ((x0, x1, x2, x3, IntKind.i64.wrap (x4 + 1), x5, x6, x7, x8, x9, x10)))))
 (.no))
 (.at (.done 1))
def qjL : qd6 → DT (Rd qd6) := (fun v => qlh v.1 v.2.1 v.2.2.1 v.2.2.2.1 v.2.2.2.2.1 v.2.2.2.2.2.1 v.2.2.2.2.2.2.1 v.2.2.2.2.2.2.2.1 v.2.2.2.2.2.2.2.2.1 v.2.2.2.2.2.2.2.2.2.1 v.2.2.2.2.2.2.2.2.2.2)
def qpc (v : qd6) : Option (Nat × qd6) := qaz (qar (fun v => (qjL v).ev) v)
theorem qsk (v : qd6) : qpc v = qar (fun v => (qjL v).ev) v := qaa _
def qBX : qcJ := LE (τ := qd6) (hD qBe) (qpc) q1Z
theorem q1p : Go.Eng.Told IP (qah F38 0).1 (qah F38 0).2 (qBX) := qax (inferInstance : Inhabited qd6) (hs := qBe) (st := qjL) (L := []) qIJ (qab (l := []) (by kernel_rfl) trivial) (qsk) (fun v => by kernel_rfl) (fun v => by kernel_rfl)
abbrev qfK : Type := Int × Int × Int
def qpI : PArgs := ⟨[.agg [.int .i64, .int .i64, .str, .view 4], .view 2, .view 2], []⟩
def qpX : List PRes := [⟨false, .tup [.agg [.int .i64, .int .i64], .int .i64], []⟩]
abbrev qbk : Type := Int → Int → (List UInt8) → (List AV) → (List AV) → (List AV) → Option qfK
def qs9 (G_u193q : qbk) : Prop := FH IP 38 qpI qpX (k6 G_u193q)
def qRq (G_u193q : qbk) : Tab := (38, FE qpI qpX (k6 G_u193q)) :: T78
theorem qnE (G_u193q : qbk) (hG : qs9 G_u193q) : qaj IP (qRq G_u193q) := ⟨qak (hG), qIJ⟩
end
end Go.Proofs.H13

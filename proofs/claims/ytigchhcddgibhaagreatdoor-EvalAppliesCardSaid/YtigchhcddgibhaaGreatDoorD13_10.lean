/- Functions over plain data. Printed by a program of mine. -/
import Derived.Test.YtigchhcddgibhaaGreatDoorD13_9
import Derived.KernelRfl
set_option linter.unusedVariables false
set_option linter.unusedSimpArgs false
set_option linter.unnecessarySimpa false
namespace Go.Proofs.H13
open Go Go.Eng
set_option maxRecDepth 100000
noncomputable section
abbrev qPh : Type := Bool
def qSb : PArgs := ⟨[.str], []⟩
def qTe : List PRes := [⟨false, .bool, []⟩]
def qqY (x0 : List UInt8) : DT qPh :=
 .bi (qk5 x0) (fun y0 =>
 .bi (br y0 (br (sm (qhO x0)) (some !gv (qhO x0)) none) (some false)) (fun y1 =>
 .at (y1))
 (.no))
 (.no)
def qn5 (x0 : List UInt8) : Option qPh := qav (qqY x0).ev
theorem qEJ (x0) : qn5 x0 = (qqY x0).ev := qaa _
theorem q0K : FH IP 71 qSb qTe qn5 := fh F71 qqY qCX
def q9I : Tab := (71, FE qSb qTe qn5) :: q9H
theorem qo2 : qai IP q9I := ⟨qah q0K, qCX⟩
abbrev qc4 : Type := List AV × Int × Int
def qv8 : List PSt := [⟨[(1003901, .junk), (0, .view 2), (3, .int .i64), (4, .int .i64)], [], 0, 0⟩]
def qKx (x0 : List AV) (x1 x2 : Int) : X × St := (.ret, ⟨[(0, .view 2 x0), (2, .int .i64 12), (3, .int .i64 x1)], [], 0, 0⟩)
def qKy (x0 : List AV) (x1 x2 : Int) : X × St := (.exit 2, ⟨[(0, .view 2 x0), (2, .junk), (3, .int .i64 x1)], [], 0, 0⟩)
def qXs : List (qc4 -> X × St) := [(k3 qKx), (k3 qKy)]
def qit (x0 : List AV) (x1 x2 : Int) : DT (Rd qc4) :=
 .br (decide (x2 < x1))
 (.br (qay [.str, .int .i64] x0 x2)
 (.br (qay [.str, .int .i64] x0 x1)
 (.br (strOf (cellAt x0 x2 0) == strOf (cellAt x0 x1 0)) (.at (.done 0)) (.at (.next ((x0, x1, IntKind.i64.wrap (x2 + 1))))))
 (.no))
 (.no))
 (.at (.done 1))
def qhh : qc4 -> DT (Rd qc4) := (fun v => qit v.1 v.2.1 v.2.2)
def qlA (v : qc4) : Option (Nat × qc4) := qav (qaq (fun v => (qhh v).ev) v)
theorem qop (v) : qlA v = qaq (fun v => (qhh v).ev) v := qaa _
def qwM : qb3 := LE (τ := qc4) (hD qv8) (qlA) qXs
theorem qWR : Go.Eng.Told IP (qaf F39 1).1 (qaf F39 1).2 (qwM) := lp (inferInstance : Inhabited qc4) (hs := qv8) qhh qo2 qop
abbrev qc3 : Type := List AV × Int
def qv7 : List PSt := [⟨[(1003900, .junk), (0, .view 2), (3, .int .i64)], [], 0, 0⟩]
def qKt (x0 : List AV) (x1 : Int) : X × St := (.ret, ⟨[(2, .int .i64 4)], [], 0, 0⟩)
def qKu (x0 : List AV) (x1 : Int) : X × St := (.ret, ⟨[(2, .int .i64 12)], [], 0, 0⟩)
def qKv (x0 : List AV) (x1 : Int) : X × St := (.ret, ⟨[(2, .int .i64 3)], [], 0, 0⟩)
def qKw (x0 : List AV) (x1 : Int) : X × St := (.exit 0, ⟨[(2, .junk)], [], 0, 0⟩)
def qXr : List (qc3 -> X × St) := [(k2 qKt), (k2 qKu), (k2 qKv), (k2 qKw)]
def qis (x0 : List AV) (x1 : Int) : DT (Rd qc3) :=
 .br (decide (x1 < (x0.length : Int)))
 (.br (qay [.str, .int .i64] x0 x1)
 (.bi (qn5 (strOf (cellAt x0 x1 0))) (fun y0 =>
 .br (!y0)
 (.at (.done 0))
 (.bi (pj 0 (qlA (x0, x1, 0))) (fun y1 =>
 .at (.done 1))
 (.bi (pj 1 (qlA (x0, x1, 0))) (fun y1 =>
 .br (qay [.str, .int .i64] y1.1 y1.2.1)
 (.bi (qgt (intOf (cellAt y1.1 y1.2.1 1))) (fun y2 =>
 .br (!y2) (.at (.done 2)) (.at (.next ((y1.1, IntKind.i64.wrap (y1.2.1 + 1))))))
 (.no))
 (.no))
 (.no))))
 (.no))
 (.no))
 (.at (.done 3))
def qhg : qc3 -> DT (Rd qc3) := (fun v => qis v.1 v.2)
def qgE (v : qc3) : Option (Nat × qc3) := qav (qaq (fun v => (qhg v).ev) v)
theorem qoo (v) : qgE v = qaq (fun v => (qhg v).ev) v := qaa _
def qwL : qb3 := LE (τ := qc3) (hD qv7) (qgE) qXr
theorem qWQ : Go.Eng.Told IP (qaf F39 0).1 (qaf F39 0).2 (qwL) := qat (inferInstance : Inhabited qc3) (hs := qv7) (st := qhg) (L := [(1003901, qwM)]) qo2 (qab (l := [qaf F39 1]) (by kernel_rfl) ⟨qau (by kernel_rfl) qWR, trivial⟩) (qoo) (fun v => by kernel_rfl) (fun v => by kernel_rfl)
abbrev qBE : Type := Int
def qG7 : PArgs := ⟨[.view 2], []⟩
def qII : List PRes := [⟨false, .int .i64, []⟩]
def qjV (x0 : List AV) : DT qBE :=
 .br (decide ((x0.length : Int) > 64))
 (.at (5))
 (.bi (pj 0 (qgE (x0, 0))) (fun y0 =>
 .at (4))
 (.bi (pj 1 (qgE (x0, 0))) (fun y0 =>
 .at (12))
 (.bi (pj 2 (qgE (x0, 0))) (fun y0 =>
 .at (3))
 (.bi (pj 3 (qgE (x0, 0))) (fun y0 =>
 .at (0))
 (.no)))))
def qhP (x0 : List AV) : Option qBE := qav (qjV x0).ev
theorem qyD (x0) : qhP x0 = (qjV x0).ev := qaa _
theorem qVo : FH IP 39 qG7 qII qhP := qae (F := F39) (L := [(1003900, qwL)]) (t := qjV) qo2 (qab (l := [qaf F39 0, qaf F39 1]) (by kernel_rfl) ⟨qau (by kernel_rfl) qWQ, qAg (by kernel_rfl), trivial⟩) (by kernel_rfl) (fun v => by kernel_rfl) (fun _ => qaa _)
def q5Z : Tab := (39, FE qG7 qII qhP) :: q9I
theorem qCY : qai IP q5Z := ⟨qah qVo, qo2⟩
abbrev qtt : Type := Int
def qlO : PArgs := ⟨[.agg [.int .i64, .int .i64, .str, .view 4]], []⟩
def ql3 : List PRes := [⟨false, .int .i64, []⟩]
abbrev qbM : Type := Int -> Int -> (List UInt8) -> (List AV) -> Option qtt
def qoQ (G_u180q : qbM) : Prop := FH IP 104 qlO ql3 (k4 G_u180q)
def qMm (G_u180q : qbM) : Tab := (104, FE qlO ql3 (k4 G_u180q)) :: q5Z
theorem qkr (G_u180q : qbM) (hG : qoQ G_u180q) : qai IP (qMm G_u180q) := ⟨qah (hG), qCY⟩
abbrev qcV : Type := Int × Int × Int × Int × List UInt8 × List AV
def qvR : List PSt := [⟨[(1010400, .junk), (1, .ref 0 0 0), (3, .int .i64), (4, .int .i64)], [(0, .box [.int .i64, .int .i64, .str, .view 4] false)], 1, 0⟩]
def qJV (x0 x1 : Int) (x2 x3 : Int) (x4 : List UInt8) (x5 : List AV) : X × St := (.exit 0, ⟨[(3, .int .i64 x0)], [], 0, 0⟩)
def qXd : List (qcV -> X × St) := [(k6 qJV)]
def qih (G_u180q : qbM) (x0 x1 : Int) (x2 x3 : Int) (x4 : List UInt8) (x5 : List AV) : DT (Rd qcV) :=
 .br (decide (x1 < (x5.length : Int)))
 (.br (qay [.int .i64, .int .i64, .str, .slice 4] x5 x1)
 (.bi (G_u180q (intOf (cellAt x5 x1 0)) (intOf (cellAt x5 x1 1)) (strOf (cellAt x5 x1 2)) (qaj (cellAt x5 x1 3))) (fun y0 =>
 .at (.next ((if y0 > x0 then y0 else x0, IntKind.i64.wrap (x1 + 1), x2, x3, x4, x5))))
 (.no))
 (.no))
 (.at (.done 0))
def qg9 (G_u180q : qbM) : qcV -> DT (Rd qcV) := (fun v => qih G_u180q v.1 v.2.1 v.2.2.1 v.2.2.2.1 v.2.2.2.2.1 v.2.2.2.2.2)
def qpF (G_u180q : qbM) (v : qcV) : Option (Nat × qcV) := qav (qaq (fun v => (qg9 G_u180q v).ev) v)
theorem qoh (G_u180q v) : qpF G_u180q v = qaq (fun v => (qg9 G_u180q v).ev) v := qaa _
def qwx (G_u180q : qbM) : qb3 := LE (τ := qcV) (hD qvR) (qpF G_u180q) qXd
theorem qWC (G_u180q : qbM) (hG : qoQ G_u180q) : Go.Eng.Told IP (qaf qYv 0).1 (qaf qYv 0).2 (qwx G_u180q) := qat (inferInstance : Inhabited qcV) (hs := qvR) (st := qg9 G_u180q) (L := []) (qkr G_u180q hG) (qab (l := []) (by kernel_rfl) trivial) (qoh G_u180q) (fun v => by kernel_rfl) (fun v => by kernel_rfl)
def qp4 (G_u180q : qbM) (x0 x1 : Int) (x2 : List UInt8) (x3 : List AV) : DT qtt :=
 .bi (pj 0 (qpF G_u180q (0, 0, x0, x1, x2, x3))) (fun y0 =>
 .at (IntKind.i64.wrap (y0.1 + 1)))
 (.no)
def qdL : Nat -> qbM
 | 0 => fun _ _ _ _ => none
 | n + 1 => fun x0 x1 x2 x3 => (qp4 ((qdL n)) x0 x1 x2 x3).ev
def qk0 (x0 x1 : Int) (x2 : List UInt8) (x3 : List AV) : Option qtt := qmX fun n => (qdL n) x0 x1 x2 x3
theorem qnq : ∀ n, qoQ ((qdL n))
 | 0 => (fun v y h => nomatch h)
 | n + 1 => have hG := qnq n
 qae (F := qYv) (L := [(1010400, qwx ((qdL n)))]) (t := (k4 (qp4 ((qdL n))))) (qkr ((qdL n)) hG) (qab (l := [qaf qYv 0]) (by kernel_rfl) ⟨qau (by kernel_rfl) (qWC ((qdL n)) hG), trivial⟩) (by kernel_rfl) (fun v => by kernel_rfl) (fun v => rfl)
theorem qU1 : FH IP 104 qlO ql3 (k4 qk0) := qbI (p := qlO) (rs := ql3) (s := fun n => (k4 ((qdL n)))) fun n => (qnq n)
def q9J : Tab := (104, FE qlO ql3 (k4 qk0)) :: q5Z
theorem qCZ : qai IP q9J := ⟨qah qU1, qCY⟩
abbrev qPf : Type := Int
def qR9 : PArgs := ⟨[.int .i64], []⟩
def qTc : List PRes := [⟨false, .int .i64, []⟩]
def qqW (x0 : Int) : DT qPf :=
 .bi (br (decide (x0 < 1)) (some true) (some (decide (x0 > 19)))) (fun y0 =>
 .br (y0)
 (.at (-1))
 (.br (decide (x0 <= 4))
 (.at (0))
 (.bi (br (x0 == 9) (some true) (some (x0 == 16))) (fun y1 =>
 .br (y1)
 (.at (1))
 (.br (x0 == 19) (.at (3)) (.at (2))))
 (.no))))
 (.no)
def qdm (x0 : Int) : Option qPf := qav (qqW x0).ev
theorem qEH (x0) : qdm x0 = (qqW x0).ev := qaa _
theorem q0I : FH IP 45 qR9 qTc qdm := fh F45 qqW qCZ
def q9K : Tab := (45, FE qR9 qTc qdm) :: q9J
theorem qC0 : qai IP q9K := ⟨qah q0I, qCZ⟩
abbrev qBC : Type := Int
def qG5 : PArgs := ⟨[.int .i64], []⟩
def qIG : List PRes := [⟨false, .int .i64, []⟩]
def qjT (x0 : Int) : DT qBC :=
 .br (x0 == 1)
 (.at (9223372036854775807))
 (.br (x0 == 2)
 (.at (1000000000000))
 (.br (x0 == 3) (.at (1000000)) (.at (0))))
def qk6 (x0 : Int) : Option qBC := qav (qjT x0).ev
theorem qyB (x0) : qk6 x0 = (qjT x0).ev := qaa _
theorem qVm : FH IP 126 qG5 qIG qk6 := fh q5u qjT qC0
def q50 : Tab := (126, FE qG5 qIG qk6) :: q9K
theorem qC1 : qai IP q50 := ⟨qah qVm, qC0⟩
abbrev qtv : Type := Bool
def qlR : PArgs := ⟨[.agg [.int .i64, .int .i64, .str, .view 4]], []⟩
def ql6 : List PRes := [⟨false, .bool, []⟩]
abbrev qbO : Type := Int -> Int -> (List UInt8) -> (List AV) -> Option qtv
def qoT (G_u184q : qbO) : Prop := FH IP 105 qlR ql6 (k4 G_u184q)
def qMp (G_u184q : qbO) : Tab := (105, FE qlR ql6 (k4 G_u184q)) :: q50
theorem qku (G_u184q : qbO) (hG : qoT G_u184q) : qai IP (qMp G_u184q) := ⟨qah (hG), qC1⟩
abbrev qcX : Type := Int × Int × Int × List UInt8 × List AV
def qvV : List PSt := [⟨[(1010500, .junk), (1, .ref 0 0 0), (3, .int .i64)], [(0, .box [.int .i64, .int .i64, .str, .view 4] false)], 1, 0⟩]
def qJ3 (x0 x1 x2 : Int) (x3 : List UInt8) (x4 : List AV) : X × St := (.ret, ⟨[(2, .bool false)], [], 0, 0⟩)
def qJ4 (x0 x1 x2 : Int) (x3 : List UInt8) (x4 : List AV) : X × St := (.exit 0, ⟨[(2, .junk)], [], 0, 0⟩)
def qXh : List (qcX -> X × St) := [(k5 qJ3), (k5 qJ4)]
def qil (G_u184q : qbO) (x0 x1 x2 : Int) (x3 : List UInt8) (x4 : List AV) : DT (Rd qcX) :=
 .br (decide (x0 < (x4.length : Int)))
 (.br (qay [.int .i64, .int .i64, .str, .slice 4] x4 x0)
 (.bi (G_u184q (intOf (cellAt x4 x0 0)) (intOf (cellAt x4 x0 1)) (strOf (cellAt x4 x0 2)) (qaj (cellAt x4 x0 3))) (fun y0 =>
 .br (!y0) (.at (.done 0)) (.at (.next ((IntKind.i64.wrap (x0 + 1), x1, x2, x3, x4)))))
 (.no))
 (.no))
 (.at (.done 1))
def qha (G_u184q : qbO) : qcX -> DT (Rd qcX) := (fun v => qil G_u184q v.1 v.2.1 v.2.2.1 v.2.2.2.1 v.2.2.2.2)
def qgD (G_u184q : qbO) (v : qcX) : Option (Nat × qcX) := qav (qaq (fun v => (qha G_u184q v).ev) v)
theorem qoi (G_u184q v) : qgD G_u184q v = qaq (fun v => (qha G_u184q v).ev) v := qaa _
def qwB (G_u184q : qbO) : qb3 := LE (τ := qcX) (hD qvV) (qgD G_u184q) qXh
theorem qWG (G_u184q : qbO) (hG : qoT G_u184q) : Go.Eng.Told IP (qaf qYw 0).1 (qaf qYw 0).2 (qwB G_u184q) := qat (inferInstance : Inhabited qcX) (hs := qvV) (st := qha G_u184q) (L := []) (qku G_u184q hG) (qab (l := []) (by kernel_rfl) trivial) (qoi G_u184q) (fun v => by kernel_rfl) (fun v => by kernel_rfl)
def qp7 (G_u184q : qbO) (x0 x1 : Int) (x2 : List UInt8) (x3 : List AV) : DT qtv :=
 .bi (qdm x0) (fun y0 =>
 .br ((x3.length : Int) != y0)
 (.at (false))
 (.br (decide (x1 < 0))
 (.at (false))
 (.bi (qk6 x0) (fun y1 =>
 .br (decide (x1 > y1))
 (.at (false))
 (.br (x0 != 4)
 (.br (!x2 == [])
 (.at (false))
 (.bi (pj 0 (qgD G_u184q (0, x0, x1, x2, x3))) (fun y2 =>
 .at (false))
 (.bi (pj 1 (qgD G_u184q (0, x0, x1, x2, x3))) (fun y2 =>
 .at (true))
 (.no))))
 (.bi (pj 0 (qgD G_u184q (0, x0, x1, x2, x3))) (fun y2 =>
 .at (false))
 (.bi (pj 1 (qgD G_u184q (0, x0, x1, x2, x3))) (fun y2 =>
 .at (true))
 (.no)))))
 (.no))))
 (.no)
def qc9 : Nat -> qbO
 | 0 => fun _ _ _ _ => none
 | n + 1 => fun x0 x1 x2 x3 => (qp7 ((qc9 n)) x0 x1 x2 x3).ev
def qpm (x0 x1 : Int) (x2 : List UInt8) (x3 : List AV) : Option qtv := qmX fun n => (qc9 n) x0 x1 x2 x3
theorem qnt : ∀ n, qoT ((qc9 n))
 | 0 => (fun v y h => nomatch h)
 | n + 1 => have hG := qnt n
 qae (F := qYw) (L := [(1010500, qwB ((qc9 n)))]) (t := (k4 (qp7 ((qc9 n))))) (qku ((qc9 n)) hG) (qab (l := [qaf qYw 0]) (by kernel_rfl) ⟨qau (by kernel_rfl) (qWG ((qc9 n)) hG), trivial⟩) (by kernel_rfl) (fun v => by kernel_rfl) (fun v => rfl)
theorem qU5 : FH IP 105 qlR ql6 (k4 qpm) := qbI (p := qlR) (rs := ql6) (s := fun n => (k4 ((qc9 n)))) fun n => (qnt n)
def q9L : Tab := (105, FE qlR ql6 (k4 qpm)) :: q50
theorem qtL : qai IP q9L := ⟨qah qU5, qC1⟩
abbrev qez : Type := List AV × List UInt8 × Int
def qFl : List PSt := [⟨[(1012700, .junk), (0, .view 1), (1, .str), (5, .int .i64)], [], 0, 0⟩]
def qOk (x0 : List AV) (x1 : List UInt8) (x2 : Int) : X × St := (.exit 0, ⟨[(0, .view 1 x0), (1, .str x1), (5, .int .i64 x2)], [], 0, 0⟩)
def q3O : List (qez -> X × St) := [(k3 qOk)]
def qho (x0 : List AV) (x1 : List UInt8) (x2 : Int) : DT (Rd qez) :=
 .bi (br (decide (x2 < (x0.length : Int))) (br (qay [.str] x0 x2) (some (qdc (strOf (cellAt x0 x2 0)) x1)) none) (some false)) (fun y0 =>
 .br (y0) (.at (.next ((x0, x1, IntKind.i64.wrap (x2 + 1))))) (.at (.done 0)))
 (.no)
def qix : qez -> DT (Rd qez) := (fun v => qho v.1 v.2.1 v.2.2)
def qwn (v : qez) : Option (Nat × qez) := qav (qaq (fun v => (qix v).ev) v)
theorem qsf (v) : qwn v = qaq (fun v => (qix v).ev) v := qaa _
def qFN : qb3 := LE (τ := qez) (hD qFl) (qwn) q3O
theorem q3h : Go.Eng.Told IP (qaf qYB 0).1 (qaf qYB 0).2 (qFN) := lp (inferInstance : Inhabited qez) (hs := qFl) qix qtL qsf
abbrev qA1 : Type := List AV
def qGs : PArgs := ⟨[.view 1, .str], []⟩
def qH3 : List PRes := [⟨false, .view 1, []⟩]
def qjm (x0 : List AV) (x1 : List UInt8) : DT qA1 :=
 .bi (pj 0 (qwn (x0, x1, 0))) (fun y0 =>
 .bi (br (decide (y0.2.2 < (y0.1.length : Int))) (br (qay [.str] y0.1 y0.2.2) (some (strOf (cellAt y0.1 y0.2.2 0) == y0.2.1)) none) (some false)) (fun y1 =>
 .br (y1)
 (.at (y0.1))
 (.br (leB y0.2.2 y0.1.length && true)
 (.br (decide ((List.take y0.2.2.toNat y0.1).length = 0) && decide (1 = 1))
 (.br (leB y0.2.2 y0.1.length)
 (.br (decide ((List.drop y0.2.2.toNat y0.1).length = 0) && decide (1 = 1))
 (.at ([AV.str y0.2.1]))
 (.br (decide ((List.drop y0.2.2.toNat y0.1).length ≠ 0) && room (1 + (List.drop y0.2.2.toNat y0.1).length) 16)
 (.at (AV.str y0.2.1 :: List.drop y0.2.2.toNat y0.1))
 (.no)))
 (.no))
 (.br (decide ((List.take y0.2.2.toNat y0.1).length ≠ 0) && room (List.take y0.2.2.toNat y0.1).length 16)
 (.br (room ((List.take y0.2.2.toNat y0.1).length + 1) 16)
 (.br (leB y0.2.2 y0.1.length)
 (.br (decide ((List.drop y0.2.2.toNat y0.1).length = 0) && decide (1 = 1))
 (.at (List.take y0.2.2.toNat y0.1 ++ [AV.str y0.2.1]))
 (.br (decide ((List.drop y0.2.2.toNat y0.1).length ≠ 0) && room ((List.take y0.2.2.toNat y0.1 ++ [AV.str y0.2.1]).length + (List.drop y0.2.2.toNat y0.1).length) 16)
 (.at (List.take y0.2.2.toNat y0.1 ++ [AV.str y0.2.1] ++ List.drop y0.2.2.toNat y0.1))
 (.no)))
 (.no))
 (.no))
 (.no)))
 (.no)))
 (.no))
 (.no)
def qe5 (x0 : List AV) (x1 : List UInt8) : Option qA1 := qav (qjm x0 x1).ev
theorem qx4 (x0 x1) : qe5 x0 x1 = (qjm x0 x1).ev := qaa _
theorem qUz : FH IP 127 qGs qH3 (k2 qe5) := qae (F := qYB) (L := [(1012700, qFN)]) (t := (k2 qjm)) qtL (qab (l := [qaf qYB 0]) (by kernel_rfl) ⟨qau (by kernel_rfl) q3h, trivial⟩) (by kernel_rfl) (fun v => by kernel_rfl) (fun _ => qaa _)
def q51 : Tab := (127, FE qGs qH3 (k2 qe5)) :: q9L
theorem qtM : qai IP q51 := ⟨qah qUz, qtL⟩
abbrev qbv : Type := (Int × List AV × Int × Int × Int × List UInt8 × List AV × List AV) ⊕ (Int × List AV × Int × Int × Int × List UInt8 × List AV) ⊕ (List AV × Int × List AV × Int × Int × Int × List UInt8 × List AV)
def qvT : List PSt := [⟨[(1010601, .junk), (1, .ref 0 0 0), (3, .own 1 0), (4, .int .i64), (5, .view 1), (6, .int .i64)], [(0, .box [.int .i64, .int .i64, .str, .view 4] false), (1, .arr 1 false)], 2, 0⟩, ⟨[(1010601, .junk), (1, .ref 0 0 0), (3, .nils 1), (4, .int .i64), (5, .view 1), (6, .int .i64)], [(0, .box [.int .i64, .int .i64, .str, .view 4] false)], 1, 0⟩, ⟨[(1010601, .junk), (1, .ref 0 0 0), (3, .view 1), (4, .int .i64), (5, .view 1), (6, .int .i64)], [(0, .box [.int .i64, .int .i64, .str, .view 4] false)], 1, 0⟩]
def qJZ (x0 : Int) (x1 : List AV) (x2 x3 x4 : Int) (x5 : List UInt8) (x6 x7 : List AV) : X × St := (.exit 2,
 ⟨[(1, .ref 0 0 0), (3, .own 1 0 none), (4, .int .i64 x0)], [(0, .box [.int .i64 x3, .int .i64 x4, .str x5, .view 4 x6] false), (1, .arr 1 x7 false)], 2, 0⟩)
def qJ0 (x0 : Int) (x1 : List AV) (x2 x3 x4 : Int) (x5 : List UInt8) (x6 : List AV) : X × St := (.exit 2,
 ⟨[(1, .ref 0 0 0), (3, .nils ⟨1, .nil⟩), (4, .int .i64 x0)], [(0, .box [.int .i64 x3, .int .i64 x4, .str x5, .view 4 x6] false)], 1, 0⟩)
def qJ1 (x0 : List AV) (x1 : Int) (x2 : List AV) (x3 x4 x5 : Int) (x6 : List UInt8) (x7 : List AV) : X × St := (.exit 2,
 ⟨[(1, .ref 0 0 0), (3, .view 1 x0), (4, .int .i64 x1)], [(0, .box [.int .i64 x4, .int .i64 x5, .str x6, .view 4 x7] false)], 1, 0⟩)
def qXf : List (qbv -> X × St) := [fun w => (k8 qJZ) ((sl w)), fun w => (k7 qJ0) ((sl (sr w))), fun w => (k8 qJ1) ((sr (sr w)))]
def qii (x0 : Int) (x1 : List AV) (x2 x3 x4 : Int) (x5 : List UInt8) (x6 x7 : List AV) : DT (Rd qbv) :=
 .br (decide (x2 < (x1.length : Int)))
 (.br (qay [.str] x1 x2)
 (.bi (qe5 x7 (strOf (cellAt x1 x2 0))) (fun y0 =>
 .at (.next ((.inr (.inr (y0, x0, x1, IntKind.i64.wrap (x2 + 1), x3, x4, x5, x6))))))
 (.no))
 (.no))
 (.at (.done 0))
def qij (x0 : Int) (x1 : List AV) (x2 x3 x4 : Int) (x5 : List UInt8) (x6 : List AV) : DT (Rd qbv) :=
 .br (decide (x2 < (x1.length : Int)))
 (.br (qay [.str] x1 x2)
 (.bi (qe5 [] (strOf (cellAt x1 x2 0))) (fun y0 =>
 .at (.next ((.inr (.inr (y0, x0, x1, IntKind.i64.wrap (x2 + 1), x3, x4, x5, x6))))))
 (.no))
 (.no))
 (.at (.done 1))
def qik (x0 : List AV) (x1 : Int) (x2 : List AV) (x3 x4 x5 : Int) (x6 : List UInt8) (x7 : List AV) : DT (Rd qbv) :=
 .br (decide (x3 < (x2.length : Int)))
 (.br (qay [.str] x2 x3)
 (.bi (qe5 x0 (strOf (cellAt x2 x3 0))) (fun y0 =>
 .at (.next ((.inr (.inr (y0, x1, x2, IntKind.i64.wrap (x3 + 1), x4, x5, x6, x7))))))
 (.no))
 (.no))
 (.at (.done 2))
def qco : qbv -> DT (Rd qbv) := (Sum.elim (fun v => qii v.1 v.2.1 v.2.2.1 v.2.2.2.1 v.2.2.2.2.1 v.2.2.2.2.2.1 v.2.2.2.2.2.2.1 v.2.2.2.2.2.2.2) (Sum.elim (fun v => qij v.1 v.2.1 v.2.2.1 v.2.2.2.1 v.2.2.2.2.1 v.2.2.2.2.2.1 v.2.2.2.2.2.2) (fun v => qik v.1 v.2.1 v.2.2.1 v.2.2.2.1 v.2.2.2.2.1 v.2.2.2.2.2.1 v.2.2.2.2.2.2.1 v.2.2.2.2.2.2.2)))
def qcd (v : qbv) : Option (Nat × qbv) := qav (qaq (fun v => (qco v).ev) v)
theorem qh2 (v) : qcd v = qaq (fun v => (qco v).ev) v := qaa _
def qwz : qb3 := LE (τ := qbv) (hD qvT) (qcd) qXf
theorem qWE : Go.Eng.Told IP (qaf qK8 1).1 (qaf qK8 1).2 (qwz) := qat (inferInstance : Inhabited qbv) (hs := qvT) (st := qco) (L := []) qtM (qab (l := []) (by kernel_rfl) trivial) (qh2) (fun v => match v with | (.inl v) => by kernel_rfl | (.inr (.inl v)) => by kernel_rfl | (.inr (.inr v)) => by kernel_rfl) (fun v => match v with | (.inl v) => by kernel_rfl | (.inr (.inl v)) => by kernel_rfl | (.inr (.inr v)) => by kernel_rfl)
abbrev qkl : Type := List AV
def qlP : PArgs := ⟨[.agg [.int .i64, .int .i64, .str, .view 4]], []⟩
def ql4 : List PRes := [⟨false, .view 1, []⟩]
abbrev qbo : Type := Int -> Int -> (List UInt8) -> (List AV) -> Option qkl
def qoR (G_u182q : qbo) : Prop := FH IP 106 qlP ql4 (k4 G_u182q)
def qMn (G_u182q : qbo) : Tab := (106, FE qlP ql4 (k4 G_u182q)) :: q51
theorem qks (G_u182q : qbo) (hG : qoR G_u182q) : qai IP (qMn G_u182q) := ⟨qah (hG), qtM⟩
abbrev qbp : Type := (Int × Int × Int × List UInt8 × List AV × List AV) ⊕ (Int × Int × Int × List UInt8 × List AV) ⊕ (List AV × Int × Int × Int × List UInt8 × List AV)
def qvS : List PSt := [⟨[(1010600, .junk), (1, .ref 0 0 0), (3, .own 1 0), (4, .int .i64)], [(0, .box [.int .i64, .int .i64, .str, .view 4] false), (1, .arr 1 false)], 2, 0⟩, ⟨[(1010600, .junk), (1, .ref 0 0 0), (3, .nils 1), (4, .int .i64)], [(0, .box [.int .i64, .int .i64, .str, .view 4] false)], 1, 0⟩, ⟨[(1010600, .junk), (1, .ref 0 0 0), (3, .view 1), (4, .int .i64)], [(0, .box [.int .i64, .int .i64, .str, .view 4] false)], 1, 0⟩]
def qJW (x0 x1 x2 : Int) (x3 : List UInt8) (x4 x5 : List AV) : X × St := (.exit 0, ⟨[(3, .own 0 0 none)], [(0, .arr 1 x5 false)], 1, 0⟩)
def qJX (x0 x1 x2 : Int) (x3 : List UInt8) (x4 : List AV) : X × St := (.exit 0, ⟨[(3, .nils ⟨1, .nil⟩)], [], 0, 0⟩)
def qJY (x0 : List AV) (x1 x2 x3 : Int) (x4 : List UInt8) (x5 : List AV) : X × St := (.exit 0, ⟨[(3, .view 1 x0)], [], 0, 0⟩)
def qXe : List (qbp -> X × St) := [fun w => (k6 qJW) ((sl w)), fun w => (k5 qJX) ((sl (sr w))), fun w => (k6 qJY) ((sr (sr w)))]
def qeb (G_u182q : qbo) (x0 x1 x2 : Int) (x3 : List UInt8) (x4 x5 : List AV) : DT (Rd qbp) :=
 .br (decide (x0 < (x4.length : Int)))
 (.br (qay [.int .i64, .int .i64, .str, .slice 4] x4 x0)
 (.bi (G_u182q (intOf (cellAt x4 x0 0)) (intOf (cellAt x4 x0 1)) (strOf (cellAt x4 x0 2)) (qaj (cellAt x4 x0 3))) (fun y0 =>
 .bi (pj 0 (qcd (Sum.inl (x0, y0, 0, x1, x2, x3, x4, x5)))) (fun y1 =>
 .at (.next ((.inl (IntKind.i64.wrap ((sl y1).1 + 1), (sl y1).2.2.2.1, (sl y1).2.2.2.2.1, (sl y1).2.2.2.2.2.1, (sl y1).2.2.2.2.2.2.1, (sl y1).2.2.2.2.2.2.2)))))
 (.bi (pj 1 (qcd (Sum.inl (x0, y0, 0, x1, x2, x3, x4, x5)))) (fun y1 =>
 .at (.next ((.inr (.inl (IntKind.i64.wrap ((sl (sr y1)).1 + 1), (sl (sr y1)).2.2.2.1, (sl (sr y1)).2.2.2.2.1, (sl (sr y1)).2.2.2.2.2.1, (sl (sr y1)).2.2.2.2.2.2))))))
 (.bi (pj 2 (qcd (Sum.inl (x0, y0, 0, x1, x2, x3, x4, x5)))) (fun y1 =>
 .at (.next ((.inr (.inr ((sr (sr y1)).1, IntKind.i64.wrap ((sr (sr y1)).2.1 + 1), (sr (sr y1)).2.2.2.2.1, (sr (sr y1)).2.2.2.2.2.1, (sr (sr y1)).2.2.2.2.2.2.1, (sr (sr y1)).2.2.2.2.2.2.2))))))
 (.no))))
 (.no))
 (.no))
 (.at (.done 0))
def qec (G_u182q : qbo) (x0 x1 x2 : Int) (x3 : List UInt8) (x4 : List AV) : DT (Rd qbp) :=
 .br (decide (x0 < (x4.length : Int)))
 (.br (qay [.int .i64, .int .i64, .str, .slice 4] x4 x0)
 (.bi (G_u182q (intOf (cellAt x4 x0 0)) (intOf (cellAt x4 x0 1)) (strOf (cellAt x4 x0 2)) (qaj (cellAt x4 x0 3))) (fun y0 =>
 .bi (pj 0 (qcd (Sum.inr (Sum.inl (x0, y0, 0, x1, x2, x3, x4))))) (fun y1 =>
 .at (.next ((.inl (IntKind.i64.wrap ((sl y1).1 + 1), (sl y1).2.2.2.1, (sl y1).2.2.2.2.1, (sl y1).2.2.2.2.2.1, (sl y1).2.2.2.2.2.2.1, (sl y1).2.2.2.2.2.2.2)))))
 (.bi (pj 1 (qcd (Sum.inr (Sum.inl (x0, y0, 0, x1, x2, x3, x4))))) (fun y1 =>
 .at (.next ((.inr (.inl (IntKind.i64.wrap ((sl (sr y1)).1 + 1), (sl (sr y1)).2.2.2.1, (sl (sr y1)).2.2.2.2.1, (sl (sr y1)).2.2.2.2.2.1, (sl (sr y1)).2.2.2.2.2.2))))))
 (.bi (pj 2 (qcd (Sum.inr (Sum.inl (x0, y0, 0, x1, x2, x3, x4))))) (fun y1 =>
 .at (.next ((.inr (.inr ((sr (sr y1)).1, IntKind.i64.wrap ((sr (sr y1)).2.1 + 1), (sr (sr y1)).2.2.2.2.1, (sr (sr y1)).2.2.2.2.2.1, (sr (sr y1)).2.2.2.2.2.2.1, (sr (sr y1)).2.2.2.2.2.2.2))))))
 (.no))))
 (.no))
 (.no))
 (.at (.done 1))
def qed (G_u182q : qbo) (x0 : List AV) (x1 x2 x3 : Int) (x4 : List UInt8) (x5 : List AV) : DT (Rd qbp) :=
 .br (decide (x1 < (x5.length : Int)))
 (.br (qay [.int .i64, .int .i64, .str, .slice 4] x5 x1)
 (.bi (G_u182q (intOf (cellAt x5 x1 0)) (intOf (cellAt x5 x1 1)) (strOf (cellAt x5 x1 2)) (qaj (cellAt x5 x1 3))) (fun y0 =>
 .bi (pj 0 (qcd (Sum.inr (Sum.inr (x0, x1, y0, 0, x2, x3, x4, x5))))) (fun y1 =>
 .at (.next ((.inl (IntKind.i64.wrap ((sl y1).1 + 1), (sl y1).2.2.2.1, (sl y1).2.2.2.2.1, (sl y1).2.2.2.2.2.1, (sl y1).2.2.2.2.2.2.1, (sl y1).2.2.2.2.2.2.2)))))
 (.bi (pj 1 (qcd (Sum.inr (Sum.inr (x0, x1, y0, 0, x2, x3, x4, x5))))) (fun y1 =>
 .at (.next ((.inr (.inl (IntKind.i64.wrap ((sl (sr y1)).1 + 1), (sl (sr y1)).2.2.2.1, (sl (sr y1)).2.2.2.2.1, (sl (sr y1)).2.2.2.2.2.1, (sl (sr y1)).2.2.2.2.2.2))))))
 (.bi (pj 2 (qcd (Sum.inr (Sum.inr (x0, x1, y0, 0, x2, x3, x4, x5))))) (fun y1 =>
 .at (.next ((.inr (.inr ((sr (sr y1)).1, IntKind.i64.wrap ((sr (sr y1)).2.1 + 1), (sr (sr y1)).2.2.2.2.1, (sr (sr y1)).2.2.2.2.2.1, (sr (sr y1)).2.2.2.2.2.2.1, (sr (sr y1)).2.2.2.2.2.2.2))))))
 (.no))))
 (.no))
 (.no))
 (.at (.done 2))
def qa2 (G_u182q : qbo) : qbp -> DT (Rd qbp) := (Sum.elim (fun v => qeb G_u182q v.1 v.2.1 v.2.2.1 v.2.2.2.1 v.2.2.2.2.1 v.2.2.2.2.2) (Sum.elim (fun v => qec G_u182q v.1 v.2.1 v.2.2.1 v.2.2.2.1 v.2.2.2.2) (fun v => qed G_u182q v.1 v.2.1 v.2.2.1 v.2.2.2.1 v.2.2.2.2.1 v.2.2.2.2.2)))
def qdn (G_u182q : qbo) (v : qbp) : Option (Nat × qbp) := qav (qaq (fun v => (qa2 G_u182q v).ev) v)
theorem qh1 (G_u182q v) : qdn G_u182q v = qaq (fun v => (qa2 G_u182q v).ev) v := qaa _
def qwy (G_u182q : qbo) : qb3 := LE (τ := qbp) (hD qvS) (qdn G_u182q) qXe
theorem qWD (G_u182q : qbo) (hG : qoR G_u182q) : Go.Eng.Told IP (qaf qK8 0).1 (qaf qK8 0).2 (qwy G_u182q) := qat (inferInstance : Inhabited qbp) (hs := qvS) (st := qa2 G_u182q) (L := [(1010601, qwz)]) (qks G_u182q hG) (qab (l := [qaf qK8 1]) (by kernel_rfl) ⟨qau (by kernel_rfl) qWE, trivial⟩) (qh1 G_u182q) (fun v => match v with | (.inl v) => by kernel_rfl | (.inr (.inl v)) => by kernel_rfl | (.inr (.inr v)) => by kernel_rfl) (fun v => match v with | (.inl v) => by kernel_rfl | (.inr (.inl v)) => by kernel_rfl | (.inr (.inr v)) => by kernel_rfl)
def qp5 (G_u182q : qbo) (x0 x1 : Int) (x2 : List UInt8) (x3 : List AV) : DT qkl :=
 .br (x0 == 4)
 (.bi (pj 0 (qdn G_u182q (Sum.inl (0, x0, x1, x2, x3, [AV.str x2])))) (fun y0 =>
 .at ((sl y0).2.2.2.2.2))
 (.bi (pj 1 (qdn G_u182q (Sum.inl (0, x0, x1, x2, x3, [AV.str x2])))) (fun y0 =>
 .at ([]))
 (.bi (pj 2 (qdn G_u182q (Sum.inl (0, x0, x1, x2, x3, [AV.str x2])))) (fun y0 =>
 .at ((sr (sr y0)).1))
 (.no))))
 (.bi (pj 0 (qdn G_u182q (Sum.inr (Sum.inl (0, x0, x1, x2, x3))))) (fun y0 =>
 .at ((sl y0).2.2.2.2.2))
 (.bi (pj 1 (qdn G_u182q (Sum.inr (Sum.inl (0, x0, x1, x2, x3))))) (fun y0 =>
 .at ([]))
 (.bi (pj 2 (qdn G_u182q (Sum.inr (Sum.inl (0, x0, x1, x2, x3))))) (fun y0 =>
 .at ((sr (sr y0)).1))
 (.no))))
def qb5 : Nat -> qbo
 | 0 => fun _ _ _ _ => none
 | n + 1 => fun x0 x1 x2 x3 => (qp5 ((qb5 n)) x0 x1 x2 x3).ev
def qpk (x0 x1 : Int) (x2 : List UInt8) (x3 : List AV) : Option qkl := qmX fun n => (qb5 n) x0 x1 x2 x3
theorem qnr : ∀ n, qoR ((qb5 n))
 | 0 => (fun v y h => nomatch h)
 | n + 1 => have hG := qnr n
 qae (F := qK8) (L := [(1010600, qwy ((qb5 n)))]) (t := (k4 (qp5 ((qb5 n))))) (qks ((qb5 n)) hG) (qab (l := [qaf qK8 0, qaf qK8 1]) (by kernel_rfl) ⟨qau (by kernel_rfl) (qWD ((qb5 n)) hG), qAg (by kernel_rfl), trivial⟩) (by kernel_rfl) (fun v => by kernel_rfl) (fun v => rfl)
theorem qU3 : FH IP 106 qlP ql4 (k4 qpk) := qbI (p := qlP) (rs := ql4) (s := fun n => (k4 ((qb5 n)))) fun n => (qnr n)
def q9M : Tab := (106, FE qlP ql4 (k4 qpk)) :: q51
theorem qtN : qai IP q9M := ⟨qah qU3, qtM⟩
abbrev qet : Type := List AV × Int
def qFf : List PSt := [⟨[(1007200, .junk), (3, .view 1), (4, .int .i64)], [], 0, 0⟩]
def qN7 (x0 : List AV) (x1 : Int) : X × St := (.ret, ⟨[(2, .int .i64 4)], [], 0, 0⟩)
def qN8 (x0 : List AV) (x1 : Int) : X × St := (.exit 0, ⟨[(2, .junk)], [], 0, 0⟩)
def q3I : List (qet -> X × St) := [(k2 qN7), (k2 qN8)]
def qmz (x0 : List AV) (x1 : Int) : DT (Rd qet) :=
 .br (decide (x1 < (x0.length : Int)))
 (.br (qay [.str] x0 x1)
 (.bi (qn5 (strOf (cellAt x0 x1 0))) (fun y0 =>
 .br (!y0) (.at (.done 0)) (.at (.next ((x0, IntKind.i64.wrap (x1 + 1))))))
 (.no))
 (.no))
 (.at (.done 1))
def qmy : qet -> DT (Rd qet) := (fun v => qmz v.1 v.2)
def qr6 (v : qet) : Option (Nat × qet) := qav (qaq (fun v => (qmy v).ev) v)
theorem qr7 (v) : qr6 v = qaq (fun v => (qmy v).ev) v := qaa _
def qFH : qb3 := LE (τ := qet) (hD qFf) (qr6) q3I
theorem q3b : Go.Eng.Told IP (qaf F72 0).1 (qaf F72 0).2 (qFH) := lp (inferInstance : Inhabited qet) (hs := qFf) qmy qtN qr7
abbrev qPg : Type := Int
def qSa : PArgs := ⟨[.agg [.int .i64, .int .i64, .str, .view 4]], []⟩
def qTd : List PRes := [⟨false, .int .i64, []⟩]
def qqX (x0 x1 : Int) (x2 : List UInt8) (x3 : List AV) : DT qPg :=
 .bi (qhM x0 x1 x2 x3 64) (fun y0 =>
 .bi (br y0 (some true) (br (sm (qk0 x0 x1 x2 x3)) (some (decide (gv (qk0 x0 x1 x2 x3) > 8))) none)) (fun y1 =>
 .br (y1)
 (.at (5))
 (.bi (qpm x0 x1 x2 x3) (fun y2 =>
 .br (!y2)
 (.at (1))
 (.bi (qpk x0 x1 x2 x3) (fun y3 =>
 .bi (pj 0 (qr6 (y3, 0))) (fun y4 =>
 .at (4))
 (.bi (pj 1 (qr6 (y3, 0))) (fun y4 =>
 .at (0))
 (.no)))
 (.no)))
 (.no)))
 (.no))
 (.no)
def qrL (x0 x1 : Int) (x2 : List UInt8) (x3 : List AV) : Option qPg := qav (qqX x0 x1 x2 x3).ev
theorem qEI (x0 x1 x2 x3) : qrL x0 x1 x2 x3 = (qqX x0 x1 x2 x3).ev := qaa _
theorem q0J : FH IP 72 qSa qTd (k4 qrL) := qae (F := F72) (L := [(1007200, qFH)]) (t := (k4 qqX)) qtN (qab (l := [qaf F72 0]) (by kernel_rfl) ⟨qau (by kernel_rfl) q3b, trivial⟩) (by kernel_rfl) (fun v => by kernel_rfl) (fun _ => qaa _)
def q52 : Tab := (72, FE qSa qTd (k4 qrL)) :: q9M
theorem qtO : qai IP q52 := ⟨qah q0J, qtN⟩
abbrev qcn : Type := List AV × Int × Int × Int × List UInt8 × List AV
def qwd : List PSt := [⟨[(1007300, .junk), (1, .view 2), (2, .ref 0 0 0), (6, .int .i64)], [(0, .box [.int .i64, .int .i64, .str, .view 4] false)], 1, 0⟩]
def qKZ (x0 : List AV) (x1 x2 x3 : Int) (x4 : List UInt8) (x5 : List AV) : X × St := (.ret, ⟨[(4, .int .i64 (intOf (cellAt x0 x1 1))), (5, .int .i64 0)], [], 0, 0⟩)
def qK0 (x0 : List AV) (x1 x2 x3 : Int) (x4 : List UInt8) (x5 : List AV) : X × St := (.ret, ⟨[(4, .int .i64 0), (5, .int .i64 3)], [], 0, 0⟩)
def qK1 (x0 : List AV) (x1 x2 x3 : Int) (x4 : List UInt8) (x5 : List AV) : X × St := (.exit 1, ⟨[(4, .junk), (5, .junk)], [], 0, 0⟩)
def qXx : List (qcn -> X × St) := [(k6 qKZ), (k6 qK0), (k6 qK1)]
def qiv (x0 : List AV) (x1 x2 x3 : Int) (x4 : List UInt8) (x5 : List AV) : DT (Rd qcn) :=
 .br (decide (x1 < (x0.length : Int)))
 (.br (qay [.str, .int .i64] x0 x1)
 (.br (strOf (cellAt x0 x1 0) == x4)
 (.br (qay [.str, .int .i64] x0 x1)
 (.bi (qgt (intOf (cellAt x0 x1 1))) (fun y0 =>
 .br (y0)
 (.br (qay [.str, .int .i64] x0 x1) (.at (.done 0)) (.no))
 (.br (qay [.str, .int .i64] x0 x1)
 (.br (strOf (cellAt x0 x1 0) == x4) (.at (.done 1)) (.at (.next ((x0, IntKind.i64.wrap (x1 + 1), x2, x3, x4, x5)))))
 (.no)))
 (.no))
 (.no))
 (.br (qay [.str, .int .i64] x0 x1)
 (.br (strOf (cellAt x0 x1 0) == x4) (.at (.done 1)) (.at (.next ((x0, IntKind.i64.wrap (x1 + 1), x2, x3, x4, x5)))))
 (.no)))
 (.no))
 (.at (.done 2))
def qhl : qcn -> DT (Rd qcn) := (fun v => qiv v.1 v.2.1 v.2.2.1 v.2.2.2.1 v.2.2.2.2.1 v.2.2.2.2.2)
def qfk (v : qcn) : Option (Nat × qcn) := qav (qaq (fun v => (qhl v).ev) v)
theorem qot (v) : qfk v = qaq (fun v => (qhl v).ev) v := qaa _
def qwR : qb3 := LE (τ := qcn) (hD qwd) (qfk) qXx
theorem qWW : Go.Eng.Told IP (qaf F73 0).1 (qaf F73 0).2 (qwR) := lp (inferInstance : Inhabited qcn) (hs := qwd) qhl qtO qot
abbrev qgd : Type := Int × Int
def qlV : PArgs := ⟨[.agg [.int .i64, .int .i64, .str, .view 4], .view 2], []⟩
def qma : List PRes := [⟨false, .tup [.int .i64, .int .i64], []⟩]
abbrev qaY : Type := Int -> Int -> (List UInt8) -> (List AV) -> (List AV) -> Option qgd
def qoX (G_u234q : qaY) : Prop := FH IP 73 qlV qma (k5 G_u234q)
def qMt (G_u234q : qaY) : Tab := (73, FE qlV qma (k5 G_u234q)) :: q52
theorem qky (G_u234q : qaY) (hG : qoX G_u234q) : qai IP (qMt G_u234q) := ⟨qah (hG), qtO⟩
abbrev qbz : Type := (List AV × Int × Int × Int × List UInt8 × List AV) ⊕ (List AV × Int × Int × Int × List UInt8 × List AV × List AV)
def qwe : List PSt := [⟨[(1007301, .junk), (1, .view 2), (2, .ref 0 0 0), (7, .nils ⟨1, .any⟩), (8, .int .i64)], [(0, .box [.int .i64, .int .i64, .str, .view 4] false)], 1, 0⟩, ⟨[(1007301, .junk), (1, .view 2), (2, .ref 0 0 0), (7, .own 1 0), (8, .int .i64)], [(0, .box [.int .i64, .int .i64, .str, .view 4] false), (1, .arr 1 false)], 2, 0⟩]
def qK2 (G_u234q : qaY) (x0 : List AV) (x1 x2 x3 : Int) (x4 : List UInt8) (x5 : List AV) : X × St := (.ret,
 ⟨[(2, .ref 0 0 0), (4, .int .i64 0),
 (5, .int .i64 (gv (G_u234q (intOf (cellAt x5 x1 0)) (intOf (cellAt x5 x1 1)) (strOf (cellAt x5 x1 2)) (qaj (cellAt x5 x1 3)) x0)).2),
 (7, .nils ⟨1, .any⟩)], [(0, .box [.int .i64 x2, .int .i64 x3, .str x4, .view 4 x5] false)], 1, 0⟩)
def qK3 (G_u234q : qaY) (x0 : List AV) (x1 x2 x3 : Int) (x4 : List UInt8) (x5 : List AV) : X × St := (.exit 3,
 ⟨[(2, .ref 0 0 0), (4, .junk), (5, .junk), (7, .nils ⟨1, .any⟩)], [(0, .box [.int .i64 x2, .int .i64 x3, .str x4, .view 4 x5] false)], 1, 0⟩)
def qK4 (G_u234q : qaY) (x0 : List AV) (x1 x2 x3 : Int) (x4 : List UInt8) (x5 x6 : List AV) : X × St := (.ret,
 ⟨[(2, .ref 0 0 0), (4, .int .i64 0),
 (5, .int .i64 (gv (G_u234q (intOf (cellAt x5 x1 0)) (intOf (cellAt x5 x1 1)) (strOf (cellAt x5 x1 2)) (qaj (cellAt x5 x1 3)) x0)).2), (7, .own 1 0 none)], [(0, .box [.int .i64 x2, .int .i64 x3, .str x4, .view 4 x5] false), (1, .arr 1 x6 false)], 2, 0⟩)
def qK5 (G_u234q : qaY) (x0 : List AV) (x1 x2 x3 : Int) (x4 : List UInt8) (x5 x6 : List AV) : X × St := (.exit 3,
 ⟨[(2, .ref 0 0 0), (4, .junk), (5, .junk), (7, .own 1 0 none)], [(0, .box [.int .i64 x2, .int .i64 x3, .str x4, .view 4 x5] false), (1, .arr 1 x6 false)], 2, 0⟩)
def qXy (G_u234q : qaY) : List (qbz -> X × St) := [fun w => (k6 (qK2 G_u234q)) ((sl w)), fun w => (k6 (qK3 G_u234q)) ((sl w)), fun w => (k7 (qK4 G_u234q)) ((sr w)), fun w => (k7 (qK5 G_u234q)) ((sr w))]
def qfU (G_u234q : qaY) (x0 : List AV) (x1 x2 x3 : Int) (x4 : List UInt8) (x5 : List AV) : DT (Rd qbz) :=
 .br (decide (x1 < (x5.length : Int)))
 (.br (qay [.int .i64, .int .i64, .str, .slice 4] x5 x1)
 (.bi (G_u234q (intOf (cellAt x5 x1 0)) (intOf (cellAt x5 x1 1)) (strOf (cellAt x5 x1 2)) (qaj (cellAt x5 x1 3)) x0) (fun y0 =>
 .br (y0.2 != 0) (.at (.done 0)) (.at (.next ((.inr (x0, IntKind.i64.wrap (x1 + 1), x2, x3, x4, x5, [.int .i64 y0.1]))))))
 (.no))
 (.no))
 (.at (.done 1))
def qfV (G_u234q : qaY) (x0 : List AV) (x1 x2 x3 : Int) (x4 : List UInt8) (x5 x6 : List AV) : DT (Rd qbz) :=
 .br (decide (x1 < (x5.length : Int)))
 (.br (qay [.int .i64, .int .i64, .str, .slice 4] x5 x1)
 (.bi (G_u234q (intOf (cellAt x5 x1 0)) (intOf (cellAt x5 x1 1)) (strOf (cellAt x5 x1 2)) (qaj (cellAt x5 x1 3)) x0) (fun y0 =>
 .br (y0.2 != 0)
 (.at (.done 2))
 (.br (room (x6.length + 1) 8) (.at (.next ((.inr (x0, IntKind.i64.wrap (x1 + 1), x2, x3, x4, x5, x6 ++ [AV.int IntKind.i64 y0.1]))))) (.no)))
 (.no))
 (.no))
 (.at (.done 3))
def qct (G_u234q : qaY) : qbz -> DT (Rd qbz) := (Sum.elim (fun v => qfU G_u234q v.1 v.2.1 v.2.2.1 v.2.2.2.1 v.2.2.2.2.1 v.2.2.2.2.2) (fun v => qfV G_u234q v.1 v.2.1 v.2.2.1 v.2.2.2.1 v.2.2.2.2.1 v.2.2.2.2.2.1 v.2.2.2.2.2.2))
def qfl (G_u234q : qaY) (v : qbz) : Option (Nat × qbz) := qav (qaq (fun v => (qct G_u234q v).ev) v)
theorem qfF (G_u234q v) : qfl G_u234q v = qaq (fun v => (qct G_u234q v).ev) v := qaa _
def qwS (G_u234q : qaY) : qb3 := LE (τ := qbz) (hD qwe) (qfl G_u234q) (qXy G_u234q)
theorem qWX (G_u234q : qaY) (hG : qoX G_u234q) : Go.Eng.Told IP (qaf F73 1).1 (qaf F73 1).2 (qwS G_u234q) := qat (inferInstance : Inhabited qbz) (hs := qwe) (st := qct G_u234q) (L := []) (qky G_u234q hG) (qab (l := []) (by kernel_rfl) trivial) (qfF G_u234q) (fun v => match v with | (.inl v) => by kernel_rfl | (.inr v) => by kernel_rfl) (fun v => match v with | (.inl v) => by kernel_rfl | (.inr v) => by kernel_rfl)
def qqc (G_u234q : qaY) (x0 x1 : Int) (x2 : List UInt8) (x3 x4 : List AV) : DT qgd :=
 .br (x0 == 1)
 (.at ((1, 0)))
 (.br (x0 == 2)
 (.at ((2, 0)))
 (.br (x0 == 3)
 (.at ((3, 0)))
 (.br (x0 == 4)
 (.bi (pj 0 (qfk (x4, 0, x0, x1, x2, x3))) (fun y0 =>
 .at ((intOf (cellAt y0.1 y0.2.1 1), 0)))
 (.bi (pj 1 (qfk (x4, 0, x0, x1, x2, x3))) (fun y0 =>
 .at ((0, 3)))
 (.bi (pj 2 (qfk (x4, 0, x0, x1, x2, x3))) (fun y0 =>
 .at ((0, 4)))
 (.no))))
 (.bi (pj 0 (qfl G_u234q (Sum.inl (x4, 0, x0, x1, x2, x3)))) (fun y0 =>
 .at ((0, (gv
 (G_u234q (intOf (cellAt (sl y0).2.2.2.2.2 (sl y0).2.1 0)) (intOf (cellAt (sl y0).2.2.2.2.2 (sl y0).2.1 1))
 (strOf (cellAt (sl y0).2.2.2.2.2 (sl y0).2.1 2)) (qaj (cellAt (sl y0).2.2.2.2.2 (sl y0).2.1 3)) (sl y0).1)).2)))
 (.bi (pj 1 (qfl G_u234q (Sum.inl (x4, 0, x0, x1, x2, x3)))) (fun y0 =>
 .bi (qbU (sl y0).2.2.1 []) (fun y1 =>
 .br (!y1.2) (.at ((0, 3))) (.at ((y1.1, 0))))
 (.no))
 (.bi (pj 2 (qfl G_u234q (Sum.inl (x4, 0, x0, x1, x2, x3)))) (fun y0 =>
 .at ((0, (gv
 (G_u234q (intOf (cellAt (sr y0).2.2.2.2.2.1 (sr y0).2.1 0)) (intOf (cellAt (sr y0).2.2.2.2.2.1 (sr y0).2.1 1))
 (strOf (cellAt (sr y0).2.2.2.2.2.1 (sr y0).2.1 2)) (qaj (cellAt (sr y0).2.2.2.2.2.1 (sr y0).2.1 3)) (sr y0).1)).2)))
 (.bi (pj 3 (qfl G_u234q (Sum.inl (x4, 0, x0, x1, x2, x3)))) (fun y0 =>
 .bi (qbU (sr y0).2.2.1 (sr y0).2.2.2.2.2.2) (fun y1 =>
 .br (!y1.2) (.at ((0, 3))) (.at ((y1.1, 0))))
 (.no))
 (.no))))))))
def qbS : Nat -> qaY
 | 0 => fun _ _ _ _ _ => none
 | n + 1 => fun x0 x1 x2 x3 x4 => (qqc ((qbS n)) x0 x1 x2 x3 x4).ev
def qpp (x0 x1 : Int) (x2 : List UInt8) (x3 x4 : List AV) : Option qgd := qmX fun n => (qbS n) x0 x1 x2 x3 x4
theorem qnx : ∀ n, qoX ((qbS n))
 | 0 => (fun v y h => nomatch h)
 | n + 1 => have hG := qnx n
 qae (F := F73) (L := [(1007300, qwR), (1007301, qwS ((qbS n)))]) (t := (k5 (qqc ((qbS n))))) (qky ((qbS n)) hG) (qab (l := [qaf F73 0, qaf F73 1]) (by kernel_rfl) ⟨qau (by kernel_rfl) qWW, qau (by kernel_rfl) (qWX ((qbS n)) hG), trivial⟩) (by kernel_rfl) (fun v => by kernel_rfl) (fun v => rfl)
theorem qVP : FH IP 73 qlV qma (k5 qpp) := qbI (p := qlV) (rs := qma) (s := fun n => (k5 ((qbS n)))) fun n => (qnx n)
def q9N : Tab := (73, FE qlV qma (k5 qpp)) :: q52
theorem qC2 : qai IP q9N := ⟨qah qVP, qtO⟩
abbrev qB3 : Type := Int × Int
def qHx : PArgs := ⟨[.agg [.int .i64, .int .i64, .str, .view 4], .view 2], []⟩
def qI8 : List PRes := [⟨false, .tup [.int .i64, .int .i64], []⟩]
def qki (x0 x1 : Int) (x2 : List UInt8) (x3 x4 : List AV) : DT qB3 :=
 .bi (qrL x0 x1 x2 x3) (fun y0 =>
 .br (y0 != 0)
 (.at ((0, y0)))
 (.bi (qpp x0 x1 x2 x3 x4) (fun y1 =>
 .at ((y1.1, y1.2)))
 (.no)))
 (.no)
def qll (x0 x1 : Int) (x2 : List UInt8) (x3 x4 : List AV) : Option qB3 := qav (qki x0 x1 x2 x3 x4).ev
theorem qy0 (x0 x1 x2 x3 x4) : qll x0 x1 x2 x3 x4 = (qki x0 x1 x2 x3 x4).ev := qaa _
theorem qVO : FH IP 40 qHx qI8 (k5 qll) := fh F40 (k5 qki) qC2
def q9O : Tab := (40, FE qHx qI8 (k5 qll)) :: q9N
theorem qtP : qai IP q9O := ⟨qah qVO, qC2⟩
abbrev qcZ : Type := List AV × List AV × Int
def qvY : List PSt := [⟨[(1001600, .junk), (0, .view 2), (1, .view 2), (5, .int .i64)], [], 0, 0⟩]
def qJ9 (x0 x1 : List AV) (x2 : Int) : X × St := (.ret, ⟨[(4, .bool false)], [], 0, 0⟩)
def qKa (x0 x1 : List AV) (x2 : Int) : X × St := (.exit 0, ⟨[(4, .junk)], [], 0, 0⟩)
def qXk : List (qcZ -> X × St) := [(k3 qJ9), (k3 qKa)]
def qio (x0 x1 : List AV) (x2 : Int) : DT (Rd qcZ) :=
 .br (decide (x2 < (x1.length : Int)))
 (.br (qay [.int .i64, .int .i64] x1 x2)
 (.br (qay [.str, .int .i64] x0 x2)
 (.br (intOf (cellAt x1 x2 0) != intOf (cellAt x0 x2 1))
 (.at (.done 0))
 (.br (qay [.int .i64, .int .i64] x1 x2)
 (.bi (qfd (intOf (cellAt x1 x2 0)) (intOf (cellAt x1 x2 1))) (fun y0 =>
 .br (!y0) (.at (.done 0)) (.at (.next ((x0, x1, IntKind.i64.wrap (x2 + 1))))))
 (.no))
 (.no)))
 (.no))
 (.no))
 (.at (.done 1))
def qhc : qcZ -> DT (Rd qcZ) := (fun v => qio v.1 v.2.1 v.2.2)
def qlv (v : qcZ) : Option (Nat × qcZ) := qav (qaq (fun v => (qhc v).ev) v)
theorem qok (v) : qlv v = qaq (fun v => (qhc v).ev) v := qaa _
def qwE : qb3 := LE (τ := qcZ) (hD qvY) (qlv) qXk
theorem qWJ : Go.Eng.Told IP (qaf F16 0).1 (qaf F16 0).2 (qwE) := lp (inferInstance : Inhabited qcZ) (hs := qvY) qhc qtP qok
abbrev qBs : Type := Bool
def qGU : PArgs := ⟨[.view 2, .view 2], []⟩
def qIv : List PRes := [⟨false, .bool, []⟩]
def qjJ (x0 x1 : List AV) : DT qBs :=
 .br ((x0.length : Int) != (x1.length : Int))
 (.at (false))
 (.bi (pj 0 (qlv (x0, x1, 0))) (fun y0 =>
 .at (false))
 (.bi (pj 1 (qlv (x0, x1, 0))) (fun y0 =>
 .at (true))
 (.no)))
def qe9 (x0 x1 : List AV) : Option qBs := qav (qjJ x0 x1).ev
theorem qyr (x0 x1) : qe9 x0 x1 = (qjJ x0 x1).ev := qaa _
theorem qU8 : FH IP 16 qGU qIv (k2 qe9) := qae (F := F16) (L := [(1001600, qwE)]) (t := (k2 qjJ)) qtP (qab (l := [qaf F16 0]) (by kernel_rfl) ⟨qau (by kernel_rfl) qWJ, trivial⟩) (by kernel_rfl) (fun v => by kernel_rfl) (fun _ => qaa _)
def q9P : Tab := (16, FE qGU qIv (k2 qe9)) :: q9O
theorem qtQ : qai IP q9P := ⟨qah qU8, qtP⟩
abbrev qc5 : Type := List AV × List AV × Int × Int × Int × List UInt8 × List AV × Int × Int
def qv9 : List PSt := [⟨[(1007400, .junk), (1, .view 2), (2, .view 2), (3, .ref 0 0 0), (6, .ref 1 0 0), (7, .int .i64)], [(0, .box [.int .i64, .int .i64, .str, .view 4] false), (1, .box [.int .i64, .int .i64] false)], 2, 0⟩]
def qKz (x0 x1 : List AV) (x2 x3 x4 : Int) (x5 : List UInt8) (x6 : List AV) (x7 x8 : Int) : X × St := (.ret, ⟨[(6, .ref 0 0 0)], [(0, .box [.int .i64 (intOf (cellAt x1 x2 0)), .int .i64 (intOf (cellAt x1 x2 1))] false)], 1, 0⟩)
def qKA (x0 x1 : List AV) (x2 x3 x4 : Int) (x5 : List UInt8) (x6 : List AV) (x7 x8 : Int) : X × St := (.exit 1, ⟨[(6, .ref 0 0 0)], [(0, .box [.int .i64 x7, .int .i64 x8] false)], 1, 0⟩)
def qXt : List (qc5 -> X × St) := [(k9 qKz), (k9 qKA)]
def qiu (x0 x1 : List AV) (x2 x3 x4 : Int) (x5 : List UInt8) (x6 : List AV) (x7 x8 : Int) : DT (Rd qc5) :=
 .br (decide (x2 < (x0.length : Int)))
 (.br (qay [.str, .int .i64] x0 x2)
 (.br (strOf (cellAt x0 x2 0) == x5)
 (.br (qay [.int .i64, .int .i64] x1 x2) (.at (.done 0)) (.no))
 (.at (.next ((x0, x1, IntKind.i64.wrap (x2 + 1), x3, x4, x5, x6, x7, x8)))))
 (.no))
 (.at (.done 1))
def qhi : qc5 -> DT (Rd qc5) := (fun v => qiu v.1 v.2.1 v.2.2.1 v.2.2.2.1 v.2.2.2.2.1 v.2.2.2.2.2.1 v.2.2.2.2.2.2.1 v.2.2.2.2.2.2.2.1 v.2.2.2.2.2.2.2.2)
def qlB (v : qc5) : Option (Nat × qc5) := qav (qaq (fun v => (qhi v).ev) v)
theorem qoq (v) : qlB v = qaq (fun v => (qhi v).ev) v := qaa _
def qwN : qb3 := LE (τ := qc5) (hD qv9) (qlB) qXt
theorem qWS : Go.Eng.Told IP (qaf F74 0).1 (qaf F74 0).2 (qwN) := lp (inferInstance : Inhabited qc5) (hs := qv9) qhi qtQ qoq
abbrev qBI : Type := Int × Int
def qHb : PArgs := ⟨[.agg [.int .i64, .int .i64, .str, .view 4], .view 2, .view 2], []⟩
def qIM : List PRes := [⟨false, .agg [.int .i64, .int .i64], []⟩]
def qhv (x0 x1 : Int) (x2 : List UInt8) (x3 x4 x5 : List AV) : DT qBI :=
 .br (x0 == 1)
 (.at ((1, x1)))
 (.br (x0 == 2)
 (.at ((2, x1)))
 (.br (x0 == 3)
 (.at ((3, x1)))
 (.bi (pj 0 (qlB (x4, x5, 0, x0, x1, x2, x3, 0, 0))) (fun y0 =>
 .at ((intOf (cellAt y0.2.1 y0.2.2.1 0), intOf (cellAt y0.2.1 y0.2.2.1 1))))
 (.bi (pj 1 (qlB (x4, x5, 0, x0, x1, x2, x3, 0, 0))) (fun y0 =>
 .at ((0, 0)))
 (.no)))))
def qhR (x0 x1 : Int) (x2 : List UInt8) (x3 x4 x5 : List AV) : Option qBI := qav (qhv x0 x1 x2 x3 x4 x5).ev
theorem qnN (x0 x1 x2 x3 x4 x5) : qhR x0 x1 x2 x3 x4 x5 = (qhv x0 x1 x2 x3 x4 x5).ev := qaa _
theorem qVs : FH IP 74 qHb qIM (k6 qhR) := qae (F := F74) (L := [(1007400, qwN)]) (t := (k6 qhv)) qtQ (qab (l := [qaf F74 0]) (by kernel_rfl) ⟨qau (by kernel_rfl) qWS, trivial⟩) (by kernel_rfl) (fun v => by kernel_rfl) (fun _ => qaa _)
def q53 : Tab := (74, FE qHb qIM (k6 qhR)) :: q9P
theorem qC3 : qai IP q53 := ⟨qah qVs, qtQ⟩
end
end Go.Proofs.H13

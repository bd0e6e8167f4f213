/- Functions over plain data. Printed by a program of mine. -/
import Derived.Test.YtigchhcddgibhaaGreatDoorD13_9
import Derived.KernelRfl
namespace Go.Proofs.H13
open Go Go.Eng
set_option maxRecDepth 100000
noncomputable section
abbrev qPh : Type := Bool
def qSb : PArgs := ⟨[.str], []⟩
def qTe : List PRes := [⟨false, .bool, []⟩]
def qqY (x0 : List UInt8) : DT qPh :=
 .bi (qk5 x0) (fun y0 =>
 .bi (br y0 (br (sm (qhO x0)) (some !gv (qhO x0)) none) (some false)) (fun y1 =>
 .at (y1))
 (.no))
 (.no)
def qn5 (x0 : List UInt8) : Option qPh := qav (qqY x0).ev
theorem qEJ (x0) : qn5 x0 = (qqY x0).ev := qaa _
theorem q0K : FH IP 71 qSb qTe qn5 := fh F71 qqY qCX
def q9I : Tab := (71, FE qSb qTe qn5) :: q9H
theorem qo2 : qai IP q9I := ⟨qah q0K, qCX⟩
abbrev qc4 : Type := List AV × Int × Int
def qv8 : List PSt := [⟨[(1003901, .junk), (0, .view 2), (3, .int .i64), (4, .int .i64)], [], 0, 0⟩]
def qKx (x0 : List AV) (x1 x2 : Int) : X × St := (.ret, ⟨[(0, .view 2 x0), (2, .int .i64 12), (3, .int .i64 x1)], [], 0, 0⟩)
def qKy (x0 : List AV) (x1 x2 : Int) : X × St := (.exit 2, ⟨[(0, .view 2 x0), (2, .junk), (3, .int .i64 x1)], [], 0, 0⟩)
def qXs : List (qc4 -> X × St) := [(k3 qKx), (k3 qKy)]
def qit (x0 : List AV) (x1 x2 : Int) : DT (Rd qc4) :=
 .br (decide (x2 < x1))
 (.br (qay [.str, .int .i64] x0 x2)
 (.br (qay [.str, .int .i64] x0 x1)
 (.br (strOf (cellAt x0 x2 0) == strOf (cellAt x0 x1 0)) (.at (.done 0)) (.at (.next ((x0, x1, IntKind.i64.wrap (x2 + 1))))))
 (.no))
 (.no))
 (.at (.done 1))
def qhh : qc4 -> DT (Rd qc4) := (fun v => qit v.1 v.2.1 v.2.2)
def qlA (v : qc4) : Option (Nat × qc4) := qav (qaq (fun v => (qhh v).ev) v)
theorem qop (v) : qlA v = qaq (fun v => (qhh v).ev) v := qaa _
def qwM : qb3 := LE (τ := qc4) (hD qv8) (qlA) qXs
theorem qWR : Go.Eng.Told IP (qaf F39 1).1 (qaf F39 1).2 (qwM) := lp (inferInstance : Inhabited qc4) (hs := qv8) qhh qo2 qop
abbrev qc3 : Type := List AV × Int
def qv7 : List PSt := [⟨[(1003900, .junk), (0, .view 2), (3, .int .i64)], [], 0, 0⟩]
def qKt (x0 : List AV) (x1 : Int) : X × St := (.ret, ⟨[(2, .int .i64 4)], [], 0, 0⟩)
def qKu (x0 : List AV) (x1 : Int) : X × St := (.ret, ⟨[(2, .int .i64 12)], [], 0, 0⟩)
def qKv (x0 : List AV) (x1 : Int) : X × St := (.ret, ⟨[(2, .int .i64 3)], [], 0, 0⟩)
def qKw (x0 : List AV) (x1 : Int) : X × St := (.exit 0, ⟨[(2, .junk)], [], 0, 0⟩)
def qXr : List (qc3 -> X × St) := [(k2 qKt), (k2 qKu), (k2 qKv), (k2 qKw)]
def qis (x0 : List AV) (x1 : Int) : DT (Rd qc3) :=
 .br (decide (x1 < (x0.length : Int)))
 (.br (qay [.str, .int .i64] x0 x1)
 (.bi (qn5 (strOf (cellAt x0 x1 0))) (fun y0 =>
 .br (!y0)
 (.at (.done 0))
 (.bi (pj 0 (qlA (x0, x1, 0))) (fun y1 =>
 .at (.done 1))
 (.bi (pj 1 (qlA (x0, x1, 0))) (fun y1 =>
 .br (qay [.str, .int .i64] y1.1 y1.2.1)
 (.bi (qgt (intOf (cellAt y1.1 y1.2.1 1))) (fun y2 =>
 .br (!y2) (.at (.done 2)) (.at (.next ((y1.1, IntKind.i64.wrap (y1.2.1 + 1))))))
 (.no))
 (.no))
 (.no))))
 (.no))
 (.no))
 (.at (.done 3))
def qhg : qc3 -> DT (Rd qc3) := (fun v => qis v.1 v.2)
def qgE (v : qc3) : Option (Nat × qc3) := qav (qaq (fun v => (qhg v).ev) v)
theorem qoo (v) : qgE v = qaq (fun v => (qhg v).ev) v := qaa _
def qwL : qb3 := LE (τ := qc3) (hD qv7) (qgE) qXr
theorem qWQ : Go.Eng.Told IP (qaf F39 0).1 (qaf F39 0).2 (qwL) := qat (inferInstance : Inhabited qc3) (hs := qv7) (st := qhg) (L := [(1003901, qwM)]) qo2 (qab (l := [qaf F39 1]) (by kernel_rfl) ⟨qau (by kernel_rfl) qWR, trivial⟩) (qoo) (fun v => by kernel_rfl) (fun v => by kernel_rfl)
abbrev qBE : Type := Int
def qG7 : PArgs := ⟨[.view 2], []⟩
def qII : List PRes := [⟨false, .int .i64, []⟩]
def qjV (x0 : List AV) : DT qBE :=
 .br (decide ((x0.length : Int) > 64))
 (.at (5))
 (.bi (pj 0 (qgE (x0, 0))) (fun y0 =>
 .at (4))
 (.bi (pj 1 (qgE (x0, 0))) (fun y0 =>
 .at (12))
 (.bi (pj 2 (qgE (x0, 0))) (fun y0 =>
 .at (3))
 (.bi (pj 3 (qgE (x0, 0))) (fun y0 =>
 .at (0))
 (.no)))))
def qhP (x0 : List AV) : Option qBE := qav (qjV x0).ev
theorem qyD (x0) : qhP x0 = (qjV x0).ev := qaa _
theorem qVo : FH IP 39 qG7 qII qhP := qae (F := F39) (L := [(1003900, qwL)]) (t := qjV) qo2 (qab (l := [qaf F39 0, qaf F39 1]) (by kernel_rfl) ⟨qau (by kernel_rfl) qWQ, qAg (by kernel_rfl), trivial⟩) (by kernel_rfl) (fun v => by kernel_rfl) (fun _ => qaa _)
def q5Z : Tab := (39, FE qG7 qII qhP) :: q9I
theorem qCY : qai IP q5Z := ⟨qah qVo, qo2⟩
abbrev qPf : Type := Int
def qR9 : PArgs := ⟨[.int .i64], []⟩
def qTc : List PRes := [⟨false, .int .i64, []⟩]
def qqW (x0 : Int) : DT qPf :=
 .bi (br (decide (x0 < 1)) (some true) (some (decide (x0 > 19)))) (fun y0 =>
 .br (y0)
 (.at (-1))
 (.br (decide (x0 <= 4))
 (.at (0))
 (.bi (br (x0 == 9) (some true) (some (x0 == 16))) (fun y1 =>
 .br (y1)
 (.at (1))
 (.br (x0 == 19) (.at (3)) (.at (2))))
 (.no))))
 (.no)
def qdm (x0 : Int) : Option qPf := qav (qqW x0).ev
theorem qEH (x0) : qdm x0 = (qqW x0).ev := qaa _
theorem q0I : FH IP 45 qR9 qTc qdm := fh F45 qqW qCY
def q9K : Tab := (45, FE qR9 qTc qdm) :: q5Z
theorem qC0 : qai IP q9K := ⟨qah q0I, qCY⟩
abbrev qcZ : Type := List AV × List AV × Int
def qvY : List PSt := [⟨[(1001600, .junk), (0, .view 2), (1, .view 2), (5, .int .i64)], [], 0, 0⟩]
def qJ9 (x0 x1 : List AV) (x2 : Int) : X × St := (.ret, ⟨[(4, .bool false)], [], 0, 0⟩)
def qKa (x0 x1 : List AV) (x2 : Int) : X × St := (.exit 0, ⟨[(4, .junk)], [], 0, 0⟩)
def qXk : List (qcZ -> X × St) := [(k3 qJ9), (k3 qKa)]
def qio (x0 x1 : List AV) (x2 : Int) : DT (Rd qcZ) :=
 .br (decide (x2 < (x1.length : Int)))
 (.br (qay [.int .i64, .int .i64] x1 x2)
 (.br (qay [.str, .int .i64] x0 x2)
 (.br (intOf (cellAt x1 x2 0) != intOf (cellAt x0 x2 1))
 (.at (.done 0))
 (.br (qay [.int .i64, .int .i64] x1 x2)
 (.bi (qfd (intOf (cellAt x1 x2 0)) (intOf (cellAt x1 x2 1))) (fun y0 =>
 .br (!y0) (.at (.done 0)) (.at (.next ((x0, x1, IntKind.i64.wrap (x2 + 1))))))
 (.no))
 (.no)))
 (.no))
 (.no))
 (.at (.done 1))
def qhc : qcZ -> DT (Rd qcZ) := (fun v => qio v.1 v.2.1 v.2.2)
def qlv (v : qcZ) : Option (Nat × qcZ) := qav (qaq (fun v => (qhc v).ev) v)
theorem qok (v) : qlv v = qaq (fun v => (qhc v).ev) v := qaa _
def qwE : qb3 := LE (τ := qcZ) (hD qvY) (qlv) qXk
theorem qWJ : Go.Eng.Told IP (qaf F16 0).1 (qaf F16 0).2 (qwE) := lp (inferInstance : Inhabited qcZ) (hs := qvY) qhc qC0 qok
abbrev qBs : Type := Bool
def qGU : PArgs := ⟨[.view 2, .view 2], []⟩
def qIv : List PRes := [⟨false, .bool, []⟩]
def qjJ (x0 x1 : List AV) : DT qBs :=
 .br ((x0.length : Int) != (x1.length : Int))
 (.at (false))
 (.bi (pj 0 (qlv (x0, x1, 0))) (fun y0 =>
 .at (false))
 (.bi (pj 1 (qlv (x0, x1, 0))) (fun y0 =>
 .at (true))
 (.no)))
def qe9 (x0 x1 : List AV) : Option qBs := qav (qjJ x0 x1).ev
theorem qyr (x0 x1) : qe9 x0 x1 = (qjJ x0 x1).ev := qaa _
theorem qU8 : FH IP 16 qGU qIv (k2 qe9) := qae (F := F16) (L := [(1001600, qwE)]) (t := (k2 qjJ)) qC0 (qab (l := [qaf F16 0]) (by kernel_rfl) ⟨qau (by kernel_rfl) qWJ, trivial⟩) (by kernel_rfl) (fun v => by kernel_rfl) (fun _ => qaa _)
def q9P : Tab := (16, FE qGU qIv (k2 qe9)) :: q9K
theorem qtQ : qai IP q9P := ⟨qah qU8, qC0⟩
end
end Go.Proofs.H13

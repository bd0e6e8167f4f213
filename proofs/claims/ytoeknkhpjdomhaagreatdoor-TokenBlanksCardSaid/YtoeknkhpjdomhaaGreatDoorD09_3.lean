/- Functions over plain data. Printed by a program of mine. -/
import Derived.Test.YtoeknkhpjdomhaaGreatDoorD09_2
import Derived.KernelRfl
set_option linter.unusedVariables false
set_option linter.unusedSimpArgs false
set_option linter.unnecessarySimpa false
namespace Go.Proofs.H09
open Go Go.Eng
set_option maxRecDepth 100000
noncomputable section
abbrev qc3 : Type := List AV × Int
def qrC : List PSt := [⟨[(1001700, .junk), (0, .view 3), (3, .int .i64)], [], 0, 0⟩]
def qu4 (x0 : List AV) (x1 : Int) : X × St := (X.ret, ⟨[(2, AV.bool false)], [], 0, 0⟩)
def qu5 (x0 : List AV) (x1 : Int) : X × St := (X.exit 0, ⟨[(2, AV.junk)], [], 0, 0⟩)
def qCD : List (qc3 → X × St) := [(k2 qu4), (k2 qu5)]
def qhH (x0 : List AV) (x1 : Int) : DT (Rd qc3) :=
 .br (decide (x1 < (x0.length : Int)))
 (.br (qdP [CS.int IntKind.i64, CS.int IntKind.i64, CS.str] x0 x1)
 (.br (decide (((strOf (cellAt x0 x1 2)).length : Int) > 100)) (.at (.done 0)) (.at (.next ((x0, IntKind.i64.wrap (x1 + 1))))))
 (.no))
 (.at (.done 1))
def qfS : qc3 → DT (Rd qc3) := (fun v => qhH v.1 v.2)
def qlv (v : qc3) : Option (Nat × qc3) := qaZ (qav (fun v => (qfS v).ev) v)
theorem qlw (v : qc3) : qlv v = qav (fun v => (qfS v).ev) v := qab _
def qsa : qeo := LE (τ := qc3) (hD qrC) (qlv) qCD
theorem qB8 : Go.Eng.Told IP (qae F17 0).1 (qae F17 0).2 (qsa) := qaK (inferInstance : Inhabited qc3) (hs := qrC) (st := qfS) (L := []) qpU (qaf (l := []) (by kernel_rfl) trivial) (qlw) (fun v => by kernel_rfl) (fun v => by kernel_rfl)
abbrev qvW : Type := Bool
def qxG : PArgs := ⟨[.view 3], []⟩
def qys : List PRes := [⟨false, .bool, []⟩]
def qky (x0 : List AV) : DT qvW :=
 .br (decide ((x0.length : Int) > 300))
 (.at (false))
 (.bi (pj 0 (qlv (x0, 0))) (fun y0 =>
 .at (false))
 (.bi (pj 1 (qlv (x0, 0))) (fun y0 =>
 .at (true))
 (.no)))
def qiA (x0 : List AV) : Option qvW := qaZ (qky x0).ev
theorem qq2 (x0 : List AV) : qiA x0 = (qky x0).ev := qab _
theorem qAK : FH IP 17 qxG qys qiA := qap (F := F17) (L := [(1001700, qsa)]) (t := qky) qpU (qaf (l := [qae F17 0]) (by kernel_rfl) ⟨qaL (by kernel_rfl) qB8, trivial⟩) (by kernel_rfl) (fun v => by kernel_rfl) (fun _ => qab _)
def T46 : Tab := (17, FE qxG qys qiA) :: T45
theorem qww : qaz IP T46 := ⟨qaG qAK, qpU⟩
abbrev qv6 : Type := Bool
def qxQ : PArgs := ⟨[.agg [.int .i64, .int .i64, .str]], []⟩
def qyC : List PRes := [⟨false, .bool, []⟩]
def qkI (x0 x1 : Int) (x2 : List UInt8) : DT qv6 :=
 .bi (qit x2) (fun y0 =>
 .br (y0.2.2 == 0)
 (.br ((y0.1.length : Int) == 1)
 (.br (qdP [CS.int IntKind.i64, CS.int IntKind.i64, CS.str] y0.1 0)
 (.br (intOf (cellAt y0.1 0 0) == x0)
 (.br (qdP [CS.int IntKind.i64, CS.int IntKind.i64, CS.str] y0.1 0) (.at (strOf (cellAt y0.1 0 2) == x2)) (.no))
 (.at (false)))
 (.no))
 (.at (false)))
 (.at (false)))
 (.no)
def qlh (x0 x1 : Int) (x2 : List UInt8) : Option qv6 := qaZ (qkI x0 x1 x2).ev
theorem qrc (x0 x1 : Int) (x2 : List UInt8) : qlh x0 x1 x2 = (qkI x0 x1 x2).ev := qab _
theorem qAU : FH IP 36 qxQ qyC (k3 qlh) := qap (F := F36) (L := []) (t := (k3 qkI)) qww (qaf (l := []) (by kernel_rfl) trivial) (by kernel_rfl) (fun v => by kernel_rfl) (fun _ => qab _)
def T47 : Tab := (36, FE qxQ qyC (k3 qlh)) :: T46
theorem qkP : qaz IP T47 := ⟨qaG qAU, qww⟩
abbrev qc5 : Type := List AV × Int × Int
def qrE : List PSt := [⟨[(1001900, .junk), (0, .view 3), (4, .int .i64), (5, .int .i64)], [], 0, 0⟩]
def qu7 (x0 : List AV) (x1 x2 : Int) : X × St := (X.ret, ⟨[(0, AV.view 3 x0), (2, AV.str ([] : List UInt8)), (3, AV.int IntKind.i64 1), (4, AV.int IntKind.i64 x1)], [], 0, 0⟩)
def qu8 (x0 : List AV) (x1 x2 : Int) : X × St := (X.exit 0, ⟨[(0, AV.view 3 x0), (2, AV.junk), (3, AV.junk), (4, AV.int IntKind.i64 x1)], [], 0, 0⟩)
def qCF : List (qc5 → X × St) := [(k3 qu7), (k3 qu8)]
def qhK (x0 : List AV) (x1 x2 : Int) : DT (Rd qc5) :=
 .br (decide (x2 < (x0.length : Int)))
 (.br (qdP [CS.int IntKind.i64, CS.int IntKind.i64, CS.str] x0 x2)
 (.bi (qlh (intOf (cellAt x0 x2 0)) (intOf (cellAt x0 x2 1)) (strOf (cellAt x0 x2 2))) (fun y0 =>
 .bi (br (!y0) (some true) (br (qdP [CS.int IntKind.i64, CS.int IntKind.i64, CS.str] x0 x2) (some (decide (intOf (cellAt x0 x2 1) < x1))) none)) (fun y1 =>
 .br (y1)
 (.at (.done 0))
 (.br (qdP [CS.int IntKind.i64, CS.int IntKind.i64, CS.str] x0 x2) (.at (.next ((x0, intOf (cellAt x0 x2 1), IntKind.i64.wrap (x2 + 1))))) (.no)))
 (.no))
 (.no))
 (.no))
 (.at (.done 1))
def qfT : qc5 → DT (Rd qc5) := (fun v => qhK v.1 v.2.1 v.2.2)
def qiV (v : qc5) : Option (Nat × qc5) := qaZ (qav (fun v => (qfT v).ev) v)
theorem qeZ (v : qc5) : qiV v = qav (fun v => (qfT v).ev) v := qab _
def qsc : qeo := LE (τ := qc5) (hD qrE) (qiV) qCF
theorem qCa : Go.Eng.Told IP (qae F19 0).1 (qae F19 0).2 (qsc) := qaK (inferInstance : Inhabited qc5) (hs := qrE) (st := qfT) (L := []) qkP (qaf (l := []) (by kernel_rfl) trivial) (qeZ) (fun v => by kernel_rfl) (fun v => by kernel_rfl)
abbrev qc7 : Type := List AV × Int × List UInt8 × Int
def qrG : List PSt := [⟨[(1001902, .junk), (0, .view 3), (4, .int .i64), (6, .str), (7, .int .i64)], [], 0, 0⟩]
def qvc (x0 : List AV) (x1 : Int) (x2 : List UInt8) (x3 : Int) : X × St := (X.exit 4, ⟨[(0, AV.view 3 x0), (4, AV.int IntKind.i64 x1), (6, AV.str x2), (7, AV.int IntKind.i64 x3)], [], 0, 0⟩)
def qCH : List (qc7 → X × St) := [(k4 qvc)]
def qhN (x0 : List AV) (x1 : Int) (x2 : List UInt8) (x3 : Int) : DT (Rd qc7) :=
 .br (qdP [CS.int IntKind.i64, CS.int IntKind.i64, CS.str] x0 x3)
 (.br (decide (x1 < intOf (cellAt x0 x3 1)))
 (.br (decide (x2.length + 1 ≤ 4611686018427387904)) (.at (.next ((x0, IntKind.i64.wrap (x1 + 1), x2 ++ ([10] : List UInt8), x3)))) (.no))
 (.at (.done 0)))
 (.no)
def qhM : qc7 → DT (Rd qc7) := (fun v => qhN v.1 v.2.1 v.2.2.1 v.2.2.2)
def qdL (v : qc7) : Option (Nat × qc7) := qaZ (qav (fun v => (qhM v).ev) v)
theorem qe1 (v : qc7) : qdL v = qav (fun v => (qhM v).ev) v := qab _
def qse : qeo := LE (τ := qc7) (hD qrG) (qdL) qCH
theorem qCc : Go.Eng.Told IP (qae F19 2).1 (qae F19 2).2 (qse) := qaK (inferInstance : Inhabited qc7) (hs := qrG) (st := qhM) (L := []) qkP (qaf (l := []) (by kernel_rfl) trivial) (qe1) (fun v => by kernel_rfl) (fun v => by kernel_rfl)
abbrev qc6 : Type := List AV × Int × List UInt8 × Int
def qrF : List PSt := [⟨[(1001901, .junk), (0, .view 3), (4, .int .i64), (6, .str), (7, .int .i64)], [], 0, 0⟩]
def qu9 (x0 : List AV) (x1 : Int) (x2 : List UInt8) (x3 : Int) : X × St := (X.ret,
 ⟨[(2, AV.str ([] : List UInt8)), (3, AV.int IntKind.i64 5),
 (6,
 AV.str
 ((gv (pj 0 (qdL (x0, x1, x2 ++ ([32] : List UInt8), x3)))).2.2.1 ++
 strOf
 (cellAt (gv (pj 0 (qdL (x0, x1, x2 ++ ([32] : List UInt8), x3)))).1
 (gv (pj 0 (qdL (x0, x1, x2 ++ ([32] : List UInt8), x3)))).2.2.2 2)))], [], 0, 0⟩)
def qva (x0 : List AV) (x1 : Int) (x2 : List UInt8) (x3 : Int) : X × St := (X.ret,
 ⟨[(2, AV.str ([] : List UInt8)), (3, AV.int IntKind.i64 5),
 (6,
 AV.str
 ((gv (pj 0 (qdL (x0, x1, x2, x3)))).2.2.1 ++
 strOf (cellAt (gv (pj 0 (qdL (x0, x1, x2, x3)))).1 (gv (pj 0 (qdL (x0, x1, x2, x3)))).2.2.2 2)))], [], 0, 0⟩)
def qvb (x0 : List AV) (x1 : Int) (x2 : List UInt8) (x3 : Int) : X × St := (X.exit 2, ⟨[(2, AV.junk), (3, AV.junk), (6, AV.str x2)], [], 0, 0⟩)
def qCG : List (qc6 → X × St) := [(k4 qu9), (k4 qva), (k4 qvb)]
def qhL (x0 : List AV) (x1 : Int) (x2 : List UInt8) (x3 : Int) : DT (Rd qc6) :=
 .br (decide (x3 < (x0.length : Int)))
 (.bi (br (decide (x3 > 0)) (br (qdP [CS.int IntKind.i64, CS.int IntKind.i64, CS.str] x0 x3) (some (intOf (cellAt x0 x3 1) == x1)) none) (some false)) (fun y0 =>
 .br (y0)
 (.br (decide (x2.length + 1 ≤ 4611686018427387904))
 (.bi (pj 0 (qdL (x0, x1, x2 ++ ([32] : List UInt8), x3))) (fun y1 =>
 .br (qdP [CS.int IntKind.i64, CS.int IntKind.i64, CS.str] y1.1 y1.2.2.2)
 (.br (decide (y1.2.2.1.length + (strOf (cellAt y1.1 y1.2.2.2 2)).length ≤ 4611686018427387904))
 (.br (decide (((y1.2.2.1 ++ strOf (cellAt y1.1 y1.2.2.2 2)).length : Int) > 2048))
 (.at (.done 0))
 (.at (.next ((y1.1, y1.2.1, y1.2.2.1 ++ strOf (cellAt y1.1 y1.2.2.2 2), IntKind.i64.wrap (y1.2.2.2 + 1))))))
 (.no))
 (.no))
 (.no))
 (.no))
 (.bi (pj 0 (qdL (x0, x1, x2, x3))) (fun y1 =>
 .br (qdP [CS.int IntKind.i64, CS.int IntKind.i64, CS.str] y1.1 y1.2.2.2)
 (.br (decide (y1.2.2.1.length + (strOf (cellAt y1.1 y1.2.2.2 2)).length ≤ 4611686018427387904))
 (.br (decide (((y1.2.2.1 ++ strOf (cellAt y1.1 y1.2.2.2 2)).length : Int) > 2048))
 (.at (.done 1))
 (.at (.next ((y1.1, y1.2.1, y1.2.2.1 ++ strOf (cellAt y1.1 y1.2.2.2 2), IntKind.i64.wrap (y1.2.2.2 + 1))))))
 (.no))
 (.no))
 (.no)))
 (.no))
 (.at (.done 2))
def qfU : qc6 → DT (Rd qc6) := (fun v => qhL v.1 v.2.1 v.2.2.1 v.2.2.2)
def qg6 (v : qc6) : Option (Nat × qc6) := qaZ (qav (fun v => (qfU v).ev) v)
theorem qe0 (v : qc6) : qg6 v = qav (fun v => (qfU v).ev) v := qab _
def qsd : qeo := LE (τ := qc6) (hD qrF) (qg6) qCG
theorem qCb : Go.Eng.Told IP (qae F19 1).1 (qae F19 1).2 (qsd) := qaK (inferInstance : Inhabited qc6) (hs := qrF) (st := qfU) (L := [(1001902, qse)]) qkP (qaf (l := [qae F19 2]) (by kernel_rfl) ⟨qaL (by kernel_rfl) qCc, trivial⟩) (qe0) (fun v => by kernel_rfl) (fun v => by kernel_rfl)
abbrev qv2 : Type := List UInt8 × Int
def qxM : PArgs := ⟨[.view 3], []⟩
def qyy : List PRes := [⟨false, .tup [.str, .int .i64], []⟩]
def qkE (x0 : List AV) : DT qv2 :=
 .bi (pj 0 (qiV (x0, 1, 0))) (fun y0 =>
 .at ((([] : List UInt8), 1)))
 (.bi (pj 1 (qiV (x0, 1, 0))) (fun y0 =>
 .br (decide (IntKind.i64.wrap (y0.2.1 - 1) > 2048))
 (.at ((([] : List UInt8), 5)))
 (.bi (pj 0 (qg6 (y0.1, 1, ([] : List UInt8), 0))) (fun y1 =>
 .at ((([] : List UInt8), 5)))
 (.bi (pj 1 (qg6 (y0.1, 1, ([] : List UInt8), 0))) (fun y1 =>
 .at ((([] : List UInt8), 5)))
 (.bi (pj 2 (qg6 (y0.1, 1, ([] : List UInt8), 0))) (fun y1 =>
 .at ((y1.2.2.1, 0)))
 (.no)))))
 (.no))
def qlg (x0 : List AV) : Option qv2 := qaZ (qkE x0).ev
theorem qq8 (x0 : List AV) : qlg x0 = (qkE x0).ev := qab _
theorem qAQ : FH IP 19 qxM qyy qlg := qap (F := F19) (L := [(1001900, qsc), (1001901, qsd)]) (t := qkE) qkP (qaf (l := [qae F19 0, qae F19 1, qae F19 2]) (by kernel_rfl) ⟨qaL (by kernel_rfl) qCa, qaL (by kernel_rfl) qCb, qs1 (by kernel_rfl), trivial⟩) (by kernel_rfl) (fun v => by kernel_rfl) (fun _ => qab _)
def T48 : Tab := (19, FE qxM qyy qlg) :: T47
theorem qwx : qaz IP T48 := ⟨qaG qAQ, qkP⟩
abbrev qvu : Type := Bool
def qxc : PArgs := ⟨[.view 3], []⟩
def qxY : List PRes := [⟨false, .bool, []⟩]
def qj5 (x0 : List AV) : DT qvu :=
 .bi (qiA x0) (fun y0 =>
 .br (!y0)
 (.bi (qaN) (fun y1 =>
 .at (y1))
 (.no))
 (.br (Tk.jB IP 18 x0)
 (.bi (qlg x0) (fun y1 =>
 .bi (br (Tk.jS IP 18 x0 == y1.1) (some (Tk.jN IP 18 x0 == y1.2)) (some false)) (fun y2 =>
 .bi (br y2 (br (sm qaN) (some (gv qaN)) none) (some false)) (fun y3 =>
 .at (y3))
 (.no))
 (.no))
 (.no))
 (.no)))
 (.no)
def qnd (x0 : List AV) : Option qvu := qaZ (qj5 x0).ev
theorem qqv (x0 : List AV) : qnd x0 = (qj5 x0).ev := qab _
theorem qwI : FH IP 5 qxc qxY qnd := qap (F := F5) (L := []) (t := qj5) qwx (qaf (l := []) (by kernel_rfl) trivial) (by kernel_rfl) (fun v => by kernel_rfl) (fun _ => qab _)
def T49 : Tab := (5, FE qxc qxY qnd) :: T48
theorem qwy : qaz IP T49 := ⟨qaG qwI, qwx⟩
abbrev qz2 : Type := Bool
def qBF : PArgs := ⟨[.view 3, .str], []⟩
def qBQ : List PRes := [⟨false, .bool, []⟩]
def qn0 (x0 : List AV) (x1 : List UInt8) : DT qz2 :=
 .bi (qiA x0) (fun y0 =>
 .bi (br (!y0) (some true) (some (decide ((x1.length : Int) > 2100)))) (fun y1 =>
 .br (y1)
 (.bi (qaN) (fun y2 =>
 .at (y2))
 (.no))
 (.br (Tk.jB IP 18 x0)
 (.br (Tk.jN IP 18 x0 == 0)
 (.bi (qb3 (Tk.jS IP 18 x0)) (fun y2 =>
 .bi (qct x0 y2.1) (fun y3 =>
 .bi (br (!y3) (some true) (some (y2.2.1 != 0))) (fun y4 =>
 .bi (br y4 (some true) (some (y2.2.2 != 0))) (fun y5 =>
 .br (y5)
 (.at (false))
 (.bi (qb3 x1) (fun y6 =>
 .br (y6.2.2 != 0)
 (.bi (br ((y6.1.length : Int) == 0) (br (sm qaN) (some (gv qaN)) none) (some false)) (fun y7 =>
 .at (y7))
 (.no))
 (.br (Tk.jB IP 18 y6.1)
 (.br (Tk.jN IP 18 y6.1 == 5)
 (.bi (br (decide ((x1.length : Int) > 1024)) (br (sm qaN) (some (gv qaN)) none) (some false)) (fun y7 =>
 .at (y7))
 (.no))
 (.bi (qb3 (Tk.jS IP 18 y6.1)) (fun y7 =>
 .bi (br (Tk.jN IP 18 y6.1 == 0) (some (y7.2.2 == 0)) (some false)) (fun y8 =>
 .bi (br y8 (br (sm (qct y7.1 y6.1)) (some (gv (qct y7.1 y6.1))) none) (some false)) (fun y9 =>
 .bi (br y9 (br (sm qaN) (some (gv qaN)) none) (some false)) (fun y10 =>
 .at (y10))
 (.no))
 (.no))
 (.no))
 (.no)))
 (.no)))
 (.no)))
 (.no))
 (.no))
 (.no))
 (.no))
 (.bi (qb3 x1) (fun y2 =>
 .br (y2.2.2 != 0)
 (.bi (br ((y2.1.length : Int) == 0) (br (sm qaN) (some (gv qaN)) none) (some false)) (fun y3 =>
 .at (y3))
 (.no))
 (.br (Tk.jB IP 18 y2.1)
 (.br (Tk.jN IP 18 y2.1 == 5)
 (.bi (br (decide ((x1.length : Int) > 1024)) (br (sm qaN) (some (gv qaN)) none) (some false)) (fun y3 =>
 .at (y3))
 (.no))
 (.bi (qb3 (Tk.jS IP 18 y2.1)) (fun y3 =>
 .bi (br (Tk.jN IP 18 y2.1 == 0) (some (y3.2.2 == 0)) (some false)) (fun y4 =>
 .bi (br y4 (br (sm (qct y3.1 y2.1)) (some (gv (qct y3.1 y2.1))) none) (some false)) (fun y5 =>
 .bi (br y5 (br (sm qaN) (some (gv qaN)) none) (some false)) (fun y6 =>
 .at (y6))
 (.no))
 (.no))
 (.no))
 (.no)))
 (.no)))
 (.no)))
 (.no)))
 (.no))
 (.no)
def qtN (x0 : List AV) (x1 : List UInt8) : Option qz2 := qaZ (qn0 x0 x1).ev
theorem qtO (x0 : List AV) (x1 : List UInt8) : qtN x0 x1 = (qn0 x0 x1).ev := qab _
theorem qAY : FH IP 6 qBF qBQ (k2 qtN) := qap (F := F6) (L := []) (t := (k2 qn0)) qwy (qaf (l := []) (by kernel_rfl) trivial) (by kernel_rfl) (fun v => by kernel_rfl) (fun _ => qab _)
def T50 : Tab := (6, FE qBF qBQ (k2 qtN)) :: T49
theorem qwz : qaz IP T50 := ⟨qaG qAY, qwy⟩
abbrev qvv : Type := Bool
def qxd : PArgs := ⟨[.str], []⟩
def qxZ : List PRes := [⟨false, .bool, []⟩]
def qj6 (x0 : List UInt8) : DT qvv :=
 .br (decide ((x0.length : Int) > 100))
 (.bi (qaN) (fun y0 =>
 .at (y0))
 (.no))
 (.bi (qf4 x0) (fun y0 =>
 .bi (qiE x0) (fun y1 =>
 .bi (br (y0.1 != y1.1) (some true) (some (y0.2 != y1.2))) (fun y2 =>
 .br (y2)
 (.at (false))
 (.bi (qgI y0.1) (fun y3 =>
 .bi (br (y0.2 != 0) (some true) (br (y3.1 == x0) (some (y3.2 == 0)) (some false))) (fun y4 =>
 .bi (br y4 (br (sm qaN) (some (gv qaN)) none) (some false)) (fun y5 =>
 .at (y5))
 (.no))
 (.no))
 (.no)))
 (.no))
 (.no))
 (.no))
def qne (x0 : List UInt8) : Option qvv := qaZ (qj6 x0).ev
theorem qqw (x0 : List UInt8) : qne x0 = (qj6 x0).ev := qab _
theorem qwJ : FH IP 7 qxd qxZ qne := qap (F := F7) (L := []) (t := qj6) qwz (qaf (l := []) (by kernel_rfl) trivial) (by kernel_rfl) (fun v => by kernel_rfl) (fun _ => qab _)
def T51 : Tab := (7, FE qxd qxZ qne) :: T50
theorem qpV : qaz IP T51 := ⟨qaG qwJ, qwz⟩
abbrev qc0 : Type := Int × Int × List UInt8
def qrz : List PSt := [⟨[(1004800, .junk), (0, .int .i64), (1, .int .i64), (5, .str)], [], 0, 0⟩]
def qu0 (x0 x1 : Int) (x2 : List UInt8) : X × St := (X.exit 0, ⟨[(5, AV.str x2)], [], 0, 0⟩)
def qCA : List (qc0 → X × St) := [(k3 qu0)]
def qhD (x0 x1 : Int) (x2 : List UInt8) : DT (Rd qc0) :=
 .bi (br (decide (x0 > 0)) (some true) (some (decide ((x2.length : Int) < x1)))) (fun y0 =>
 .br (y0)
 (.br (leB (IntKind.i64.wrap (x0.tmod 10 + 1)) 10 && leB (x0.tmod 10) (IntKind.i64.wrap (x0.tmod 10 + 1)).toNat)
 (.br (decide
 ((List.take ((IntKind.i64.wrap (x0.tmod 10 + 1)).toNat - (x0.tmod 10).toNat)
 (List.drop (x0.tmod 10).toNat ([48, 49, 50, 51, 52, 53, 54, 55, 56, 57] : List UInt8))).length +
 x2.length ≤
 4611686018427387904))
 (.at (.next ((IntKind.i64.wrap (x0.tdiv 10), x1, List.take ((IntKind.i64.wrap (x0.tmod 10 + 1)).toNat - (x0.tmod 10).toNat) (List.drop (x0.tmod 10).toNat ([48, 49, 50, 51, 52, 53, 54, 55, 56, 57] : List UInt8)) ++ x2))))
 (.no))
 (.no))
 (.at (.done 0)))
 (.no)
def qeE : qc0 → DT (Rd qc0) := (fun v => qhD v.1 v.2.1 v.2.2)
def qg5 (v : qc0) : Option (Nat × qc0) := qaZ (qav (fun v => (qeE v).ev) v)
theorem qcf (v : qc0) : qg5 v = qav (fun v => (qeE v).ev) v := qab _
def qr7 : qeo := LE (τ := qc0) (hD qrz) (qg5) qCA
theorem qB5 : Go.Eng.Told IP (qae F48 0).1 (qae F48 0).2 (qr7) := qaK (inferInstance : Inhabited qc0) (hs := qrz) (st := qeE) (L := []) qpV (qaf (l := []) (by kernel_rfl) trivial) (qcf) (fun v => by kernel_rfl) (fun v => by kernel_rfl)
abbrev qvQ : Type := List UInt8
def qxA : PArgs := ⟨[.int .i64, .int .i64], []⟩
def qym : List PRes := [⟨false, .str, []⟩]
def qh3 (x0 x1 : Int) : DT qvQ :=
 .bi (pj 0 (qg5 (x0, x1, ([] : List UInt8)))) (fun y0 =>
 .at (y0.2.2))
 (.no)
def qgM (x0 x1 : Int) : Option qvQ := qaZ (qh3 x0 x1).ev
theorem qle (x0 x1 : Int) : qgM x0 x1 = (qh3 x0 x1).ev := qab _
theorem qAE : FH IP 48 qxA qym (k2 qgM) := qap (F := F48) (L := [(1004800, qr7)]) (t := (k2 qh3)) qpV (qaf (l := [qae F48 0]) (by kernel_rfl) ⟨qaL (by kernel_rfl) qB5, trivial⟩) (by kernel_rfl) (fun v => by kernel_rfl) (fun _ => qab _)
def T52 : Tab := (48, FE qxA qym (k2 qgM)) :: T51
theorem qpW : qaz IP T52 := ⟨qaG qAE, qpV⟩
abbrev qcZ : Type := List UInt8 × List UInt8
def qry : List PSt := [⟨[(1002300, .junk), (4, .str), (5, .str)], [], 0, 0⟩]
def quZ (x0 x1 : List UInt8) : X × St := (X.exit 0, ⟨[(4, AV.str x0), (5, AV.str x1)], [], 0, 0⟩)
def qCz : List (qcZ → X × St) := [(k2 quZ)]
def qfe (x0 x1 : List UInt8) : DT (Rd qcZ) :=
 .bi (br (decide ((x1.length : Int) > 0)) (br (inB x1.length (IntKind.i64.wrap ((x1.length : Int) - 1))) (some (qad x1 (IntKind.i64.wrap ((x1.length : Int) - 1)) == 48)) none)
 (some false)) (fun y0 =>
 .br (y0)
 (.br (leB (IntKind.i64.wrap ((x1.length : Int) - 1)) x1.length && true) (.at (.next ((x0, List.take (IntKind.i64.wrap ((x1.length : Int) - 1)).toNat x1)))) (.no))
 (.at (.done 0)))
 (.no)
def qfQ : qcZ → DT (Rd qcZ) := (fun v => qfe v.1 v.2)
def qno (v : qcZ) : Option (Nat × qcZ) := qaZ (qav (fun v => (qfQ v).ev) v)
theorem qeY (v : qcZ) : qno v = qav (fun v => (qfQ v).ev) v := qab _
def qr6 : qeo := LE (τ := qcZ) (hD qry) (qno) qCz
theorem qB4 : Go.Eng.Told IP (qae F23 0).1 (qae F23 0).2 (qr6) := qaK (inferInstance : Inhabited qcZ) (hs := qry) (st := qfQ) (L := []) qpW (qaf (l := []) (by kernel_rfl) trivial) (qeY) (fun v => by kernel_rfl) (fun v => by kernel_rfl)
abbrev qvK : Type := List UInt8 × Int
def qxu : PArgs := ⟨[.int .i64], []⟩
def qyg : List PRes := [⟨false, .tup [.str, .int .i64], []⟩]
def qkn (x0 : Int) : DT qvK :=
 .bi (br (decide (x0 < 0)) (some true) (some (decide (x0 > 1000000)))) (fun y0 =>
 .br (y0)
 (.at ((([] : List UInt8), 1)))
 (.bi (qgM (IntKind.i64.wrap (x0.tdiv 10000)) 1) (fun y1 =>
 .bi (qgM (x0.tmod 10000) 4) (fun y2 =>
 .bi (pj 0 (qno (y1, y2))) (fun y3 =>
 .br (!y3.2 == ([] : List UInt8))
 (.br (decide (y3.1.length + 1 ≤ 4611686018427387904))
 (.br (decide ((y3.1 ++ ([46] : List UInt8)).length + y3.2.length ≤ 4611686018427387904))
 (.br (decide ((y3.1 ++ ([46] : List UInt8) ++ y3.2).length + 1 ≤ 4611686018427387904))
 (.at ((y3.1 ++ ([46] : List UInt8) ++ y3.2 ++ ([37] : List UInt8), 0)))
 (.no))
 (.no))
 (.no))
 (.br (decide (y3.1.length + 1 ≤ 4611686018427387904)) (.at ((y3.1 ++ ([37] : List UInt8), 0))) (.no)))
 (.no))
 (.no))
 (.no)))
 (.no)
def qla (x0 : Int) : Option qvK := qaZ (qkn x0).ev
theorem qqP (x0 : Int) : qla x0 = (qkn x0).ev := qab _
theorem qAz : FH IP 23 qxu qyg qla := qap (F := F23) (L := [(1002300, qr6)]) (t := qkn) qpW (qaf (l := [qae F23 0]) (by kernel_rfl) ⟨qaL (by kernel_rfl) qB4, trivial⟩) (by kernel_rfl) (fun v => by kernel_rfl) (fun _ => qab _)
def T53 : Tab := (23, FE qxu qyg qla) :: T52
theorem qwA : qaz IP T53 := ⟨qaG qAz, qpW⟩
abbrev qvq : Type := Bool
def qw8 : PArgs := ⟨[.int .i64], []⟩
def qxU : List PRes := [⟨false, .bool, []⟩]
def qj1 (x0 : Int) : DT qvq :=
 .bi (qgI x0) (fun y0 =>
 .bi (qla x0) (fun y1 =>
 .bi (br (!y0.1 == y1.1) (some true) (some (y0.2 != y1.2))) (fun y2 =>
 .br (y2)
 (.at (false))
 (.bi (qf4 y0.1) (fun y3 =>
 .bi (br (y0.2 != 0) (some true) (br (y3.1 == x0) (some (y3.2 == 0)) (some false))) (fun y4 =>
 .bi (br y4 (br (sm qaN) (some (gv qaN)) none) (some false)) (fun y5 =>
 .at (y5))
 (.no))
 (.no))
 (.no)))
 (.no))
 (.no))
 (.no)
def qnb (x0 : Int) : Option qvq := qaZ (qj1 x0).ev
theorem qqr (x0 : Int) : qnb x0 = (qj1 x0).ev := qab _
theorem qwG : FH IP 8 qw8 qxU qnb := qap (F := F8) (L := []) (t := qj1) qwA (qaf (l := []) (by kernel_rfl) trivial) (by kernel_rfl) (fun v => by kernel_rfl) (fun _ => qab _)
def T54 : Tab := (8, FE qw8 qxU qnb) :: T53
theorem qpX : qaz IP T54 := ⟨qaG qwG, qwA⟩
abbrev qeN : Type := List UInt8 × List AV × Int × Int × List AV × Int
def qwW : List PSt := [⟨[(1000900, .junk), (0, .str), (3, .view 3), (4, .int .i64), (5, .int .i64), (6, .view 3), (9, .int .i64)], [], 0, 0⟩]
def qzG (x0 : List UInt8) (x1 : List AV) (x2 x3 : Int) (x4 : List AV) (x5 : Int) : X × St := (X.ret, ⟨[(0, AV.str x0), (2, AV.bool false), (3, AV.view 3 x1), (4, AV.int IntKind.i64 x2), (5, AV.int IntKind.i64 x3)], [], 0, 0⟩)
def qzH (x0 : List UInt8) (x1 : List AV) (x2 x3 : Int) (x4 : List AV) (x5 : Int) : X × St := (X.exit 0, ⟨[(0, AV.str x0), (2, AV.junk), (3, AV.view 3 x1), (4, AV.int IntKind.i64 x2), (5, AV.int IntKind.i64 x3)], [], 0, 0⟩)
def qD0 : List (qeN → X × St) := [(k6 qzG), (k6 qzH)]
def qjV (x0 : List UInt8) (x1 : List AV) (x2 x3 : Int) (x4 : List AV) (x5 : Int) : DT (Rd qeN) :=
 .br (decide (x5 < (x1.length : Int)))
 (.br (qdP [CS.int IntKind.i64, CS.int IntKind.i64, CS.str] x1 x5)
 (.br (qdP [CS.int IntKind.i64, CS.int IntKind.i64, CS.str] x4 x5)
 (.br (intOf (cellAt x1 x5 0) != intOf (cellAt x4 x5 0))
 (.at (.done 0))
 (.br (qdP [CS.int IntKind.i64, CS.int IntKind.i64, CS.str] x1 x5)
 (.br (qdP [CS.int IntKind.i64, CS.int IntKind.i64, CS.str] x4 x5)
 (.br (!strOf (cellAt x1 x5 2) == strOf (cellAt x4 x5 2))
 (.at (.done 0))
 (.br (qdP [CS.int IntKind.i64, CS.int IntKind.i64, CS.str] x1 x5)
 (.br (qdP [CS.int IntKind.i64, CS.int IntKind.i64, CS.str] x4 x5)
 (.br (IntKind.i64.wrap (intOf (cellAt x1 x5 1) + 1) != intOf (cellAt x4 x5 1)) (.at (.done 0)) (.at (.next ((x0, x1, x2, x3, x4, IntKind.i64.wrap (x5 + 1))))))
 (.no))
 (.no)))
 (.no))
 (.no)))
 (.no))
 (.no))
 (.at (.done 1))
def ql6 : qeN → DT (Rd qeN) := (fun v => qjV v.1 v.2.1 v.2.2.1 v.2.2.2.1 v.2.2.2.2.1 v.2.2.2.2.2)
def qrT (v : qeN) : Option (Nat × qeN) := qaZ (qav (fun v => (ql6 v).ev) v)
theorem qnu (v : qeN) : qrT v = qav (fun v => (ql6 v).ev) v := qab _
def qw1 : qeo := LE (τ := qeN) (hD qwW) (qrT) qD0
theorem qDR : Go.Eng.Told IP (qae F9 0).1 (qae F9 0).2 (qw1) := qaK (inferInstance : Inhabited qeN) (hs := qwW) (st := ql6) (L := []) qpX (qaf (l := []) (by kernel_rfl) trivial) (qnu) (fun v => by kernel_rfl) (fun v => by kernel_rfl)
abbrev qvt : Type := Bool
def qxb : PArgs := ⟨[.str], []⟩
def qxX : List PRes := [⟨false, .bool, []⟩]
def qj4 (x0 : List UInt8) : DT qvt :=
 .br (decide ((x0.length : Int) > 2000))
 (.bi (qaN) (fun y0 =>
 .at (y0))
 (.no))
 (.bi (qb3 x0) (fun y0 =>
 .br (decide (8 + x0.length ≤ 4611686018427387904))
 (.bi (qb3 (([35, 32, 49, 46, 53, 32, 61, 10] : List UInt8) ++ x0)) (fun y1 =>
 .bi (br (y0.2.2 != y1.2.2) (some true) (some ((y0.1.length : Int) != (y1.1.length : Int)))) (fun y2 =>
 .bi (br y2 (some true) (br (y0.2.2 != 0) (some (y1.2.1 != IntKind.i64.wrap (y0.2.1 + 1))) (some false))) (fun y3 =>
 .br (y3)
 (.at (false))
 (.bi (pj 0 (qrT (x0, y0.1, y0.2.1, y0.2.2, y1.1, 0))) (fun y4 =>
 .at (false))
 (.bi (pj 1 (qrT (x0, y0.1, y0.2.1, y0.2.2, y1.1, 0))) (fun y4 =>
 .br (decide (2 + y4.1.length ≤ 4611686018427387904))
 (.br (decide ((([9, 32] : List UInt8) ++ y4.1).length + 3 ≤ 4611686018427387904))
 (.bi (qb3 (([9, 32] : List UInt8) ++ y4.1 ++ ([10, 32, 35] : List UInt8))) (fun y5 =>
 .bi (qct y4.2.1 y5.1) (fun y6 =>
 .bi (br y6 (some (y4.2.2.1 == y5.2.1)) (some false)) (fun y7 =>
 .bi (br y7 (some (y4.2.2.2.1 == y5.2.2)) (some false)) (fun y8 =>
 .bi (br y8 (br (sm qaN) (some (gv qaN)) none) (some false)) (fun y9 =>
 .at (y9))
 (.no))
 (.no))
 (.no))
 (.no))
 (.no))
 (.no))
 (.no))
 (.no))))
 (.no))
 (.no))
 (.no))
 (.no))
 (.no))
def qnc (x0 : List UInt8) : Option qvt := qaZ (qj4 x0).ev
theorem qqu (x0 : List UInt8) : qnc x0 = (qj4 x0).ev := qab _
theorem qwH : FH IP 9 qxb qxX qnc := qap (F := F9) (L := [(1000900, qw1)]) (t := qj4) qpX (qaf (l := [qae F9 0]) (by kernel_rfl) ⟨qaL (by kernel_rfl) qDR, trivial⟩) (by kernel_rfl) (fun v => by kernel_rfl) (fun _ => qab _)
def T55 : Tab := (9, FE qxb qxX qnc) :: T54
theorem qwB : qaz IP T55 := ⟨qaG qwH, qpX⟩
abbrev qvO : Type := Bool
def qxy : PArgs := ⟨[.agg [.int .i64, .int .i64, .str]], []⟩
def qyk : List PRes := [⟨false, .bool, []⟩]
def qkr (x0 x1 : Int) (x2 : List UInt8) : DT qvO :=
 .bi (qb3 x2) (fun y0 =>
 .br (y0.2.2 == 0)
 (.br ((y0.1.length : Int) == 1)
 (.br (qdP [CS.int IntKind.i64, CS.int IntKind.i64, CS.str] y0.1 0)
 (.br (intOf (cellAt y0.1 0 0) == x0)
 (.br (qdP [CS.int IntKind.i64, CS.int IntKind.i64, CS.str] y0.1 0) (.at (strOf (cellAt y0.1 0 2) == x2)) (.no))
 (.at (false)))
 (.no))
 (.at (false)))
 (.at (false)))
 (.no)
def qnh (x0 x1 : Int) (x2 : List UInt8) : Option qvO := qaZ (qkr x0 x1 x2).ev
theorem qqT (x0 x1 : Int) (x2 : List UInt8) : qnh x0 x1 x2 = (qkr x0 x1 x2).ev := qab _
theorem qwM : FH IP 30 qxy qyk (k3 qnh) := qap (F := F30) (L := []) (t := (k3 qkr)) qwB (qaf (l := []) (by kernel_rfl) trivial) (by kernel_rfl) (fun v => by kernel_rfl) (fun _ => qab _)
end
end Go.Proofs.H09

/- Functions over plain data. Printed by a program of mine. -/
import Derived.Test.YtigchhcddgibhaaGreatDoorD13_8
import Derived.KernelRfl
namespace Go.Proofs.H13
open Go Go.Eng
set_option maxRecDepth 100000
noncomputable section
abbrev qBP : Type := Int × Int × Int
def qHj : PArgs := ⟨[.agg [.int .i64, .int .u64], .agg [.int .i64, .int .u64]], []⟩
def qIU : List PRes := [⟨false, .tup [.agg [.int .i64, .int .u64], .int .i64], []⟩]
def qj6 (x0 x1 : Int) (x2 x3 : Int) : DT qBP :=
 .bi (qdT x0 x1) (fun y0 =>
 .bi (qdT x2 x3) (fun y1 =>
 .bi (qhW y0.1 y0.2.1 y0.2.2 y1.1 y1.2.1 y1.2.2) (fun y2 =>
 .at ((y2.1, y2.2.1, y2.2.2)))
 (.no))
 (.no))
 (.no)
def qhV (x0 x1 : Int) (x2 x3 : Int) : Option qBP := qav (qj6 x0 x1 x2 x3).ev
theorem qyO (x0 x1 x2 x3) : qhV x0 x1 x2 x3 = (qj6 x0 x1 x2 x3).ev := qaa _
theorem qVA : FH IP 29 qHj qIU (k4 qhV) := fh F29 (k4 qj6) qCA
def q9i : Tab := (29, FE qHj qIU (k4 qhV)) :: q9h
theorem qCB : qai IP q9i := ⟨qah qVA, qCA⟩
abbrev qBR : Type := Int × Bool
def qHl : PArgs := ⟨[.agg [.int .i64, .int .u64]], []⟩
def qIW : List PRes := [⟨false, .tup [.int .i64, .bool], []⟩]
def qj8 (x0 x1 : Int) : DT qBR :=
 .bi (qbD (IntKind.i64.wrap x1)) (fun y0 =>
 .br (if false = true then !(y0.1 == x0 && (y0.2 == x1 && true)) else y0.1 == x0 && (y0.2 == x1 && true)) (.at ((IntKind.i64.wrap x1, true))) (.at ((0, false))))
 (.no)
def qgx (x0 x1 : Int) : Option qBR := qav (qj8 x0 x1).ev
theorem qyQ (x0 x1) : qgx x0 x1 = (qj8 x0 x1).ev := qaa _
theorem qVC : FH IP 66 qHl qIW (k2 qgx) := fh F66 (k2 qj8) qCB
def q9j : Tab := (66, FE qHl qIW (k2 qgx)) :: q9i
theorem qCC : qai IP q9j := ⟨qah qVC, qCB⟩
abbrev qBX : Type := Int × Int × Int
def qHs : PArgs := ⟨[.int .i64, .agg [.int .i64, .int .u64]], []⟩
def qI3 : List PRes := [⟨false, .tup [.agg [.int .i64, .int .i64], .int .i64], []⟩]
def qkf (x0 x1 x2 : Int) : DT qBX :=
 .bi (qgx x1 x2) (fun y0 =>
 .bi (br (!y0.2) (some true) (br (sm (qfd x0 y0.1)) (some !gv (qfd x0 y0.1)) none)) (fun y1 =>
 .br (y1) (.at ((0, 0, 6))) (.at ((x0, y0.1, 0))))
 (.no))
 (.no)
def qcb (x0 x1 x2 : Int) : Option qBX := qav (qkf x0 x1 x2).ev
theorem qyX (x0 x1 x2) : qcb x0 x1 x2 = (qkf x0 x1 x2).ev := qaa _
theorem qVJ : FH IP 30 qHs qI3 (k3 qcb) := fh F30 (k3 qkf) qCC
def q9k : Tab := (30, FE qHs qI3 (k3 qcb)) :: q9j
theorem qCD : qai IP q9k := ⟨qah qVJ, qCC⟩
abbrev qBT : Type := Int × Int × Int
def qHn : PArgs := ⟨[.agg [.int .i64, .int .u64], .agg [.int .i64, .int .u64]], []⟩
def qIY : List PRes := [⟨false, .tup [.agg [.int .i64, .int .u64], .int .i64], []⟩]
def qka (x0 x1 : Int) (x2 x3 : Int) : DT qBT :=
 .bi (qdT x0 x1) (fun y0 =>
 .bi (qdT x2 x3) (fun y1 =>
 .bi (qhW y0.1 y0.2.1 y0.2.2 (!y1.1) y1.2.1 y1.2.2) (fun y2 =>
 .at ((y2.1, y2.2.1, y2.2.2)))
 (.no))
 (.no))
 (.no)
def qgy (x0 x1 : Int) (x2 x3 : Int) : Option qBT := qav (qka x0 x1 x2 x3).ev
theorem qyS (x0 x1 x2 x3) : qgy x0 x1 x2 x3 = (qka x0 x1 x2 x3).ev := qaa _
theorem qVE : FH IP 31 qHn qIY (k4 qgy) := fh F31 (k4 qka) qCD
def q9l : Tab := (31, FE qHn qIY (k4 qgy)) :: q9k
theorem qCE : qai IP q9l := ⟨qah qVE, qCD⟩
abbrev qBz : Type := Int
def qG2 : PArgs := ⟨[.int .i64], []⟩
def qID : List PRes := [⟨false, .int .u64, []⟩]
def qjQ (x0 : Int) : DT qBz :=
 .br (decide (x0 < 0)) (.at (IntKind.u64.wrap (IntKind.u64.wrap (-1 - IntKind.u64.wrap x0) + 1))) (.at (IntKind.u64.wrap x0))
def qk4 (x0 : Int) : Option qBz := qav (qjQ x0).ev
theorem qyy (x0) : qk4 x0 = (qjQ x0).ev := qaa _
theorem qVj : FH IP 123 qG2 qID qk4 := fh q5s qjQ qCE
def q9m : Tab := (123, FE qG2 qID qk4) :: q9l
theorem qtH : qai IP q9m := ⟨qah qVj, qCE⟩
abbrev qcU : Type := Int × Bool × Int × Int × Int × Int × Int × Int × Int
def qvQ : List PSt := [⟨[(1012200, .junk), (1, .int .u64), (2, .ref 0 0 0), (4, .ref 1 0 0), (6, .ref 2 0 0), (7, .bool), (8, .int .i64)], [(0, .box [.int .u64, .int .u64] false), (1, .box [.int .u64, .int .u64] false), (2, .box [.int .u64, .int .u64] false)], 3, 0⟩]
def qJU (x0 : Int) (x1 : Bool) (x2 x3 : Int) (x4 x5 : Int) (x6 x7 x8 : Int) : X × St := (.exit 0,
 ⟨[(4, .ref 0 0 0), (6, .ref 1 0 0), (7, .bool x1)], [(0, .box [.int .u64 x5, .int .u64 x6] false), (1, .box [.int .u64 x7, .int .u64 x8] false)], 2, 0⟩)
def qXc : List (qcU -> X × St) := [(k9 qJU)]
def qoF (x0 : Int) (x1 : Bool) (x2 x3 : Int) (x4 x5 : Int) (x6 x7 x8 : Int) : DT (Rd qcU) :=
 .br (decide (x2 < 64))
 (.bi (qeK x7 x8 x7 x8) (fun y0 =>
 .bi (br x1 (some y0.2.2) (some false)) (fun y1 =>
 .br (IntKind.u64.wrap ((BitVec.ofInt 64 x0 &&& BitVec.ofInt 64 9223372036854775808).toNat : Int) != 0)
 (.bi (qeK y0.1 y0.2.1 x3 x4) (fun y2 =>
 .bi (br y1 (some y2.2.2) (some false)) (fun y3 =>
 .at (.next ((IntKind.u64.wrap (x0 * 2 ^ 1), y3, IntKind.i64.wrap (x2 + 1), x3, x4, x5, x6, y2.1, y2.2.1))))
 (.no))
 (.no))
 (.at (.next ((IntKind.u64.wrap (x0 * 2 ^ 1), y1, IntKind.i64.wrap (x2 + 1), x3, x4, x5, x6, y0.1, y0.2.1)))))
 (.no))
 (.no))
 (.at (.done 0))
def qg8 : qcU -> DT (Rd qcU) := (fun v => qoF v.1 v.2.1 v.2.2.1 v.2.2.2.1 v.2.2.2.2.1 v.2.2.2.2.2.1 v.2.2.2.2.2.2.1 v.2.2.2.2.2.2.2.1 v.2.2.2.2.2.2.2.2)
def qpE (v : qcU) : Option (Nat × qcU) := qav (qaq (fun v => (qg8 v).ev) v)
theorem qfA (v) : qpE v = qaq (fun v => (qg8 v).ev) v := qaa _
def qww : qb3 := LE (τ := qcU) (hD qvQ) (qpE) qXc
theorem qWB : Go.Eng.Told IP (qaf qYz 0).1 (qaf qYz 0).2 (qww) := lp (inferInstance : Inhabited qcU) (hs := qvQ) qg8 qtH qfA
abbrev qBm : Type := Int × Int × Bool
def qGN : PArgs := ⟨[.agg [.int .u64, .int .u64], .int .u64], []⟩
def qIo : List PRes := [⟨false, .tup [.agg [.int .u64, .int .u64], .bool], []⟩]
def qjE (x0 x1 x2 : Int) : DT qBm :=
 .bi (pj 0 (qpE (x2, true, 0, x0, x1, 0, 0, 0, 0))) (fun y0 =>
 .at ((y0.2.2.2.2.2.2.2.1, y0.2.2.2.2.2.2.2.2, y0.2.1)))
 (.no)
def qkX (x0 x1 x2 : Int) : Option qBm := qav (qjE x0 x1 x2).ev
theorem qym (x0 x1 x2) : qkX x0 x1 x2 = (qjE x0 x1 x2).ev := qaa _
theorem qUX : FH IP 122 qGN qIo (k3 qkX) := qae (F := qYz) (L := [(1012200, qww)]) (t := (k3 qjE)) qtH (qab (l := [qaf qYz 0]) (by kernel_rfl) ⟨qau (by kernel_rfl) qWB, trivial⟩) (by kernel_rfl) (fun v => by kernel_rfl) (fun _ => qaa _)
def q9n : Tab := (122, FE qGN qIo (k3 qkX)) :: q9m
theorem qCF : qai IP q9n := ⟨qah qUX, qtH⟩
abbrev qBj : Type := Int × Int × Int
def qGK : PArgs := ⟨[.agg [.int .i64, .int .u64], .int .i64], []⟩
def qIl : List PRes := [⟨false, .tup [.agg [.int .i64, .int .u64], .int .i64], []⟩]
def qjB (x0 x1 x2 : Int) : DT qBj :=
 .bi (qdT x0 x1) (fun y0 =>
 .bi (qk4 x2) (fun y1 =>
 .bi (qkX y0.2.1 y0.2.2 y1) (fun y2 =>
 .bi (qdU (if true = true then !y0.1 == decide (x2 < 0) else y0.1 == decide (x2 < 0)) y2.1 y2.2.1) (fun y3 =>
 .bi (br (!y2.2.2) (some true) (some !y3.2.2)) (fun y4 =>
 .br (y4) (.at ((0, 0, 6))) (.at ((y3.1, y3.2.1, 0))))
 (.no))
 (.no))
 (.no))
 (.no))
 (.no)
def qpj (x0 x1 x2 : Int) : Option qBj := qav (qjB x0 x1 x2).ev
theorem qyj (x0 x1 x2) : qpj x0 x1 x2 = (qjB x0 x1 x2).ev := qaa _
theorem qUU : FH IP 98 qGK qIl (k3 qpj) := fh F98 (k3 qjB) qCF
def q9o : Tab := (98, FE qGK qIl (k3 qpj)) :: q9n
theorem qCG : qai IP q9o := ⟨qah qUU, qCF⟩
abbrev qBS : Type := Int × Int
def qHm : PArgs := ⟨[.int .i64, .int .i64], []⟩
def qIX : List PRes := [⟨false, .agg [.int .i64, .int .u64], []⟩]
def qj9 (x0 x1 : Int) : DT qBS :=
 .bi (qbD x0) (fun y0 =>
 .bi (qpj y0.1 y0.2 x1) (fun y1 =>
 .at ((y1.1, y1.2.1)))
 (.no))
 (.no)
def qlh (x0 x1 : Int) : Option qBS := qav (qj9 x0 x1).ev
theorem qyR (x0 x1) : qlh x0 x1 = (qj9 x0 x1).ev := qaa _
theorem qVD : FH IP 67 qHm qIX (k2 qlh) := fh F67 (k2 qj9) qCG
def q9p : Tab := (67, FE qHm qIX (k2 qlh)) :: q9o
theorem qCH : qai IP q9p := ⟨qah qVD, qCG⟩
abbrev qBn : Type := Bool
def qGO : PArgs := ⟨[.int .i64], []⟩
def qIp : List PRes := [⟨false, .bool, []⟩]
def qht (x0 : Int) : DT qBn :=
 .bi (br (decide (x0 >= 1)) (some (decide (x0 <= 6))) (some false)) (fun y0 =>
 .at (y0))
 (.no)
def qe8 (x0 : Int) : Option qBn := qav (qht x0).ev
theorem qnK (x0) : qe8 x0 = (qht x0).ev := qaa _
theorem qUY : FH IP 99 qGO qIp qe8 := fh F99 qht qCH
def q9q : Tab := (99, FE qGO qIp qe8) :: q9p
theorem qCI : qai IP q9q := ⟨qah qUY, qCH⟩
abbrev qAN : Type := Int × Int × Bool
def qGe : PArgs := ⟨[.agg [.int .u64, .int .u64]], []⟩
def qHP : List PRes := [⟨false, .tup [.agg [.int .u64, .int .u64], .bool], []⟩]
def qja (x0 x1 : Int) : DT qAN :=
 .bi (qeK x0 x1 x0 x1) (fun y0 =>
 .at ((y0.1, y0.2.1, y0.2.2)))
 (.no)
def qe4 (x0 x1 : Int) : Option qAN := qav (qja x0 x1).ev
theorem qxM (x0 x1) : qe4 x0 x1 = (qja x0 x1).ev := qaa _
theorem qUk : FH IP 137 qGe qHP (k2 qe4) := fh q5C (k2 qja) qCI
def q9r : Tab := (137, FE qGe qHP (k2 qe4)) :: q9q
theorem qtI : qai IP q9r := ⟨qah qUk, qCI⟩
abbrev qes : Type := Int × Int × Int × Int × Int × Int × Int × Int × Int
def qFe : List PSt := [⟨[(1012400, .junk), (1, .int .u64), (2, .ref 0 0 0), (4, .ref 1 0 0), (6, .ref 2 0 0), (7, .int .u64), (8, .int .i64)], [(0, .box [.int .u64, .int .u64] false), (1, .box [.int .u64, .int .u64] false), (2, .box [.int .u64, .int .u64] false)], 3, 0⟩]
def qN6 (x0 x1 : Int) (x2 x3 : Int) (x4 x5 : Int) (x6 x7 x8 : Int) : X × St := (.exit 0,
 ⟨[(4, .ref 0 0 0), (6, .ref 1 0 0), (7, .int .u64 x1)], [(0, .box [.int .u64 x5, .int .u64 x6] false), (1, .box [.int .u64 x7, .int .u64 x8] false)], 2, 0⟩)
def q3H : List (qes -> X × St) := [(k9 qN6)]
def qsC (x0 x1 : Int) (x2 x3 : Int) (x4 x5 : Int) (x6 x7 x8 : Int) : DT (Rd qes) :=
 .br (decide (x2 < 128))
 (.br (IntKind.u64.wrap ((BitVec.ofInt 64 x3 &&& BitVec.ofInt 64 9223372036854775808).toNat : Int) != 0)
 (.bi (qe4 x3 x4) (fun y0 =>
 .bi (qe4 x7 x8) (fun y1 =>
 .br (decide (IntKind.u64.wrap (IntKind.u64.wrap (x1 * 2 ^ 1) + 1) >= x0))
 (.at (.next ((x0, IntKind.u64.wrap (IntKind.u64.wrap (IntKind.u64.wrap (x1 * 2 ^ 1) + 1) - x0), IntKind.i64.wrap (x2 + 1), y0.1, y0.2.1, x5, x6, y1.1, IntKind.u64.wrap (y1.2.1 + 1)))))
 (.at (.next ((x0, IntKind.u64.wrap (IntKind.u64.wrap (x1 * 2 ^ 1) + 1), IntKind.i64.wrap (x2 + 1), y0.1, y0.2.1, x5, x6, y1.1, y1.2.1)))))
 (.no))
 (.no))
 (.bi (qe4 x3 x4) (fun y0 =>
 .bi (qe4 x7 x8) (fun y1 =>
 .br (decide (IntKind.u64.wrap (x1 * 2 ^ 1) >= x0))
 (.at (.next ((x0, IntKind.u64.wrap (IntKind.u64.wrap (x1 * 2 ^ 1) - x0), IntKind.i64.wrap (x2 + 1), y0.1, y0.2.1, x5, x6, y1.1, IntKind.u64.wrap (y1.2.1 + 1)))))
 (.at (.next ((x0, IntKind.u64.wrap (x1 * 2 ^ 1), IntKind.i64.wrap (x2 + 1), y0.1, y0.2.1, x5, x6, y1.1, y1.2.1)))))
 (.no))
 (.no)))
 (.at (.done 0))
def qmx : qes -> DT (Rd qes) := (fun v => qsC v.1 v.2.1 v.2.2.1 v.2.2.2.1 v.2.2.2.2.1 v.2.2.2.2.2.1 v.2.2.2.2.2.2.1 v.2.2.2.2.2.2.2.1 v.2.2.2.2.2.2.2.2)
def qwk (v : qes) : Option (Nat × qes) := qav (qaq (fun v => (qmx v).ev) v)
theorem qgX (v) : qwk v = qaq (fun v => (qmx v).ev) v := qaa _
def qFG : qb3 := LE (τ := qes) (hD qFe) (qwk) q3H
theorem q3a : Go.Eng.Told IP (qaf qYA 0).1 (qaf qYA 0).2 (qFG) := lp (inferInstance : Inhabited qes) (hs := qFe) qmx qtI qgX
abbrev qPe : Type := Int × Int × Int
def qR8 : PArgs := ⟨[.agg [.int .u64, .int .u64], .int .u64], []⟩
def qTb : List PRes := [⟨false, .tup [.agg [.int .u64, .int .u64], .int .u64], []⟩]
def qqV (x0 x1 x2 : Int) : DT qPe :=
 .bi (pj 0 (qwk (x2, 0, 0, x0, x1, 0, 0, 0, 0))) (fun y0 =>
 .at ((y0.2.2.2.2.2.2.2.1, y0.2.2.2.2.2.2.2.2, y0.2.1)))
 (.no)
def qrK (x0 x1 x2 : Int) : Option qPe := qav (qqV x0 x1 x2).ev
theorem qEG (x0 x1 x2) : qrK x0 x1 x2 = (qqV x0 x1 x2).ev := qaa _
theorem q0H : FH IP 124 qR8 qTb (k3 qrK) := qae (F := qYA) (L := [(1012400, qFG)]) (t := (k3 qqV)) qtI (qab (l := [qaf qYA 0]) (by kernel_rfl) ⟨qau (by kernel_rfl) q3a, trivial⟩) (by kernel_rfl) (fun v => by kernel_rfl) (fun _ => qaa _)
def q9s : Tab := (124, FE qR8 qTb (k3 qrK)) :: q9r
theorem qCJ : qai IP q9s := ⟨qah q0H, qtI⟩
abbrev qBQ : Type := Int × Int × Int × Int
def qHk : PArgs := ⟨[.agg [.int .i64, .int .u64], .int .i64], []⟩
def qIV : List PRes := [⟨false, .tup [.agg [.int .i64, .int .u64], .int .i64, .int .i64], []⟩]
def qj7 (x0 x1 x2 : Int) : DT qBQ :=
 .br (decide (x2 < 1))
 (.at ((0, 0, 0, 1)))
 (.bi (qdT x0 x1) (fun y0 =>
 .bi (qrK y0.2.1 y0.2.2 (IntKind.u64.wrap x2)) (fun y1 =>
 .bi (br y0.1 (some (decide (y1.2.2 > 0))) (some false)) (fun y2 =>
 .br (y2)
 (.bi (qeK y1.1 y1.2.1 0 1) (fun y3 =>
 .bi (qdU y0.1 y3.1 y3.2.1) (fun y4 =>
 .at ((y4.1, y4.2.1, IntKind.i64.wrap (IntKind.u64.wrap (IntKind.u64.wrap x2 - y1.2.2)), 0)))
 (.no))
 (.no))
 (.bi (qdU y0.1 y1.1 y1.2.1) (fun y3 =>
 .at ((y3.1, y3.2.1, IntKind.i64.wrap y1.2.2, 0)))
 (.no)))
 (.no))
 (.no))
 (.no))
def qlg (x0 x1 x2 : Int) : Option qBQ := qav (qj7 x0 x1 x2).ev
theorem qyP (x0 x1 x2) : qlg x0 x1 x2 = (qj7 x0 x1 x2).ev := qaa _
theorem qVB : FH IP 100 qHk qIV (k3 qlg) := fh q5g (k3 qj7) qCJ
def q9t : Tab := (100, FE qHk qIV (k3 qlg)) :: q9s
theorem qCK : qai IP q9t := ⟨qah qVB, qCJ⟩
abbrev qB2 : Type := Bool
def qHw : PArgs := ⟨[.bool, .bool, .int .i64, .int .i64, .int .i64], []⟩
def qI7 : List PRes := [⟨false, .bool, []⟩]
def qhw (x0 x1 : Bool) (x2 x3 x4 : Int) : DT qB2 :=
 .br (x4 == 1)
 (.at (x0))
 (.br (x4 == 2)
 (.at (!x0))
 (.br (x4 == 3)
 (.at (false))
 (.br (x4 == 4)
 (.at (true))
 (.br (x2 != IntKind.i64.wrap (x3 - x2))
 (.at (decide (x2 > IntKind.i64.wrap (x3 - x2))))
 (.br (x4 == 5) (.at (!x0)) (.at (x1)))))))
def qfc (x0 x1 : Bool) (x2 x3 x4 : Int) : Option qB2 := qav (qhw x0 x1 x2 x3 x4).ev
theorem qnP (x0 x1 x2 x3 x4) : qfc x0 x1 x2 x3 x4 = (qhw x0 x1 x2 x3 x4).ev := qaa _
theorem qVN : FH IP 101 qHw qI7 (k5 qfc) := fh q5h (k5 qhw) qCK
def q9u : Tab := (101, FE qHw qI7 (k5 qfc)) :: q9t
theorem qCL : qai IP q9u := ⟨qah qVN, qCK⟩
abbrev qA0 : Type := Int × Int
def qGr : PArgs := ⟨[.agg [.int .i64, .int .u64], .int .i64, .int .i64], []⟩
def qH2 : List PRes := [⟨false, .tup [.int .i64, .int .i64], []⟩]
def qjl (x0 x1 : Int) (x2 x3 : Int) : DT qA0 :=
 .bi (br (decide (x2 < 1)) (some true) (br (sm (qe8 x3)) (some !gv (qe8 x3)) none)) (fun y0 =>
 .br (y0)
 (.at ((0, 1)))
 (.bi (qlg x0 x1 x2) (fun y1 =>
 .bi (br (decide (y1.2.2.1 > 0))
 (br (sm (qfc (decide (x0 < 0)) (y1.2.1.tmod 2 == 1) y1.2.2.1 x2 x3)) (some (gv (qfc (decide (x0 < 0)) (y1.2.1.tmod 2 == 1) y1.2.2.1 x2 x3))) none)
 (some false)) (fun y2 =>
 .br (y2)
 (.bi (qbD 1) (fun y3 =>
 .bi (qhV y1.1 y1.2.1 y3.1 y3.2) (fun y4 =>
 .bi (qgx y4.1 y4.2.1) (fun y5 =>
 .br (!y5.2) (.at ((0, 6))) (.at ((y5.1, 0))))
 (.no))
 (.no))
 (.no))
 (.bi (qgx y1.1 y1.2.1) (fun y3 =>
 .br (!y3.2) (.at ((0, 6))) (.at ((y3.1, 0))))
 (.no)))
 (.no))
 (.no)))
 (.no)
def qdf (x0 x1 : Int) (x2 x3 : Int) : Option qA0 := qav (qjl x0 x1 x2 x3).ev
theorem qxZ (x0 x1 x2 x3) : qdf x0 x1 x2 x3 = (qjl x0 x1 x2 x3).ev := qaa _
theorem qUy : FH IP 68 qGr qH2 (k4 qdf) := fh F68 (k4 qjl) qCL
def q9v : Tab := (68, FE qGr qH2 (k4 qdf)) :: q9u
theorem qCM : qai IP q9v := ⟨qah qUy, qCL⟩
abbrev qAQ : Type := Int × Int × Int
def qGh : PArgs := ⟨[.int .i64, .agg [.int .i64, .int .i64], .agg [.int .i64, .int .i64]], []⟩
def qHS : List PRes := [⟨false, .tup [.agg [.int .i64, .int .i64], .int .i64], []⟩]
def qjc (x0 x1 : Int) (x2 x3 x4 : Int) : DT qAQ :=
 .bi (qlh x2 x4) (fun y0 =>
 .bi (br (IntKind.i64.wrap (x1 + x3) != 5) (some true) (some (x1 == x3))) (fun y1 =>
 .br (y1)
 (.bi (qcb x0 y0.1 y0.2) (fun y2 =>
 .at ((y2.1, y2.2.1, y2.2.2)))
 (.no))
 (.bi (qdf y0.1 y0.2 1000000 6) (fun y2 =>
 .bi (qbD y2.1) (fun y3 =>
 .bi (qcb x0 y3.1 y3.2) (fun y4 =>
 .at ((y4.1, y4.2.1, y4.2.2)))
 (.no))
 (.no))
 (.no)))
 (.no))
 (.no)
def qkL (x0 x1 : Int) (x2 x3 x4 : Int) : Option qAQ := qav (qjc x0 x1 x2 x3 x4).ev
theorem qxP (x0 x1 x2 x3 x4) : qkL x0 x1 x2 x3 x4 = (qjc x0 x1 x2 x3 x4).ev := qaa _
theorem qUn : FH IP 32 qGh qHS (k5 qkL) := fh F32 (k5 qjc) qCM
def q9w : Tab := (32, FE qGh qHS (k5 qkL)) :: q9v
theorem qCN : qai IP q9w := ⟨qah qUn, qCM⟩
abbrev qPk : Type := Int × Int × Int
def qSe : PArgs := ⟨[.int .i64, .agg [.int .i64, .int .i64], .agg [.int .i64, .int .i64]], []⟩
def qTh : List PRes := [⟨false, .tup [.agg [.int .i64, .int .i64], .int .i64], []⟩]
def qq1 (x0 x1 : Int) (x2 x3 x4 : Int) : DT qPk :=
 .br (x4 == 0)
 (.at ((0, 0, 7)))
 (.bi (br (x4 == -9223372036854775808) (some (x0 != 1)) (some false)) (fun y0 =>
 .br (y0)
 (.at ((x0, 0, 0)))
 (.br (x4 == -9223372036854775808)
 (.br (x2 == x4) (.at ((x0, 1, 0))) (.at ((x0, 0, 0))))
 (.bi (qbD x2) (fun y1 =>
 .br (decide (x4 < 0))
 (.bi (qgy 0 0 y1.1 y1.2) (fun y2 =>
 .br (x0 == 1)
 (.bi (qdf y2.1 y2.2.1 (IntKind.i64.wrap (0 - x4)) 1) (fun y3 =>
 .br (y3.2 != 0)
 (.at ((0, 0, 6)))
 (.bi (qbD y3.1) (fun y4 =>
 .bi (qcb x0 y4.1 y4.2) (fun y5 =>
 .at ((y5.1, y5.2.1, y5.2.2)))
 (.no))
 (.no)))
 (.no))
 (.bi (qdf y2.1 y2.2.1 (IntKind.i64.wrap (0 - x4)) 6) (fun y3 =>
 .br (y3.2 != 0)
 (.at ((0, 0, 6)))
 (.bi (qbD y3.1) (fun y4 =>
 .bi (qcb x0 y4.1 y4.2) (fun y5 =>
 .at ((y5.1, y5.2.1, y5.2.2)))
 (.no))
 (.no)))
 (.no)))
 (.no))
 (.br (x0 == 1)
 (.bi (qdf y1.1 y1.2 x4 1) (fun y2 =>
 .br (y2.2 != 0)
 (.at ((0, 0, 6)))
 (.bi (qbD y2.1) (fun y3 =>
 .bi (qcb x0 y3.1 y3.2) (fun y4 =>
 .at ((y4.1, y4.2.1, y4.2.2)))
 (.no))
 (.no)))
 (.no))
 (.bi (qdf y1.1 y1.2 x4 6) (fun y2 =>
 .br (y2.2 != 0)
 (.at ((0, 0, 6)))
 (.bi (qbD y2.1) (fun y3 =>
 .bi (qcb x0 y3.1 y3.2) (fun y4 =>
 .at ((y4.1, y4.2.1, y4.2.2)))
 (.no))
 (.no)))
 (.no))))
 (.no))))
 (.no))
def qrM (x0 x1 : Int) (x2 x3 x4 : Int) : Option qPk := qav (qq1 x0 x1 x2 x3 x4).ev
theorem qEM (x0 x1 x2 x3 x4) : qrM x0 x1 x2 x3 x4 = (qq1 x0 x1 x2 x3 x4).ev := qaa _
theorem q0N : FH IP 33 qSe qTh (k5 qrM) := fh F33 (k5 qq1) qCN
def q9x : Tab := (33, FE qSe qTh (k5 qrM)) :: q9w
theorem qCO : qai IP q9x := ⟨qah q0N, qCN⟩
abbrev qA5 : Type := Int × Int
def qGw : PArgs := ⟨[.int .i64, .view 2], []⟩
def qH7 : List PRes := [⟨false, .agg [.int .i64, .int .i64], []⟩]
def qhr (x0 : Int) (x1 : List AV) : DT qA5 :=
 .br (x0 == 19)
 (.br (qay [.int .i64, .int .i64] x1 0)
 (.br (intOf (cellAt x1 0 1) == 1)
 (.br (qay [.int .i64, .int .i64] x1 1) (.at ((intOf (cellAt x1 1 0), intOf (cellAt x1 1 1)))) (.no))
 (.br (qay [.int .i64, .int .i64] x1 2) (.at ((intOf (cellAt x1 2 0), intOf (cellAt x1 2 1)))) (.no)))
 (.no))
 (.br (qay [.int .i64, .int .i64] x1 0)
 (.br (qay [.int .i64, .int .i64] x1 1)
 (.br (if false = true then !decide (intOf (cellAt x1 0 1) < intOf (cellAt x1 1 1)) == (x0 == 17) else decide (intOf (cellAt x1 0 1) < intOf (cellAt x1 1 1)) == (x0 == 17))
 (.br (qay [.int .i64, .int .i64] x1 0) (.at ((intOf (cellAt x1 0 0), intOf (cellAt x1 0 1)))) (.no))
 (.br (qay [.int .i64, .int .i64] x1 1) (.at ((intOf (cellAt x1 1 0), intOf (cellAt x1 1 1)))) (.no)))
 (.no))
 (.no))
def qeJ (x0 : Int) (x1 : List AV) : Option qA5 := qav (qhr x0 x1).ev
theorem qnI (x0 x1) : qeJ x0 x1 = (qhr x0 x1).ev := qaa _
theorem qUD : FH IP 34 qGw qH7 (k2 qeJ) := fh F34 (k2 qhr) qCO
def q9y : Tab := (34, FE qGw qH7 (k2 qeJ)) :: q9x
theorem qCP : qai IP q9y := ⟨qah qUD, qCO⟩
abbrev qBt : Type := Int × Int
def qGV : PArgs := ⟨[.bool], []⟩
def qIw : List PRes := [⟨false, .agg [.int .i64, .int .i64], []⟩]
def qjK (x0 : Bool) : DT qBt :=
 .br (x0) (.at ((5, 1))) (.at ((5, 0)))
def qdh (x0 : Bool) : Option qBt := qav (qjK x0).ev
theorem qys (x0) : qdh x0 = (qjK x0).ev := qaa _
theorem qU9 : FH IP 69 qGV qIw qdh := fh F69 qjK qCP
def q9z : Tab := (69, FE qGV qIw qdh) :: q9y
theorem qCQ : qai IP q9z := ⟨qah qU9, qCP⟩
abbrev qAP : Type := Int × Int
def qGg : PArgs := ⟨[.int .i64, .view 2], []⟩
def qHR : List PRes := [⟨false, .agg [.int .i64, .int .i64], []⟩]
def qhq (x0 : Int) (x1 : List AV) : DT qAP :=
 .br (qay [.int .i64, .int .i64] x1 0)
 (.br (qay [.int .i64, .int .i64] x1 (IntKind.i64.wrap ((x1.length : Int) - 1)))
 (.br (x0 == 10)
 (.bi (qdh (intOf (cellAt x1 0 1) == intOf (cellAt x1 (IntKind.i64.wrap ((x1.length : Int) - 1)) 1))) (fun y0 =>
 .at ((y0.1, y0.2)))
 (.no))
 (.br (x0 == 11)
 (.bi (qdh (intOf (cellAt x1 0 1) != intOf (cellAt x1 (IntKind.i64.wrap ((x1.length : Int) - 1)) 1))) (fun y0 =>
 .at ((y0.1, y0.2)))
 (.no))
 (.br (x0 == 12)
 (.bi (qdh (decide (intOf (cellAt x1 0 1) < intOf (cellAt x1 (IntKind.i64.wrap ((x1.length : Int) - 1)) 1)))) (fun y0 =>
 .at ((y0.1, y0.2)))
 (.no))
 (.br (x0 == 13)
 (.bi (qdh (decide (intOf (cellAt x1 0 1) <= intOf (cellAt x1 (IntKind.i64.wrap ((x1.length : Int) - 1)) 1)))) (fun y0 =>
 .at ((y0.1, y0.2)))
 (.no))
 (.br (x0 == 14)
 (.bi (br (intOf (cellAt x1 0 1) == 1) (some (intOf (cellAt x1 (IntKind.i64.wrap ((x1.length : Int) - 1)) 1) == 1)) (some false)) (fun y0 =>
 .bi (qdh y0) (fun y1 =>
 .at ((y1.1, y1.2)))
 (.no))
 (.no))
 (.br (x0 == 15)
 (.bi (br (intOf (cellAt x1 0 1) == 1) (some true) (some (intOf (cellAt x1 (IntKind.i64.wrap ((x1.length : Int) - 1)) 1) == 1))) (fun y0 =>
 .bi (qdh y0) (fun y1 =>
 .at ((y1.1, y1.2)))
 (.no))
 (.no))
 (.bi (qdh (intOf (cellAt x1 0 1) == 0)) (fun y0 =>
 .at ((y0.1, y0.2)))
 (.no))))))))
 (.no))
 (.no)
def qeE (x0 : Int) (x1 : List AV) : Option qAP := qav (qhq x0 x1).ev
theorem qnH (x0 x1) : qeE x0 x1 = (qhq x0 x1).ev := qaa _
theorem qUm : FH IP 35 qGg qHR (k2 qeE) := fh F35 (k2 qhq) qCQ
def q9A : Tab := (35, FE qGg qHR (k2 qeE)) :: q9z
theorem qCR : qai IP q9A := ⟨qah qUm, qCQ⟩
abbrev qtw : Type := Int × Int × Int
def qGT : PArgs := ⟨[.int .i64, .view 2], []⟩
def qIu : List PRes := [⟨false, .tup [.agg [.int .i64, .int .i64], .int .i64], []⟩]
def qpJ (op : Int) (x : List AV) (t : Int) : DT qtw :=
 .br (qay [.int .i64, .int .i64] x 0)
 (.bi (qbD (intOf (cellAt x 0 1))) (fun y4 =>
 .br (qay [.int .i64, .int .i64] x (IntKind.i64.wrap ((x.length : Int) - 1)))
 (.bi (qbD (intOf (cellAt x (IntKind.i64.wrap ((x.length : Int) - 1)) 1))) (fun y5 =>
 .br (op == 5)
 (.bi (qhV y4.1 y4.2 y5.1 y5.2) (fun y6 =>
 .bi (qcb t y6.1 y6.2.1) (fun y7 =>
 .at ((y7.1, y7.2.1, y7.2.2)))
 (.no))
 (.no))
 (.br (op == 6)
 (.bi (qgy y4.1 y4.2 y5.1 y5.2) (fun y6 =>
 .bi (qcb t y6.1 y6.2.1) (fun y7 =>
 .at ((y7.1, y7.2.1, y7.2.2)))
 (.no))
 (.no))
 (.br (op == 9)
 (.bi (qgy 0 0 y4.1 y4.2) (fun y6 =>
 .bi (qcb t y6.1 y6.2.1) (fun y7 =>
 .at ((y7.1, y7.2.1, y7.2.2)))
 (.no))
 (.no))
 (.br (op == 7)
 (.br (qay [.int .i64, .int .i64] x 0)
 (.br (qay [.int .i64, .int .i64] x 1)
 (.bi (qkL t (intOf (cellAt x 0 0)) (intOf (cellAt x 0 1)) (intOf (cellAt x 1 0)) (intOf (cellAt x 1 1))) (fun y6 =>
 .at ((y6.1, y6.2.1, y6.2.2)))
 (.no))
 (.no))
 (.no))
 (.br (op == 8)
 (.br (qay [.int .i64, .int .i64] x 0)
 (.br (qay [.int .i64, .int .i64] x 1)
 (.bi (qrM t (intOf (cellAt x 0 0)) (intOf (cellAt x 0 1)) (intOf (cellAt x 1 0)) (intOf (cellAt x 1 1))) (fun y6 =>
 .at ((y6.1, y6.2.1, y6.2.2)))
 (.no))
 (.no))
 (.no))
 (.br (op == 17)
 (.br (op == 17)
 (.bi (qeJ op x) (fun y6 =>
 .at ((y6.1, y6.2, 0)))
 (.no))
 (.bi (qeE op x) (fun y6 =>
 .at ((y6.1, y6.2, 0)))
 (.no)))
 (.br (op == 18)
 (.br (op == 18)
 (.bi (qeJ op x) (fun y6 =>
 .at ((y6.1, y6.2, 0)))
 (.no))
 (.bi (qeE op x) (fun y6 =>
 .at ((y6.1, y6.2, 0)))
 (.no)))
 (.br (op == 19)
 (.bi (qeJ op x) (fun y6 =>
 .at ((y6.1, y6.2, 0)))
 (.no))
 (.bi (qeE op x) (fun y6 =>
 .at ((y6.1, y6.2, 0)))
 (.no))))))))))
 (.no))
 (.no))
 (.no))
 (.no)
def qhu (x0 : Int) (x1 : List AV) : DT qtw :=
 .bi (pj 0 (qh3 (Sum.inl (x0, x1, 0, 0, 0)))) (fun y0 =>
 .bi (qbU (sl y0).1 []) (fun y1 =>
 .bi (br (!y1.2) (some true) (some (((sl y0).2.1.length : Int) == 0))) (fun y2 =>
 .br (y2)
 (.at ((0, 0, 3)))
 (.bi (pj 0 (qeM ((sl y0).1, (sl y0).2.1, y1.1, 0, (sl y0).2.2.2.1, (sl y0).2.2.2.2))) (fun y3 =>
 .at ((0, 0, 1)))
 (.bi (pj 1 (qeM ((sl y0).1, (sl y0).2.1, y1.1, 0, (sl y0).2.2.2.1, (sl y0).2.2.2.2))) (fun y3 =>
 (qpJ y3.1 y3.2.1 y3.2.2.1))
 (.no))))
 (.no))
 (.no))
 (.bi (pj 1 (qh3 (Sum.inl (x0, x1, 0, 0, 0)))) (fun y0 =>
 .bi (qbU (sr y0).1 (sr y0).2.2.2.2.2) (fun y1 =>
 .bi (br (!y1.2) (some true) (some (((sr y0).2.1.length : Int) == 0))) (fun y2 =>
 .br (y2)
 (.at ((0, 0, 3)))
 (.bi (pj 0 (qeM ((sr y0).1, (sr y0).2.1, y1.1, 0, (sr y0).2.2.2.1, (sr y0).2.2.2.2.1))) (fun y3 =>
 .at ((0, 0, 1)))
 (.bi (pj 1 (qeM ((sr y0).1, (sr y0).2.1, y1.1, 0, (sr y0).2.2.2.1, (sr y0).2.2.2.2.1))) (fun y3 =>
 (qpJ y3.1 y3.2.1 y3.2.2.1))
 (.no))))
 (.no))
 (.no))
 (.no))
def qbt (x0 : Int) (x1 : List AV) : Option qtw := qav (qhu x0 x1).ev
theorem qnL (x0 x1) : qbt x0 x1 = (qhu x0 x1).ev := qaa _
theorem qU7 : FH IP 11 qGT qIu (k2 qbt) := qae (F := F11) (L := [(1001100, qwC), (1001101, qwD)]) (t := (k2 qhu)) qCR (qab (l := [qaf F11 0, qaf F11 1]) (by kernel_rfl) ⟨qau (by kernel_rfl) qWH, qau (by kernel_rfl) qWI, trivial⟩) (by kernel_rfl) (fun v => by kernel_rfl) (fun _ => qaa _)
def q9B : Tab := (11, FE qGT qIu (k2 qbt)) :: q9A
theorem qCS : qai IP q9B := ⟨qah qU7, qCR⟩
abbrev qc1 : Type := List UInt8 × Int
def qv5 : List PSt := [⟨[(1010200, .junk), (0, .str), (3, .int .i64)], [], 0, 0⟩]
def qKp (x0 : List UInt8) (x1 : Int) : X × St := (.ret, ⟨[(2, .bool false)], [], 0, 0⟩)
def qKq (x0 : List UInt8) (x1 : Int) : X × St := (.exit 0, ⟨[(2, .junk)], [], 0, 0⟩)
def qXp : List (qc1 -> X × St) := [(k2 qKp), (k2 qKq)]
def qiq (x0 : List UInt8) (x1 : Int) : DT (Rd qc1) :=
 .br (decide (x1 < (x0.length : Int)))
 (.br (inB x0.length x1)
 (.bi (br (decide (qaI x0 x1 < 97)) (some true) (br (inB x0.length x1) (some (decide (qaI x0 x1 > 122))) none)) (fun y0 =>
 .bi (br y0 (br (inB x0.length x1) (br (decide (qaI x0 x1 < 48)) (some true) (br (inB x0.length x1) (some (decide (qaI x0 x1 > 57))) none)) none) (some false)) (fun y1 =>
 .bi (br y1 (br (inB x0.length x1) (some (qaI x0 x1 != 95)) none) (some false)) (fun y2 =>
 .br (y2) (.at (.done 0)) (.at (.next ((x0, IntKind.i64.wrap (x1 + 1))))))
 (.no))
 (.no))
 (.no))
 (.no))
 (.at (.done 1))
def qhe : qc1 -> DT (Rd qc1) := (fun v => qiq v.1 v.2)
def qly (v : qc1) : Option (Nat × qc1) := qav (qaq (fun v => (qhe v).ev) v)
theorem qom (v) : qly v = qaq (fun v => (qhe v).ev) v := qaa _
def qwJ : qb3 := LE (τ := qc1) (hD qv5) (qly) qXp
theorem qWO : Go.Eng.Told IP (qaf qYt 0).1 (qaf qYt 0).2 (qwJ) := lp (inferInstance : Inhabited qc1) (hs := qv5) qhe qCS qom
abbrev qBA : Type := Bool
def qG3 : PArgs := ⟨[.str], []⟩
def qIE : List PRes := [⟨false, .bool, []⟩]
def qjR (x0 : List UInt8) : DT qBA :=
 .bi (br (decide ((x0.length : Int) < 1)) (some true) (some (decide ((x0.length : Int) > 16)))) (fun y0 =>
 .bi (br y0 (some true) (br (inB x0.length 0) (some (decide (qaI x0 0 < 97))) none)) (fun y1 =>
 .bi (br y1 (some true) (br (inB x0.length 0) (some (decide (qaI x0 0 > 122))) none)) (fun y2 =>
 .br (y2)
 (.at (false))
 (.bi (pj 0 (qly (x0, 0))) (fun y3 =>
 .at (false))
 (.bi (pj 1 (qly (x0, 0))) (fun y3 =>
 .at (true))
 (.no))))
 (.no))
 (.no))
 (.no)
def qk5 (x0 : List UInt8) : Option qBA := qav (qjR x0).ev
theorem qyz (x0) : qk5 x0 = (qjR x0).ev := qaa _
theorem qVk : FH IP 102 qG3 qIE qk5 := qae (F := qYt) (L := [(1010200, qwJ)]) (t := qjR) qCS (qab (l := [qaf qYt 0]) (by kernel_rfl) ⟨qau (by kernel_rfl) qWO, trivial⟩) (by kernel_rfl) (fun v => by kernel_rfl) (fun _ => qaa _)
def q9F : Tab := (102, FE qG3 qIE qk5) :: q9B
theorem qCW : qai IP q9F := ⟨qah qVk, qCS⟩
abbrev qBp : Type := List AV
def qGQ : PArgs := ⟨[], []⟩
def qIr : List PRes := [⟨false, .view 1, []⟩]
def qjG : DT qBp :=
 .at ([AV.str [112, 114, 111, 100, 117, 99, 116], AV.str [99, 117, 114, 114, 101, 110, 99, 121],
 AV.str [99, 97, 108, 101, 110, 100, 97, 114], AV.str [102, 114, 111, 109],
 AV.str [101, 118, 101, 114, 121], AV.str [111, 118, 101, 114, 100, 114, 97, 102, 116],
 AV.str [116, 97, 120], AV.str [99, 114, 101, 100, 105, 116], AV.str [100, 101, 98, 105, 116],
 AV.str [109, 97, 114, 103, 105, 110, 97, 108], AV.str [119, 104, 111, 108, 101],
 AV.str [97, 99, 116, 51, 54, 48], AV.str [97, 99, 116, 51, 54, 53], AV.str [97, 99, 116, 117, 97, 108],
 AV.str [116, 104, 105, 114, 116, 121], AV.str [100, 111, 119, 110], AV.str [117, 112],
 AV.str [102, 108, 111, 111, 114], AV.str [99, 101, 105, 108], AV.str [104, 97, 108, 102, 95, 117, 112],
 AV.str [104, 97, 108, 102, 95, 101, 118, 101, 110], AV.str [107, 101, 101, 112],
 AV.str [100, 114, 111, 112], AV.str [102, 101, 101], AV.str [108, 105, 109, 105, 116],
 AV.str [119, 104, 101, 110], AV.str [97, 109, 111, 117, 110, 116, 95, 111, 102],
 AV.str [115, 105, 110, 103, 108, 101], AV.str [100, 97, 105, 108, 121],
 AV.str [109, 111, 110, 116, 104, 108, 121], AV.str [109, 111, 110, 116, 104],
 AV.str [114, 101, 116, 117, 114, 110], AV.str [99, 108, 111, 115, 101],
 AV.str [101, 118, 101, 110, 116], AV.str [105, 102], AV.str [116, 104, 101, 110],
 AV.str [101, 108, 115, 101], AV.str [97, 110, 100], AV.str [111, 114],
 AV.str [110, 111, 116], AV.str [109, 105, 110], AV.str [109, 97, 120]])
def qkZ : Option qBp := qav (qjG).ev
theorem qyo : qkZ = (qjG).ev := qaa _
theorem qU0 : FH IP 125 qGQ qIr (fun _ => qkZ) := qae (F := q5t) (L := []) (t := (fun _ => qjG)) qCW (qab (l := []) (by kernel_rfl) trivial) (by kernel_rfl) (fun v => by kernel_rfl) (fun _ => qaa _)
def q9G : Tab := (125, FE qGQ qIr (fun _ => qkZ)) :: q9F
theorem qtK : qai IP q9G := ⟨qah qU0, qCW⟩
abbrev qc2 : Type := List UInt8 × List AV × Int
def qv6 : List PSt := [⟨[(1010300, .junk), (0, .str), (3, .view 1), (4, .int .i64)], [], 0, 0⟩]
def qKr (x0 : List UInt8) (x1 : List AV) (x2 : Int) : X × St := (.ret, ⟨[(2, .bool true)], [], 0, 0⟩)
def qKs (x0 : List UInt8) (x1 : List AV) (x2 : Int) : X × St := (.exit 0, ⟨[(2, .junk)], [], 0, 0⟩)
def qXq : List (qc2 -> X × St) := [(k3 qKr), (k3 qKs)]
def qir (x0 : List UInt8) (x1 : List AV) (x2 : Int) : DT (Rd qc2) :=
 .br (decide (x2 < (x1.length : Int)))
 (.br (qay [.str] x1 x2)
 (.br (strOf (cellAt x1 x2 0) == x0) (.at (.done 0)) (.at (.next ((x0, x1, IntKind.i64.wrap (x2 + 1))))))
 (.no))
 (.at (.done 1))
def qhf : qc2 -> DT (Rd qc2) := (fun v => qir v.1 v.2.1 v.2.2)
def qlz (v : qc2) : Option (Nat × qc2) := qav (qaq (fun v => (qhf v).ev) v)
theorem qon (v) : qlz v = qaq (fun v => (qhf v).ev) v := qaa _
def qwK : qb3 := LE (τ := qc2) (hD qv6) (qlz) qXq
theorem qWP : Go.Eng.Told IP (qaf qYu 0).1 (qaf qYu 0).2 (qwK) := lp (inferInstance : Inhabited qc2) (hs := qv6) qhf qtK qon
abbrev qBB : Type := Bool
def qG4 : PArgs := ⟨[.str], []⟩
def qIF : List PRes := [⟨false, .bool, []⟩]
def qjS (x0 : List UInt8) : DT qBB :=
 .bi (qkZ) (fun y0 =>
 .bi (pj 0 (qlz (x0, y0, 0))) (fun y1 =>
 .at (true))
 (.bi (pj 1 (qlz (x0, y0, 0))) (fun y1 =>
 .at (false))
 (.no)))
 (.no)
def qhO (x0 : List UInt8) : Option qBB := qav (qjS x0).ev
theorem qyA (x0) : qhO x0 = (qjS x0).ev := qaa _
theorem qVl : FH IP 103 qG4 qIF qhO := qae (F := qYu) (L := [(1010300, qwK)]) (t := qjS) qtK (qab (l := [qaf qYu 0]) (by kernel_rfl) ⟨qau (by kernel_rfl) qWP, trivial⟩) (by kernel_rfl) (fun v => by kernel_rfl) (fun _ => qaa _)
def q9H : Tab := (103, FE qG4 qIF qhO) :: q9G
theorem qCX : qai IP q9H := ⟨qah qVl, qtK⟩
end
end Go.Proofs.H13

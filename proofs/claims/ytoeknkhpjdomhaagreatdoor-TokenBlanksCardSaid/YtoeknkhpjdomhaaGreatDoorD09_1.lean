/- Functions over plain data. Printed by a program of mine. -/
import Derived.Test.YtoeknkhpjdomhaaGreatDoorE3
import Derived.Test.YtoeknkhpjdomhaaGreatDoorIP09
import Derived.KernelRfl
set_option linter.unusedVariables false
set_option linter.unusedSimpArgs false
set_option linter.unnecessarySimpa false
namespace Go.Proofs.H09
open Go Go.Eng
set_option maxRecDepth 100000
noncomputable section
abbrev k2 {a0 a1 r : Type} (f : a0 → a1 → r) (v : a0 × a1) : r := f v.1 v.2
abbrev k3 {a0 a1 a2 r : Type} (f : a0 → a1 → a2 → r) (v : a0 × a1 × a2) : r := f v.1 v.2.1 v.2.2
abbrev k4 {a0 a1 a2 a3 r : Type} (f : a0 → a1 → a2 → a3 → r) (v : a0 × a1 × a2 × a3) : r := f v.1 v.2.1 v.2.2.1 v.2.2.2
abbrev k5 {a0 a1 a2 a3 a4 r : Type} (f : a0 → a1 → a2 → a3 → a4 → r) (v : a0 × a1 × a2 × a3 × a4) : r := f v.1 v.2.1 v.2.2.1 v.2.2.2.1 v.2.2.2.2
abbrev k6 {a0 a1 a2 a3 a4 a5 r : Type} (f : a0 → a1 → a2 → a3 → a4 → a5 → r) (v : a0 × a1 × a2 × a3 × a4 × a5) : r := f v.1 v.2.1 v.2.2.1 v.2.2.2.1 v.2.2.2.2.1 v.2.2.2.2.2
abbrev k7 {a0 a1 a2 a3 a4 a5 a6 r : Type} (f : a0 → a1 → a2 → a3 → a4 → a5 → a6 → r) (v : a0 × a1 × a2 × a3 × a4 × a5 × a6) : r := f v.1 v.2.1 v.2.2.1 v.2.2.2.1 v.2.2.2.2.1 v.2.2.2.2.2.1 v.2.2.2.2.2.2
def T0 : Tab := [(27, qgD), (50, qer), (97, qzc), (80, qgc 102), (42, qkW 102), (46, qg0), (47, qh4), (84, qg9), (18, qze)]
theorem qz3 : qaz IP T0 := ⟨qE0, qE4, qE7, qE5, qE1, qE2, qE3, qE6, qEZ, trivial⟩
abbrev qvy : Type := Bool
def qxh : PArgs := ⟨[.int .i32], []⟩
def qx3 : List PRes := [⟨false, .bool, []⟩]
def qka (x0 : Int) : DT qvy :=
 .at (x0 != 10)
def qiq (x0 : Int) : Option qvy := qaZ (qka x0).ev
theorem qqA (x0 : Int) : qiq x0 = (qka x0).ev := qab _
theorem qAm : FH IP 51 qxh qx3 qiq := qap (F := F51) (L := []) (t := qka) qz3 (qaf (l := []) (by kernel_rfl) trivial) (by kernel_rfl) (fun v => by kernel_rfl) (fun _ => qab _)
def T1 : Tab := (51, FE qxh qx3 qiq) :: T0
theorem qyN : qaz IP T1 := ⟨qaG qAm, qz3⟩
abbrev qcY : Type := List UInt8 × Int
def qrx : List PSt := [⟨[(1004000, .junk), (0, .str), (1, .fn (.func 51) []), (5, .int .i64)], [], 0, 0⟩]
def quY (x0 : List UInt8) (x1 : Int) : X × St := (X.exit 0, ⟨[(0, AV.str x0), (5, AV.int IntKind.i64 x1)], [], 0, 0⟩)
def qCy : List (qcY → X × St) := [(k2 quY)]
def qhC (x0 : List UInt8) (x1 : Int) : DT (Rd qcY) :=
 .bi (br (decide (x1 < (x0.length : Int)))
 (br (inB x0.length x1) (br (sm (qiq (IntKind.i32.wrap (qad x0 x1)))) (some (gv (qiq (IntKind.i32.wrap (qad x0 x1))))) none) none) (some false)) (fun y0 =>
 .br (y0) (.at (.next ((x0, IntKind.i64.wrap (x1 + 1))))) (.at (.done 0)))
 (.no)
def qhB : qcY → DT (Rd qcY) := (fun v => qhC v.1 v.2)
def qnn (v : qcY) : Option (Nat × qcY) := qaZ (qav (fun v => (qhB v).ev) v)
theorem qlr (v : qcY) : qnn v = qav (fun v => (qhB v).ev) v := qab _
def qr5 : qeo := LE (τ := qcY) (hD qrx) (qnn) qCy
theorem qB3 : Go.Eng.Told IP (qae F40 0).1 (qae F40 0).2 (qr5) := qaK (inferInstance : Inhabited qcY) (hs := qrx) (st := qhB) (L := []) qyN (qaf (l := []) (by kernel_rfl) trivial) (qlr) (fun v => by kernel_rfl) (fun v => by kernel_rfl)
abbrev qvJ : Type := List UInt8
def qxt : PArgs := ⟨[.str, .fn (.func 51) []], []⟩
def qyf : List PRes := [⟨false, .str, []⟩]
def qkm (x0 : List UInt8) : DT qvJ :=
 .bi (pj 0 (qnn (x0, 0))) (fun y0 =>
 .br (leB y0.2 y0.1.length && true) (.at (List.take y0.2.toNat y0.1)) (.no))
 (.no)
def qgL (x0 : List UInt8) : Option qvJ := qaZ (qkm x0).ev
theorem qqO (x0 : List UInt8) : qgL x0 = (qkm x0).ev := qab _
theorem qAy : FH IP 40 qxt qyf qgL := qap (F := F40) (L := [(1004000, qr5)]) (t := qkm) qyN (qaf (l := [qae F40 0]) (by kernel_rfl) ⟨qaL (by kernel_rfl) qB3, trivial⟩) (by kernel_rfl) (fun v => by kernel_rfl) (fun _ => qab _)
def T2 : Tab := (40, FE qxt qyf qgL) :: T1
theorem qyO : qaz IP T2 := ⟨qaG qAy, qyN⟩
abbrev qcX : Type := List UInt8 × Int
def qrw : List PSt := [⟨[(1002600, .junk), (0, .str), (3, .int .i64)], [], 0, 0⟩]
def quW (x0 : List UInt8) (x1 : Int) : X × St := (X.ret, ⟨[(2, AV.int IntKind.i64 x1), (3, AV.int IntKind.i64 x1)], [], 0, 0⟩)
def quX (x0 : List UInt8) (x1 : Int) : X × St := (X.exit 0, ⟨[(2, AV.junk), (3, AV.int IntKind.i64 x1)], [], 0, 0⟩)
def qCx : List (qcX → X × St) := [(k2 quW), (k2 quX)]
def qhA (x0 : List UInt8) (x1 : Int) : DT (Rd qcX) :=
 .br (decide (x1 < (x0.length : Int)))
 (.br (inB x0.length x1)
 (.br (qad x0 x1 == 32)
 (.br (qad x0 x1 == 32)
 (.at (.next ((x0, IntKind.i64.wrap (x1 + 1)))))
 (.br (qad x0 x1 == 35)
 (.br (leB x1 x0.length)
 (.bi (qgL (List.drop x1.toNat x0)) (fun y0 =>
 .at (.next ((x0, IntKind.i64.wrap (x1 + (y0.length : Int))))))
 (.no))
 (.no))
 (.at (.done 0))))
 (.br (qad x0 x1 == 9)
 (.br (qad x0 x1 == 9)
 (.at (.next ((x0, IntKind.i64.wrap (x1 + 1)))))
 (.br (qad x0 x1 == 35)
 (.br (leB x1 x0.length)
 (.bi (qgL (List.drop x1.toNat x0)) (fun y0 =>
 .at (.next ((x0, IntKind.i64.wrap (x1 + (y0.length : Int))))))
 (.no))
 (.no))
 (.at (.done 0))))
 (.br (qad x0 x1 == 10)
 (.at (.next ((x0, IntKind.i64.wrap (x1 + 1)))))
 (.br (qad x0 x1 == 35)
 (.br (leB x1 x0.length)
 (.bi (qgL (List.drop x1.toNat x0)) (fun y0 =>
 .at (.next ((x0, IntKind.i64.wrap (x1 + (y0.length : Int))))))
 (.no))
 (.no))
 (.at (.done 0))))))
 (.no))
 (.at (.done 1))
def qfP : qcX → DT (Rd qcX) := (fun v => qhA v.1 v.2)
def qlq (v : qcX) : Option (Nat × qcX) := qaZ (qav (fun v => (qfP v).ev) v)
theorem qeX (v : qcX) : qlq v = qav (fun v => (qfP v).ev) v := qab _
def qr4 : qeo := LE (τ := qcX) (hD qrw) (qlq) qCx
theorem qB2 : Go.Eng.Told IP (qae F26 0).1 (qae F26 0).2 (qr4) := qaK (inferInstance : Inhabited qcX) (hs := qrw) (st := qfP) (L := []) qyO (qaf (l := []) (by kernel_rfl) trivial) (qeX) (fun v => by kernel_rfl) (fun v => by kernel_rfl)
abbrev qvF : Type := Int
def qxp : PArgs := ⟨[.str], []⟩
def qyb : List PRes := [⟨false, .int .i64, []⟩]
def qki (x0 : List UInt8) : DT qvF :=
 .bi (pj 0 (qlq (x0, 0))) (fun y0 =>
 .at (y0.2))
 (.bi (pj 1 (qlq (x0, 0))) (fun y0 =>
 .at (y0.2))
 (.no))
def qbG (x0 : List UInt8) : Option qvF := qaZ (qki x0).ev
theorem qqI (x0 : List UInt8) : qbG x0 = (qki x0).ev := qab _
theorem qAu : FH IP 26 qxp qyb qbG := qap (F := F26) (L := [(1002600, qr4)]) (t := qki) qyO (qaf (l := [qae F26 0]) (by kernel_rfl) ⟨qaL (by kernel_rfl) qB2, trivial⟩) (by kernel_rfl) (fun v => by kernel_rfl) (fun _ => qab _)
def T3 : Tab := (26, FE qxp qyb qbG) :: T2
theorem qz4 : qaz IP T3 := ⟨qaG qAu, qyO⟩
abbrev qvH : Type := Bool
def qxr : PArgs := ⟨[.int .i32], []⟩
def qyd : List PRes := [⟨false, .bool, []⟩]
def qkk (x0 : Int) : DT qvH :=
 .bi (br (decide (x0 ≥ 97)) (some (decide (x0 ≤ 122))) (some false)) (fun y0 =>
 .at (y0))
 (.no)
def qiw (x0 : Int) : Option qvH := qaZ (qkk x0).ev
theorem qqM (x0 : Int) : qiw x0 = (qkk x0).ev := qab _
theorem qAw : FH IP 55 qxr qyd qiw := qap (F := F55) (L := []) (t := qkk) qz4 (qaf (l := []) (by kernel_rfl) trivial) (by kernel_rfl) (fun v => by kernel_rfl) (fun _ => qab _)
def T4 : Tab := (55, FE qxr qyd qiw) :: T3
theorem qz5 : qaz IP T4 := ⟨qaG qAw, qz4⟩
abbrev qvM : Type := Bool
def qxw : PArgs := ⟨[.int .i32], []⟩
def qyi : List PRes := [⟨false, .bool, []⟩]
def qkp (x0 : Int) : DT qvM :=
 .bi (br (decide (x0 ≥ 48)) (some (decide (x0 ≤ 57))) (some false)) (fun y0 =>
 .at (y0))
 (.no)
def qeS (x0 : Int) : Option qvM := qaZ (qkp x0).ev
theorem qqR (x0 : Int) : qeS x0 = (qkp x0).ev := qab _
theorem qAB : FH IP 41 qxw qyi qeS := qap (F := F41) (L := []) (t := qkp) qz5 (qaf (l := []) (by kernel_rfl) trivial) (by kernel_rfl) (fun v => by kernel_rfl) (fun _ => qab _)
def T5 : Tab := (41, FE qxw qyi qeS) :: T4
theorem qz6 : qaz IP T5 := ⟨qaG qAB, qz5⟩
abbrev qvG : Type := Bool
def qxq : PArgs := ⟨[.int .i32], []⟩
def qyc : List PRes := [⟨false, .bool, []⟩]
def qkj (x0 : Int) : DT qvG :=
 .bi (qiw x0) (fun y0 =>
 .bi (br y0 (some true) (br (sm (qeS x0)) (some (gv (qeS x0))) none)) (fun y1 =>
 .bi (br y1 (some true) (some (x0 == 95))) (fun y2 =>
 .at (y2))
 (.no))
 (.no))
 (.no)
def qgK (x0 : Int) : Option qvG := qaZ (qkj x0).ev
theorem qqL (x0 : Int) : qgK x0 = (qkj x0).ev := qab _
theorem qAv : FH IP 56 qxq qyc qgK := qap (F := F56) (L := []) (t := qkj) qz6 (qaf (l := []) (by kernel_rfl) trivial) (by kernel_rfl) (fun v => by kernel_rfl) (fun _ => qab _)
def T6 : Tab := (56, FE qxq qyc qgK) :: T5
theorem qyP : qaz IP T6 := ⟨qaG qAv, qz6⟩
abbrev qcU : Type := List UInt8 × Int
def qrr : List PSt := [⟨[(1004000, .junk), (0, .str), (1, .fn (.func 56) []), (5, .int .i64)], [], 0, 0⟩]
def quN (x0 : List UInt8) (x1 : Int) : X × St := (X.exit 0, ⟨[(0, AV.str x0), (5, AV.int IntKind.i64 x1)], [], 0, 0⟩)
def qCs : List (qcU → X × St) := [(k2 quN)]
def qht (x0 : List UInt8) (x1 : Int) : DT (Rd qcU) :=
 .bi (br (decide (x1 < (x0.length : Int)))
 (br (inB x0.length x1) (br (sm (qgK (IntKind.i32.wrap (qad x0 x1)))) (some (gv (qgK (IntKind.i32.wrap (qad x0 x1))))) none) none) (some false)) (fun y0 =>
 .br (y0) (.at (.next ((x0, IntKind.i64.wrap (x1 + 1))))) (.at (.done 0)))
 (.no)
def qhs : qcU → DT (Rd qcU) := (fun v => qht v.1 v.2)
def qnk (v : qcU) : Option (Nat × qcU) := qaZ (qav (fun v => (qhs v).ev) v)
theorem qln (v : qcU) : qnk v = qav (fun v => (qhs v).ev) v := qab _
def qrZ : qeo := LE (τ := qcU) (hD qrr) (qnk) qCs
theorem qBX : Go.Eng.Told IP (qae F40 0).1 (qae F40 0).2 (qrZ) := qaK (inferInstance : Inhabited qcU) (hs := qrr) (st := qhs) (L := []) qyP (qaf (l := []) (by kernel_rfl) trivial) (qln) (fun v => by kernel_rfl) (fun v => by kernel_rfl)
abbrev qvC : Type := List UInt8
def qxl : PArgs := ⟨[.str, .fn (.func 56) []], []⟩
def qx7 : List PRes := [⟨false, .str, []⟩]
def qke (x0 : List UInt8) : DT qvC :=
 .bi (pj 0 (qnk (x0, 0))) (fun y0 =>
 .br (leB y0.2 y0.1.length && true) (.at (List.take y0.2.toNat y0.1)) (.no))
 (.no)
def qk7 (x0 : List UInt8) : Option qvC := qaZ (qke x0).ev
theorem qqE (x0 : List UInt8) : qk7 x0 = (qke x0).ev := qab _
theorem qAq : FH IP 40 qxl qx7 qk7 := qap (F := F40) (L := [(1004000, qrZ)]) (t := qke) qyP (qaf (l := [qae F40 0]) (by kernel_rfl) ⟨qaL (by kernel_rfl) qBX, trivial⟩) (by kernel_rfl) (fun v => by kernel_rfl) (fun _ => qab _)
def T7 : Tab := (40, FE qxl qx7 qk7) :: T6
theorem qz7 : qaz IP T7 := ⟨qaG qAq, qyP⟩
abbrev qvP : Type := List AV
def qxz : PArgs := ⟨[], []⟩
def qyl : List PRes := [⟨false, .view 1, []⟩]
def qks : DT qvP :=
 .at ([AV.str ([] ++ [112] ++ [114] ++ [111] ++ [100] ++ [117] ++ [99] ++ [116]), AV.str ([] ++ [99] ++ [117] ++ [114] ++ [114] ++ [101] ++ [110] ++ [99] ++ [121]),
 AV.str ([] ++ [99] ++ [97] ++ [108] ++ [101] ++ [110] ++ [100] ++ [97] ++ [114]), AV.str ([] ++ [102] ++ [114] ++ [111] ++ [109]),
 AV.str ([] ++ [101] ++ [118] ++ [101] ++ [114] ++ [121]), AV.str ([] ++ [111] ++ [118] ++ [101] ++ [114] ++ [100] ++ [114] ++ [97] ++ [102] ++ [116]),
 AV.str ([] ++ [116] ++ [97] ++ [120]), AV.str ([] ++ [99] ++ [114] ++ [101] ++ [100] ++ [105] ++ [116]), AV.str ([] ++ [100] ++ [101] ++ [98] ++ [105] ++ [116]),
 AV.str ([] ++ [109] ++ [97] ++ [114] ++ [103] ++ [105] ++ [110] ++ [97] ++ [108]), AV.str ([] ++ [119] ++ [104] ++ [111] ++ [108] ++ [101]),
 AV.str ([] ++ [97] ++ [99] ++ [116] ++ [51] ++ [54] ++ [48]), AV.str ([] ++ [97] ++ [99] ++ [116] ++ [51] ++ [54] ++ [53]),
 AV.str ([] ++ [97] ++ [99] ++ [116] ++ [117] ++ [97] ++ [108]), AV.str ([] ++ [116] ++ [104] ++ [105] ++ [114] ++ [116] ++ [121]),
 AV.str ([] ++ [100] ++ [111] ++ [119] ++ [110]), AV.str ([] ++ [117] ++ [112]), AV.str ([] ++ [102] ++ [108] ++ [111] ++ [111] ++ [114]),
 AV.str ([] ++ [99] ++ [101] ++ [105] ++ [108]), AV.str ([] ++ [104] ++ [97] ++ [108] ++ [102] ++ [95] ++ [117] ++ [112]),
 AV.str ([] ++ [104] ++ [97] ++ [108] ++ [102] ++ [95] ++ [101] ++ [118] ++ [101] ++ [110]), AV.str ([] ++ [107] ++ [101] ++ [101] ++ [112]),
 AV.str ([] ++ [100] ++ [114] ++ [111] ++ [112]), AV.str ([] ++ [102] ++ [101] ++ [101]), AV.str ([] ++ [108] ++ [105] ++ [109] ++ [105] ++ [116]),
 AV.str ([] ++ [119] ++ [104] ++ [101] ++ [110]), AV.str ([] ++ [97] ++ [109] ++ [111] ++ [117] ++ [110] ++ [116] ++ [95] ++ [111] ++ [102]),
 AV.str ([] ++ [115] ++ [105] ++ [110] ++ [103] ++ [108] ++ [101]), AV.str ([] ++ [100] ++ [97] ++ [105] ++ [108] ++ [121]),
 AV.str ([] ++ [109] ++ [111] ++ [110] ++ [116] ++ [104] ++ [108] ++ [121]), AV.str ([] ++ [109] ++ [111] ++ [110] ++ [116] ++ [104]),
 AV.str ([] ++ [114] ++ [101] ++ [116] ++ [117] ++ [114] ++ [110]), AV.str ([] ++ [99] ++ [108] ++ [111] ++ [115] ++ [101]),
 AV.str ([] ++ [101] ++ [118] ++ [101] ++ [110] ++ [116]), AV.str ([] ++ [105] ++ [102]), AV.str ([] ++ [116] ++ [104] ++ [101] ++ [110]),
 AV.str ([] ++ [101] ++ [108] ++ [115] ++ [101]), AV.str ([] ++ [97] ++ [110] ++ [100]), AV.str ([] ++ [111] ++ [114]), AV.str ([] ++ [110] ++ [111] ++ [116]),
 AV.str ([] ++ [109] ++ [105] ++ [110]), AV.str ([] ++ [109] ++ [97] ++ [120])])
def qld : Option qvP := qaZ (qks).ev
theorem qqU : qld = (qks).ev := qab _
theorem qAD : FH IP 25 qxz qyl (fun _ => qld) := qap (F := F25) (L := []) (t := (fun _ => qks)) qz7 (qaf (l := []) (by kernel_rfl) trivial) (by kernel_rfl) (fun v => by kernel_rfl) (fun _ => qab _)
def T8 : Tab := (25, FE qxz qyl (fun _ => qld)) :: T7
theorem qyQ : qaz IP T8 := ⟨qaG qAD, qz7⟩
abbrev qeM : Type := List AV × List UInt8 × Int × Int
def qwV : List PSt := [⟨[(1004900, .junk), (0, .view 1), (1, .str), (7, .int .i64), (8, .int .i64)], [], 0, 0⟩]
def qzE (x0 : List AV) (x1 : List UInt8) (x2 x3 : Int) : X × St := (X.ret, ⟨[(4, AV.int IntKind.i64 x3)], [], 0, 0⟩)
def qzF (x0 : List AV) (x1 : List UInt8) (x2 x3 : Int) : X × St := (X.exit 0, ⟨[(4, AV.junk)], [], 0, 0⟩)
def qDZ : List (qeM → X × St) := [(k4 qzE), (k4 qzF)]
def qjU (x0 : List AV) (x1 : List UInt8) (x2 x3 : Int) : DT (Rd qeM) :=
 .br (decide (x3 < x2))
 (.br (qdP [CS.str] x0 x3)
 (.br (x1 == strOf (cellAt x0 x3 0)) (.at (.done 0)) (.at (.next ((x0, x1, x2, IntKind.i64.wrap (x3 + 1))))))
 (.no))
 (.at (.done 1))
def ql5 : qeM → DT (Rd qeM) := (fun v => qjU v.1 v.2.1 v.2.2.1 v.2.2.2)
def qrR (v : qeM) : Option (Nat × qeM) := qaZ (qav (fun v => (ql5 v).ev) v)
theorem qnr (v : qeM) : qrR v = qav (fun v => (ql5 v).ev) v := qab _
def qw0 : qeo := LE (τ := qeM) (hD qwV) (qrR) qDZ
theorem qDQ : Go.Eng.Told IP (qae F49 0).1 (qae F49 0).2 (qw0) := qaK (inferInstance : Inhabited qeM) (hs := qwV) (st := ql5) (L := []) qyQ (qaf (l := []) (by kernel_rfl) trivial) (qnr) (fun v => by kernel_rfl) (fun v => by kernel_rfl)
abbrev qz0 : Type := Int
def qBD : PArgs := ⟨[.view 1, .str], []⟩
def qBO : List PRes := [⟨false, .int .i64, []⟩]
def qnY (x0 : List AV) (x1 : List UInt8) : DT qz0 :=
 .bi (pj 0 (qrR (x0, x1, (x0.length : Int), 0))) (fun y0 =>
 .at (y0.2.2.2))
 (.bi (pj 1 (qrR (x0, x1, (x0.length : Int), 0))) (fun y0 =>
 .at (-1))
 (.no))
def qtJ (x0 : List AV) (x1 : List UInt8) : Option qz0 := qaZ (qnY x0 x1).ev
theorem qtK (x0 : List AV) (x1 : List UInt8) : qtJ x0 x1 = (qnY x0 x1).ev := qab _
theorem qDm : FH IP 49 qBD qBO (k2 qtJ) := qap (F := F49) (L := [(1004900, qw0)]) (t := (k2 qnY)) qyQ (qaf (l := [qae F49 0]) (by kernel_rfl) ⟨qaL (by kernel_rfl) qDQ, trivial⟩) (by kernel_rfl) (fun v => by kernel_rfl) (fun _ => qab _)
def T9 : Tab := (49, FE qBD qBO (k2 qtJ)) :: T8
theorem qz8 : qaz IP T9 := ⟨qaG qDm, qyQ⟩
abbrev qzY : Type := Bool
def qBB : PArgs := ⟨[.view 1, .str], []⟩
def qBM : List PRes := [⟨false, .bool, []⟩]
def qnW (x0 : List AV) (x1 : List UInt8) : DT qzY :=
 .bi (qtJ x0 x1) (fun y0 =>
 .at (decide (y0 ≥ 0)))
 (.no)
def qqJ (x0 : List AV) (x1 : List UInt8) : Option qzY := qaZ (qnW x0 x1).ev
theorem qtH (x0 : List AV) (x1 : List UInt8) : qqJ x0 x1 = (qnW x0 x1).ev := qab _
theorem qDk : FH IP 24 qBB qBM (k2 qqJ) := qap (F := F24) (L := []) (t := (k2 qnW)) qz8 (qaf (l := []) (by kernel_rfl) trivial) (by kernel_rfl) (fun v => by kernel_rfl) (fun _ => qab _)
def T10 : Tab := (24, FE qBB qBM (k2 qqJ)) :: T9
theorem qwb : qaz IP T10 := ⟨qaG qDk, qz8⟩
abbrev qvT : Type := Bool
def qxD : PArgs := ⟨[.str], []⟩
def qyp : List PRes := [⟨false, .bool, []⟩]
def qkv (x0 : List UInt8) : DT qvT :=
 .bi (qld) (fun y0 =>
 .bi (qqJ y0 x0) (fun y1 =>
 .at (y1))
 (.no))
 (.no)
def qeT (x0 : List UInt8) : Option qvT := qaZ (qkv x0).ev
theorem qqZ (x0 : List UInt8) : qeT x0 = (qkv x0).ev := qab _
theorem qAH : FH IP 12 qxD qyp qeT := qap (F := F12) (L := []) (t := qkv) qwb (qaf (l := []) (by kernel_rfl) trivial) (by kernel_rfl) (fun v => by kernel_rfl) (fun _ => qab _)
def T11 : Tab := (12, FE qxD qyp qeT) :: T10
theorem qwc : qaz IP T11 := ⟨qaG qAH, qwb⟩
abbrev qvz : Type := Bool
def qxi : PArgs := ⟨[.int .i32], []⟩
def qx4 : List PRes := [⟨false, .bool, []⟩]
def qkb (x0 : Int) : DT qvz :=
 .bi (qgK x0) (fun y0 =>
 .bi (br y0 (some true) (some (x0 == 46))) (fun y1 =>
 .bi (br y1 (some true) (some (x0 == 37))) (fun y2 =>
 .at (y2))
 (.no))
 (.no))
 (.no)
def qir (x0 : Int) : Option qvz := qaZ (qkb x0).ev
theorem qqB (x0 : Int) : qir x0 = (qkb x0).ev := qab _
theorem qAn : FH IP 58 qxi qx4 qir := qap (F := F58) (L := []) (t := qkb) qwc (qaf (l := []) (by kernel_rfl) trivial) (by kernel_rfl) (fun v => by kernel_rfl) (fun _ => qab _)
def T12 : Tab := (58, FE qxi qx4 qir) :: T11
theorem qpI : qaz IP T12 := ⟨qaG qAn, qwc⟩
abbrev qcV : Type := List UInt8 × Int
def qrs : List PSt := [⟨[(1004000, .junk), (0, .str), (1, .fn (.func 58) []), (5, .int .i64)], [], 0, 0⟩]
def quO (x0 : List UInt8) (x1 : Int) : X × St := (X.exit 0, ⟨[(0, AV.str x0), (5, AV.int IntKind.i64 x1)], [], 0, 0⟩)
def qCt : List (qcV → X × St) := [(k2 quO)]
def qhv (x0 : List UInt8) (x1 : Int) : DT (Rd qcV) :=
 .bi (br (decide (x1 < (x0.length : Int)))
 (br (inB x0.length x1) (br (sm (qir (IntKind.i32.wrap (qad x0 x1)))) (some (gv (qir (IntKind.i32.wrap (qad x0 x1))))) none) none) (some false)) (fun y0 =>
 .br (y0) (.at (.next ((x0, IntKind.i64.wrap (x1 + 1))))) (.at (.done 0)))
 (.no)
def qhu : qcV → DT (Rd qcV) := (fun v => qhv v.1 v.2)
def qnl (v : qcV) : Option (Nat × qcV) := qaZ (qav (fun v => (qhu v).ev) v)
theorem qlo (v : qcV) : qnl v = qav (fun v => (qhu v).ev) v := qab _
def qr0 : qeo := LE (τ := qcV) (hD qrs) (qnl) qCt
theorem qBY : Go.Eng.Told IP (qae F40 0).1 (qae F40 0).2 (qr0) := qaK (inferInstance : Inhabited qcV) (hs := qrs) (st := qhu) (L := []) qpI (qaf (l := []) (by kernel_rfl) trivial) (qlo) (fun v => by kernel_rfl) (fun v => by kernel_rfl)
abbrev qvD : Type := List UInt8
def qxm : PArgs := ⟨[.str, .fn (.func 58) []], []⟩
def qx8 : List PRes := [⟨false, .str, []⟩]
def qkf (x0 : List UInt8) : DT qvD :=
 .bi (pj 0 (qnl (x0, 0))) (fun y0 =>
 .br (leB y0.2 y0.1.length && true) (.at (List.take y0.2.toNat y0.1)) (.no))
 (.no)
def qk8 (x0 : List UInt8) : Option qvD := qaZ (qkf x0).ev
theorem qqF (x0 : List UInt8) : qk8 x0 = (qkf x0).ev := qab _
theorem qAr : FH IP 40 qxm qx8 qk8 := qap (F := F40) (L := [(1004000, qr0)]) (t := qkf) qpI (qaf (l := [qae F40 0]) (by kernel_rfl) ⟨qaL (by kernel_rfl) qBY, trivial⟩) (by kernel_rfl) (fun v => by kernel_rfl) (fun _ => qab _)
def T13 : Tab := (40, FE qxm qx8 qk8) :: T12
theorem qpJ : qaz IP T13 := ⟨qaG qAr, qpI⟩
abbrev qcW : Type := List UInt8 × Int
def qrt : List PSt := [⟨[(1004000, .junk), (0, .str), (1, .fn (.func 41) []), (5, .int .i64)], [], 0, 0⟩]
def quP (x0 : List UInt8) (x1 : Int) : X × St := (X.exit 0, ⟨[(0, AV.str x0), (5, AV.int IntKind.i64 x1)], [], 0, 0⟩)
def qCu : List (qcW → X × St) := [(k2 quP)]
def qhx (x0 : List UInt8) (x1 : Int) : DT (Rd qcW) :=
 .bi (br (decide (x1 < (x0.length : Int)))
 (br (inB x0.length x1) (br (sm (qeS (IntKind.i32.wrap (qad x0 x1)))) (some (gv (qeS (IntKind.i32.wrap (qad x0 x1))))) none) none) (some false)) (fun y0 =>
 .br (y0) (.at (.next ((x0, IntKind.i64.wrap (x1 + 1))))) (.at (.done 0)))
 (.no)
def qhw : qcW → DT (Rd qcW) := (fun v => qhx v.1 v.2)
def qnm (v : qcW) : Option (Nat × qcW) := qaZ (qav (fun v => (qhw v).ev) v)
theorem qlp (v : qcW) : qnm v = qav (fun v => (qhw v).ev) v := qab _
def qr1 : qeo := LE (τ := qcW) (hD qrt) (qnm) qCu
theorem qBZ : Go.Eng.Told IP (qae F40 0).1 (qae F40 0).2 (qr1) := qaK (inferInstance : Inhabited qcW) (hs := qrt) (st := qhw) (L := []) qpJ (qaf (l := []) (by kernel_rfl) trivial) (qlp) (fun v => by kernel_rfl) (fun v => by kernel_rfl)
abbrev qvE : Type := List UInt8
def qxn : PArgs := ⟨[.str, .fn (.func 41) []], []⟩
def qx9 : List PRes := [⟨false, .str, []⟩]
def qkg (x0 : List UInt8) : DT qvE :=
 .bi (pj 0 (qnm (x0, 0))) (fun y0 =>
 .br (leB y0.2 y0.1.length && true) (.at (List.take y0.2.toNat y0.1)) (.no))
 (.no)
def qeh (x0 : List UInt8) : Option qvE := qaZ (qkg x0).ev
theorem qqG (x0 : List UInt8) : qeh x0 = (qkg x0).ev := qab _
theorem qAs : FH IP 40 qxn qx9 qeh := qap (F := F40) (L := [(1004000, qr1)]) (t := qkg) qpJ (qaf (l := [qae F40 0]) (by kernel_rfl) ⟨qaL (by kernel_rfl) qBZ, trivial⟩) (by kernel_rfl) (fun v => by kernel_rfl) (fun _ => qab _)
def T14 : Tab := (40, FE qxn qx9 qeh) :: T13
theorem qwd : qaz IP T14 := ⟨qaG qAs, qpJ⟩
abbrev qvB : Type := Bool
def qxk : PArgs := ⟨[.str], []⟩
def qx6 : List PRes := [⟨false, .bool, []⟩]
def qkd (x0 : List UInt8) : DT qvB :=
 .bi (br (!x0 == ([] : List UInt8)) (br (sm (qeh x0)) (some (gv (qeh x0) == x0)) none) (some false)) (fun y0 =>
 .bi (br y0 (br ((x0.length : Int) == 1) (some true) (br (inB x0.length 0) (some (qad x0 0 != 48)) none)) (some false)) (fun y1 =>
 .at (y1))
 (.no))
 (.no)
def qgJ (x0 : List UInt8) : Option qvB := qaZ (qkd x0).ev
theorem qqD (x0 : List UInt8) : qgJ x0 = (qkd x0).ev := qab _
theorem qAp : FH IP 39 qxk qx6 qgJ := qap (F := F39) (L := []) (t := qkd) qwd (qaf (l := []) (by kernel_rfl) trivial) (by kernel_rfl) (fun v => by kernel_rfl) (fun _ => qab _)
def T15 : Tab := (39, FE qxk qx6 qgJ) :: T14
theorem qwe : qaz IP T15 := ⟨qaG qAp, qwd⟩
abbrev qzX : Type := Bool
def qBA : PArgs := ⟨[.str, .str], []⟩
def qBL : List PRes := [⟨false, .bool, []⟩]
def qnV (x0 x1 : List UInt8) : DT qzX :=
 .bi (br (decide ((x0.length : Int) ≥ (x1.length : Int)))
 (br (leB (IntKind.i64.wrap ((x0.length : Int) - (x1.length : Int))) x0.length) (some (List.drop (IntKind.i64.wrap ((x0.length : Int) - (x1.length : Int))).toNat x0 == x1))
 none)
 (some false)) (fun y0 =>
 .at (y0))
 (.no)
def qtF (x0 x1 : List UInt8) : Option qzX := qaZ (qnV x0 x1).ev
theorem qtG (x0 x1 : List UInt8) : qtF x0 x1 = (qnV x0 x1).ev := qab _
theorem qDj : FH IP 86 qBA qBL (k2 qtF) := qap (F := F86) (L := []) (t := (k2 qnV)) qwe (qaf (l := []) (by kernel_rfl) trivial) (by kernel_rfl) (fun v => by kernel_rfl) (fun _ => qab _)
def T16 : Tab := (86, FE qBA qBL (k2 qtF)) :: T15
theorem qwf : qaz IP T16 := ⟨qaG qDj, qwe⟩
abbrev qzV : Type := List UInt8 × Bool
def qBy : PArgs := ⟨[.str, .str], []⟩
def qBJ : List PRes := [⟨false, .tup [.str, .bool], []⟩]
def qnT (x0 x1 : List UInt8) : DT qzV :=
 .bi (qtF x0 x1) (fun y0 =>
 .br (!y0)
 (.at ((x0, false)))
 (.br (leB (IntKind.i64.wrap ((x0.length : Int) - (x1.length : Int))) x0.length && true)
 (.at ((List.take (IntKind.i64.wrap ((x0.length : Int) - (x1.length : Int))).toNat x0, true)))
 (.no)))
 (.no)
def qtB (x0 x1 : List UInt8) : Option qzV := qaZ (qnT x0 x1).ev
theorem qtC (x0 x1 : List UInt8) : qtB x0 x1 = (qnT x0 x1).ev := qab _
theorem qDh : FH IP 68 qBy qBJ (k2 qtB) := qap (F := F68) (L := []) (t := (k2 qnT)) qwf (qaf (l := []) (by kernel_rfl) trivial) (by kernel_rfl) (fun v => by kernel_rfl) (fun _ => qab _)
def T17 : Tab := (68, FE qBy qBJ (k2 qtB)) :: T16
theorem qwg : qaz IP T17 := ⟨qaG qDh, qwf⟩
abbrev qvr : Type := List UInt8 × Bool
def qw9 : PArgs := ⟨[.str, .str], []⟩
def qxV : List PRes := [⟨false, .tup [.str, .bool], []⟩]
def qj2 (x0 x1 : List UInt8) : DT qvr :=
 .bi (qtB x0 x1) (fun y0 =>
 .at ((y0.1, y0.2)))
 (.no)
def qk5 (x0 x1 : List UInt8) : Option qvr := qaZ (qj2 x0 x1).ev
theorem qqs (x0 x1 : List UInt8) : qk5 x0 x1 = (qj2 x0 x1).ev := qab _
theorem qAj : FH IP 37 qw9 qxV (k2 qk5) := qap (F := F37) (L := []) (t := (k2 qj2)) qwg (qaf (l := []) (by kernel_rfl) trivial) (by kernel_rfl) (fun v => by kernel_rfl) (fun _ => qab _)
def T18 : Tab := (37, FE qw9 qxV (k2 qk5)) :: T17
theorem qwh : qaz IP T18 := ⟨qaG qAj, qwg⟩
abbrev qzZ : Type := Int
def qBC : PArgs := ⟨[.str, .str], []⟩
def qBN : List PRes := [⟨false, .int .i64, []⟩]
def qnX (x0 x1 : List UInt8) : DT qzZ :=
 .bi (br ((x1.length : Int) == 0) (some true) (some (x1 == x0))) (fun y0 =>
 .br (y0)
 (.at (0))
 (.br ((x1.length : Int) == 1)
 (.br (inB x1.length 0) (.at (Lib.indexByte x0 (qad x1 0).toNat.toUInt8)) (.no))
 (.br (decide ((x1.length : Int) ≥ (x0.length : Int))) (.at (-1)) (.no))))
 (.no)
def qqV (x0 x1 : List UInt8) : Option qzZ := qaZ (qnX x0 x1).ev
theorem qtI (x0 x1 : List UInt8) : qqV x0 x1 = (qnX x0 x1).ev := qab _
theorem qDl : FH IP 79 qBC qBN (k2 qqV) := qap (F := F79) (L := []) (t := (k2 qnX)) qwh (qaf (l := [qae F79 0]) (by kernel_rfl) ⟨qs1 (by kernel_rfl), trivial⟩) (by kernel_rfl) (fun v => by kernel_rfl) (fun _ => qab _)
def T19 : Tab := (79, FE qBC qBN (k2 qqV)) :: T18
theorem qwi : qaz IP T19 := ⟨qaG qDl, qwh⟩
abbrev qz1 : Type := List UInt8 × List UInt8 × Bool
def qBE : PArgs := ⟨[.str, .str], []⟩
def qBP : List PRes := [⟨false, .tup [.str, .str, .bool], []⟩]
def qnZ (x0 x1 : List UInt8) : DT qz1 :=
 .bi (qqV x0 x1) (fun y0 =>
 .br (decide (y0 ≥ 0))
 (.br (leB y0 x0.length && true)
 (.br (leB (IntKind.i64.wrap (y0 + (x1.length : Int))) x0.length)
 (.at ((List.take y0.toNat x0, List.drop (IntKind.i64.wrap (y0 + (x1.length : Int))).toNat x0, true)))
 (.no))
 (.no))
 (.at ((x0, ([] : List UInt8), false))))
 (.no)
def qtL (x0 x1 : List UInt8) : Option qz1 := qaZ (qnZ x0 x1).ev
theorem qtM (x0 x1 : List UInt8) : qtL x0 x1 = (qnZ x0 x1).ev := qab _
theorem qDn : FH IP 69 qBE qBP (k2 qtL) := qap (F := F69) (L := []) (t := (k2 qnZ)) qwi (qaf (l := []) (by kernel_rfl) trivial) (by kernel_rfl) (fun v => by kernel_rfl) (fun _ => qab _)
def T20 : Tab := (69, FE qBE qBP (k2 qtL)) :: T19
theorem qwj : qaz IP T20 := ⟨qaG qDn, qwi⟩
abbrev qvL : Type := List UInt8 × List UInt8 × Bool
def qxv : PArgs := ⟨[.str, .str], []⟩
def qyh : List PRes := [⟨false, .tup [.str, .str, .bool], []⟩]
def qko (x0 x1 : List UInt8) : DT qvL :=
 .bi (qtL x0 x1) (fun y0 =>
 .at ((y0.1, y0.2.1, y0.2.2)))
 (.no)
def qlb (x0 x1 : List UInt8) : Option qvL := qaZ (qko x0 x1).ev
theorem qqQ (x0 x1 : List UInt8) : qlb x0 x1 = (qko x0 x1).ev := qab _
theorem qAA : FH IP 38 qxv qyh (k2 qlb) := qap (F := F38) (L := []) (t := (k2 qko)) qwj (qaf (l := []) (by kernel_rfl) trivial) (by kernel_rfl) (fun v => by kernel_rfl) (fun _ => qab _)
def T21 : Tab := (38, FE qxv qyh (k2 qlb)) :: T20
theorem qpK : qaz IP T21 := ⟨qaG qAA, qwj⟩
abbrev qc1 : Type := List UInt8 × List UInt8
def qrA : List PSt := [⟨[(1002000, .junk), (6, .str), (7, .str)], [], 0, 0⟩]
def qu1 (x0 x1 : List UInt8) : X × St := (X.exit 0, ⟨[(6, AV.str x0), (7, AV.str x1)], [], 0, 0⟩)
def qCB : List (qc1 → X × St) := [(k2 qu1)]
def qhE (x0 x1 : List UInt8) : DT (Rd qc1) :=
 .br (decide ((x1.length : Int) < 4))
 (.br (decide (x1.length + 1 ≤ 4611686018427387904)) (.at (.next ((x0, x1 ++ ([48] : List UInt8))))) (.no))
 (.at (.done 0))
def qfR : qc1 → DT (Rd qc1) := (fun v => qhE v.1 v.2)
def qnp (v : qc1) : Option (Nat × qc1) := qaZ (qav (fun v => (qfR v).ev) v)
theorem qls (v : qc1) : qnp v = qav (fun v => (qfR v).ev) v := qab _
def qr8 : qeo := LE (τ := qc1) (hD qrA) (qnp) qCB
theorem qB6 : Go.Eng.Told IP (qae F20 0).1 (qae F20 0).2 (qr8) := qaK (inferInstance : Inhabited qc1) (hs := qrA) (st := qfR) (L := []) qpK (qaf (l := []) (by kernel_rfl) trivial) (qls) (fun v => by kernel_rfl) (fun v => by kernel_rfl)
abbrev qvS : Type := Int × Int
def qxC : PArgs := ⟨[.str], []⟩
def qyo : List PRes := [⟨false, .tup [.int .i64, .int .i64], []⟩]
def qku (x0 : List UInt8) : DT qvS :=
 .bi (qk5 x0 ([37] : List UInt8)) (fun y0 =>
 .bi (qlb y0.1 ([46] : List UInt8)) (fun y1 =>
 .bi (br (!y0.2) (some true) (br (sm (qgJ y1.1)) (some !gv (qgJ y1.1)) none)) (fun y2 =>
 .bi (br y2 (some true)
 (br y1.2.2
 (br (y1.2.1 == ([] : List UInt8)) (some true)
 (br (decide ((y1.2.1.length : Int) > 4)) (some true)
 (br (sm (qeh y1.2.1))
 (br (!gv (qeh y1.2.1) == y1.2.1) (some true)
 (br (inB y1.2.1.length (IntKind.i64.wrap ((y1.2.1.length : Int) - 1))) (some (qad y1.2.1 (IntKind.i64.wrap ((y1.2.1.length : Int) - 1)) == 48))
 none))
 none)))
 (some false))) (fun y3 =>
 .br (y3)
 (.at ((0, 2)))
 (.br (decide ((y1.1.length : Int) > 3))
 (.at ((0, 1)))
 (.bi (pj 0 (qnp (y1.1, y1.2.1))) (fun y4 =>
 .br (decide (y4.1.length + y4.2.length ≤ 4611686018427387904))
 (.br (pOk (y4.1 ++ y4.2) && nOk (Lib.atoiAll (y4.1 ++ y4.2)))
 (.br (decide (qBn (Lib.atoiAll (y4.1 ++ y4.2)) > 1000000)) (.at ((0, 1))) (.at ((qBn (Lib.atoiAll (y4.1 ++ y4.2)), 0))))
 (.br (pOk (y4.1 ++ y4.2) && qel (Lib.atoiAll (y4.1 ++ y4.2)))
 (.br (decide (Lib.atoiSat (y4.1 ++ y4.2) > 1000000)) (.at ((0, 1))) (.at ((Lib.atoiSat (y4.1 ++ y4.2), 0))))
 (.br (pOk (y4.1 ++ y4.2) && qb0 (Lib.atoiAll (y4.1 ++ y4.2))) (.at ((0, 0))) (.no))))
 (.no))
 (.no))))
 (.no))
 (.no))
 (.no))
 (.no)
def qf4 (x0 : List UInt8) : Option qvS := qaZ (qku x0).ev
theorem qqY (x0 : List UInt8) : qf4 x0 = (qku x0).ev := qab _
theorem qAG : FH IP 20 qxC qyo qf4 := qap (F := F20) (L := [(1002000, qr8)]) (t := qku) qpK (qaf (l := [qae F20 0]) (by kernel_rfl) ⟨qaL (by kernel_rfl) qB6, trivial⟩) (by kernel_rfl) (fun v => by kernel_rfl) (fun _ => qab _)
def T22 : Tab := (20, FE qxC qyo qf4) :: T21
theorem qwk : qaz IP T22 := ⟨qaG qAG, qpK⟩
abbrev qvI : Type := Int × Int × List UInt8 × Int
def qxs : PArgs := ⟨[.str], []⟩
def qye : List PRes := [⟨false, .tup [.agg [.int .i64, .int .i64, .str], .int .i64], []⟩]
def qkl (x0 : List UInt8) : DT qvI :=
 .bi (qgJ x0) (fun y0 =>
 .br (y0)
 (.br (pOk x0 && nOk (Lib.parseIntB 64 x0))
 (.at ((2, 0, x0, 0)))
 (.br (pOk x0 && qel (Lib.parseIntB 64 x0))
 (.at ((0, 0, ([] : List UInt8), 6)))
 (.br (pOk x0 && qb0 (Lib.parseIntB 64 x0)) (.at ((0, 0, ([] : List UInt8), 6))) (.no))))
 (.bi (qf4 x0) (fun y1 =>
 .br (y1.2 == 0)
 (.at ((3, 0, x0, 0)))
 (.br (y1.2 == 1) (.at ((0, 0, ([] : List UInt8), 6))) (.at ((0, 0, ([] : List UInt8), 2)))))
 (.no)))
 (.no)
def qk9 (x0 : List UInt8) : Option qvI := qaZ (qkl x0).ev
theorem qqN (x0 : List UInt8) : qk9 x0 = (qkl x0).ev := qab _
theorem qAx : FH IP 57 qxs qye qk9 := qap (F := F57) (L := []) (t := qkl) qwk (qaf (l := []) (by kernel_rfl) trivial) (by kernel_rfl) (fun v => by kernel_rfl) (fun _ => qab _)
def T23 : Tab := (57, FE qxs qye qk9) :: T22
theorem qwl : qaz IP T23 := ⟨qaG qAx, qwk⟩
abbrev qvN : Type := List AV
def qxx : PArgs := ⟨[], []⟩
def qyj : List PRes := [⟨false, .view 1, []⟩]
def qkq : DT qvN :=
 .at ([AV.str ([] ++ [61] ++ [61]), AV.str ([] ++ [33] ++ [61]), AV.str ([] ++ [60] ++ [61]), AV.str ([] ++ [123]), AV.str ([] ++ [125]), AV.str ([] ++ [40]), AV.str ([] ++ [41]),
 AV.str ([] ++ [44]), AV.str ([] ++ [59]), AV.str ([] ++ [58]), AV.str ([] ++ [36]), AV.str ([] ++ [43]), AV.str ([] ++ [45]), AV.str ([] ++ [42]), AV.str ([] ++ [47]),
 AV.str ([] ++ [60])])
def qlc : Option qvN := qaZ (qkq).ev
theorem qqS : qlc = (qkq).ev := qab _
theorem qAC : FH IP 59 qxx qyj (fun _ => qlc) := qap (F := F59) (L := []) (t := (fun _ => qkq)) qwl (qaf (l := []) (by kernel_rfl) trivial) (by kernel_rfl) (fun v => by kernel_rfl) (fun _ => qab _)
def T24 : Tab := (59, FE qxx qyj (fun _ => qlc)) :: T23
theorem qwm : qaz IP T24 := ⟨qaG qAC, qwl⟩
abbrev qzW : Type := Bool
def qBz : PArgs := ⟨[.str, .str], []⟩
def qBK : List PRes := [⟨false, .bool, []⟩]
def qnU (x0 x1 : List UInt8) : DT qzW :=
 .bi (br (decide ((x0.length : Int) ≥ (x1.length : Int))) (br (leB (x1.length : Int) x0.length && true) (some (List.take (x1.length : Int).toNat x0 == x1)) none) (some false)) (fun y0 =>
 .at (y0))
 (.no)
def qtD (x0 x1 : List UInt8) : Option qzW := qaZ (qnU x0 x1).ev
theorem qtE (x0 x1 : List UInt8) : qtD x0 x1 = (qnU x0 x1).ev := qab _
theorem qDi : FH IP 81 qBz qBK (k2 qtD) := qap (F := F81) (L := []) (t := (k2 qnU)) qwm (qaf (l := []) (by kernel_rfl) trivial) (by kernel_rfl) (fun v => by kernel_rfl) (fun _ => qab _)
def T25 : Tab := (81, FE qBz qBK (k2 qtD)) :: T24
theorem qwn : qaz IP T25 := ⟨qaG qDi, qwm⟩
abbrev qvs : Type := Bool
def qxa : PArgs := ⟨[.str, .str], []⟩
def qxW : List PRes := [⟨false, .bool, []⟩]
def qj3 (x0 x1 : List UInt8) : DT qvs :=
 .bi (qtD x0 x1) (fun y0 =>
 .at (y0))
 (.no)
def qk6 (x0 x1 : List UInt8) : Option qvs := qaZ (qj3 x0 x1).ev
theorem qqt (x0 x1 : List UInt8) : qk6 x0 x1 = (qj3 x0 x1).ev := qab _
theorem qAk : FH IP 60 qxa qxW (k2 qk6) := qap (F := F60) (L := []) (t := (k2 qj3)) qwn (qaf (l := []) (by kernel_rfl) trivial) (by kernel_rfl) (fun v => by kernel_rfl) (fun _ => qab _)
def T26 : Tab := (60, FE qxa qxW (k2 qk6)) :: T25
theorem qpL : qaz IP T26 := ⟨qaG qAk, qwn⟩
abbrev qc2 : Type := List UInt8 × List AV × Int × Int × Int × Int × List UInt8
def qrB : List PSt := [⟨[(1002800, .junk), (0, .str), (2, .ref 0 0 0), (34, .view 1), (35, .int .i64), (36, .int .i64)], [(0, .box [.int .i64, .int .i64, .str] false)], 1, 0⟩]
def qu2 (x0 : List UInt8) (x1 : List AV) (x2 x3 : Int) (x4 x5 : Int) (x6 : List UInt8) : X × St := (X.ret,
 ⟨[(2, AV.ref 0 0 0), (3, AV.int IntKind.i64 0)], [(0, Blk.box [AV.int IntKind.i64 4, AV.int IntKind.i64 0, AV.str (strOf (cellAt x1 x3 0))] false)], 1, 0⟩)
def qu3 (x0 : List UInt8) (x1 : List AV) (x2 x3 : Int) (x4 x5 : Int) (x6 : List UInt8) : X × St := (X.exit 1, ⟨[(2, AV.ref 0 0 0), (3, AV.junk)], [(0, Blk.box [AV.int IntKind.i64 x4, AV.int IntKind.i64 x5, AV.str x6] false)], 1, 0⟩)
def qCC : List (qc2 → X × St) := [(k7 qu2), (k7 qu3)]
def qhG (x0 : List UInt8) (x1 : List AV) (x2 x3 : Int) (x4 x5 : Int) (x6 : List UInt8) : DT (Rd qc2) :=
 .br (decide (x3 < x2))
 (.br (qdP [CS.str] x1 x3)
 (.bi (qk6 x0 (strOf (cellAt x1 x3 0))) (fun y0 =>
 .br (y0) (.at (.done 0)) (.at (.next ((x0, x1, x2, IntKind.i64.wrap (x3 + 1), x4, x5, x6)))))
 (.no))
 (.no))
 (.at (.done 1))
def qhF : qc2 → DT (Rd qc2) := (fun v => qhG v.1 v.2.1 v.2.2.1 v.2.2.2.1 v.2.2.2.2.1 v.2.2.2.2.2.1 v.2.2.2.2.2.2)
def qlt (v : qc2) : Option (Nat × qc2) := qaZ (qav (fun v => (qhF v).ev) v)
theorem qlu (v : qc2) : qlt v = qav (fun v => (qhF v).ev) v := qab _
def qr9 : qeo := LE (τ := qc2) (hD qrB) (qlt) qCC
theorem qB7 : Go.Eng.Told IP (qae F28 0).1 (qae F28 0).2 (qr9) := qaK (inferInstance : Inhabited qc2) (hs := qrB) (st := qhF) (L := []) qpL (qaf (l := []) (by kernel_rfl) trivial) (qlu) (fun v => by kernel_rfl) (fun v => by kernel_rfl)
abbrev qvU : Type := Int × Int × List UInt8 × Int
def qxE : PArgs := ⟨[.str], []⟩
def qyq : List PRes := [⟨false, .tup [.agg [.int .i64, .int .i64, .str], .int .i64], []⟩]
def qkw (x0 : List UInt8) : DT qvU :=
 .br (inB x0.length 0)
 (.bi (qiw (IntKind.i32.wrap (qad x0 0))) (fun y0 =>
 .br (y0)
 (.bi (qk7 x0) (fun y1 =>
 .bi (qeT y1) (fun y2 =>
 .br (y2)
 (.at ((5, 0, y1, 0)))
 (.br (decide ((y1.length : Int) > 16)) (.at ((0, 0, ([] : List UInt8), 4))) (.at ((1, 0, y1, 0)))))
 (.no))
 (.no))
 (.bi (qeS (IntKind.i32.wrap (qad x0 0))) (fun y1 =>
 .br (y1)
 (.bi (qk8 x0) (fun y2 =>
 .bi (qk9 y2) (fun y3 =>
 .at ((y3.1, y3.2.1, y3.2.2.1, y3.2.2.2)))
 (.no))
 (.no))
 (.bi (qlc) (fun y2 =>
 .bi (pj 0 (qlt (x0, y2, (y2.length : Int), 0, 0, 0, ([] : List UInt8)))) (fun y3 =>
 .at ((4, 0, strOf (cellAt y3.2.1 y3.2.2.2.1 0), 0)))
 (.bi (pj 1 (qlt (x0, y2, (y2.length : Int), 0, 0, 0, ([] : List UInt8)))) (fun y3 =>
 .at ((0, 0, ([] : List UInt8), 2)))
 (.no)))
 (.no)))
 (.no)))
 (.no))
 (.no)
def qdw (x0 : List UInt8) : Option qvU := qaZ (qkw x0).ev
theorem qq0 (x0 : List UInt8) : qdw x0 = (qkw x0).ev := qab _
theorem qAI : FH IP 28 qxE qyq qdw := qap (F := F28) (L := [(1002800, qr9)]) (t := qkw) qpL (qaf (l := [qae F28 0]) (by kernel_rfl) ⟨qaL (by kernel_rfl) qB7, trivial⟩) (by kernel_rfl) (fun v => by kernel_rfl) (fun _ => qab _)
def T27 : Tab := (28, FE qxE qyq qdw) :: T26
theorem qpM : qaz IP T27 := ⟨qaG qAI, qpL⟩
abbrev qbV : Type := (List UInt8 × Int) ⊕ (List UInt8 × Int × List AV)
def qrq : List PSt := [⟨[(1001400, .junk), (0, .str), (5, .nils 3), (6, .int .i64)], [], 0, 0⟩, ⟨[(1001400, .junk), (0, .str), (5, .own 0 0), (6, .int .i64)], [(0, .arr 3 false)], 1, 0⟩]
def quJ (x0 : List UInt8) (x1 : Int) : X × St := (X.ret, ⟨[(2, AV.nils ⟨3, NKd.nil⟩), (3, AV.int IntKind.i64 0), (4, AV.int IntKind.i64 0)], [], 0, 0⟩)
def quK (x0 : List UInt8) (x1 : Int) : X × St := (X.ret,
 ⟨[(2, AV.nils ⟨3, NKd.nil⟩), (3, AV.int IntKind.i64 (IntKind.i64.wrap (x1 + ((Lib.countByte (List.take (gv (qbG x0)).toNat x0) 10) : Int)))),
 (4, AV.int IntKind.i64 (gv (qdw (List.drop (gv (qbG x0)).toNat x0))).2.2.2)], [], 0, 0⟩)
def quL (x0 : List UInt8) (x1 : Int) (x2 : List AV) : X × St := (X.ret, ⟨[(2, AV.own 0 0 none), (3, AV.int IntKind.i64 0), (4, AV.int IntKind.i64 0)], [(0, Blk.arr 3 x2 false)], 1, 0⟩)
def quM (x0 : List UInt8) (x1 : Int) (x2 : List AV) : X × St := (X.ret,
 ⟨[(2, AV.nils ⟨3, NKd.nil⟩), (3, AV.int IntKind.i64 (IntKind.i64.wrap (x1 + ((Lib.countByte (List.take (gv (qbG x0)).toNat x0) 10) : Int)))),
 (4, AV.int IntKind.i64 (gv (qdw (List.drop (gv (qbG x0)).toNat x0))).2.2.2)], [], 0, 0⟩)
def qCr : List (qbV → X × St) := [fun w => (k2 quJ) ((sl w)), fun w => (k2 quK) ((sl w)), fun w => (k3 quL) ((sr w)), fun w => (k3 quM) ((sr w))]
def qfc (x0 : List UInt8) (x1 : Int) : DT (Rd qbV) :=
 .bi (qbG x0) (fun y0 =>
 .br (leB y0 x0.length && true)
 (.br (leB y0 x0.length)
 (.br (List.drop y0.toNat x0 == ([] : List UInt8))
 (.at (.done 0))
 (.bi (qdw (List.drop y0.toNat x0)) (fun y1 =>
 .br (y1.2.2.2 != 0)
 (.at (.done 1))
 (.br (leB (y1.2.2.1.length : Int) (List.drop y0.toNat x0).length)
 (.at (.next ((.inr (List.drop (y1.2.2.1.length : Int).toNat (List.drop y0.toNat x0), IntKind.i64.wrap (x1 + ((Lib.countByte (List.take y0.toNat x0) 10) : Int)), [AV.agg [AV.int IntKind.i64 y1.1, AV.int IntKind.i64 (IntKind.i64.wrap (x1 + ((Lib.countByte (List.take y0.toNat x0) 10) : Int))), AV.str y1.2.2.1]])))))
 (.no)))
 (.no)))
 (.no))
 (.no))
 (.no)
def qfd (x0 : List UInt8) (x1 : Int) (x2 : List AV) : DT (Rd qbV) :=
 .bi (qbG x0) (fun y0 =>
 .br (leB y0 x0.length && true)
 (.br (leB y0 x0.length)
 (.br (List.drop y0.toNat x0 == ([] : List UInt8))
 (.at (.done 2))
 (.bi (qdw (List.drop y0.toNat x0)) (fun y1 =>
 .br (y1.2.2.2 != 0)
 (.at (.done 3))
 (.br (room (x2.length + 1) 32)
 (.br (leB (y1.2.2.1.length : Int) (List.drop y0.toNat x0).length)
 (.at (.next ((.inr (List.drop (y1.2.2.1.length : Int).toNat (List.drop y0.toNat x0), IntKind.i64.wrap (x1 + ((Lib.countByte (List.take y0.toNat x0) 10) : Int)), x2 ++ [AV.agg [AV.int IntKind.i64 y1.1, AV.int IntKind.i64 (IntKind.i64.wrap (x1 + ((Lib.countByte (List.take y0.toNat x0) 10) : Int))), AV.str y1.2.2.1]])))))
 (.no))
 (.no)))
 (.no)))
 (.no))
 (.no))
 (.no)
def qcE : qbV → DT (Rd qbV) := (Sum.elim (fun v => qfc v.1 v.2) (fun v => qfd v.1 v.2.1 v.2.2))
def qf6 (v : qbV) : Option (Nat × qbV) := qaZ (qav (fun v => (qcE v).ev) v)
theorem qg2 (v : qbV) : qf6 v = qav (fun v => (qcE v).ev) v := qab _
def qrY : qeo := LE (τ := qbV) (hD qrq) (qf6) qCr
theorem qBW : Go.Eng.Told IP (qae F14 0).1 (qae F14 0).2 (qrY) := qaK (inferInstance : Inhabited qbV) (hs := qrq) (st := qcE) (L := []) qpM (qaf (l := []) (by kernel_rfl) trivial) (qg2) (fun v => match v with | (.inl v) => by kernel_rfl | (.inr v) => by kernel_rfl) (fun v => match v with | (.inl v) => by kernel_rfl | (.inr v) => by kernel_rfl)
end
end Go.Proofs.H09

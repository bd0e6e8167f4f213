/- Functions over plain data. Printed by a program of mine. -/
import Derived.Test.YthljpgljbpdmjaaGreatDoorD15c_2
import Derived.KernelRfl
set_option linter.unusedVariables false
set_option linter.unusedSimpArgs false
set_option linter.unnecessarySimpa false
namespace Go.Proofs.H15c
open Go Go.Eng
set_option maxRecDepth 100000
noncomputable section
abbrev qdX : Type := List AV × List UInt8 × Int × Int
def qBh : List PSt := [⟨[(1019500, .junk), (0, .view 1), (1, .str), (7, .int .i64), (8, .int .i64)], [], 0, 0⟩]
def qGK (x0 : List AV) (x1 : List UInt8) (x2 x3 : Int) : X × St := (X.ret, ⟨[(4, AV.int IntKind.i64 x3)], [], 0, 0⟩)
def qGL (x0 : List AV) (x1 : List UInt8) (x2 x3 : Int) : X × St := (X.exit 0, ⟨[(4, AV.junk)], [], 0, 0⟩)
def qRb : List (qdX → X × St) := [(k4 qGK), (k4 qGL)]
def ql0 (x0 : List AV) (x1 : List UInt8) (x2 x3 : Int) : DT (Rd qdX) :=
 .br (decide (x3 < x2))
 (.br (qaS [CS.str] x0 x3)
 (.br (x1 == strOf (cellAt x0 x3 0)) (.at (.done 0)) (.at (.next ((x0, x1, x2, IntKind.i64.wrap (x3 + 1))))))
 (.no))
 (.at (.done 1))
def qlZ : qdX → DT (Rd qdX) := (fun v => ql0 v.1 v.2.1 v.2.2.1 v.2.2.2)
def qre (v : qdX) : Option (Nat × qdX) := qaF (qao (fun v => (qlZ v).ev) v)
theorem qrf (v : qdX) : qre v = qao (fun v => (qlZ v).ev) v := qaa _
def qBZ : qb3 := LE (τ := qdX) (hD qBh) (qre) qRb
theorem qQB : Go.Eng.Told IP (qae qN4 0).1 (qae qN4 0).2 (qBZ) := qaw (inferInstance : Inhabited qdX) (hs := qBh) (st := qlZ) (L := []) qzr (qad (l := []) (by kernel_rfl) trivial) (qrf) (fun v => by kernel_rfl) (fun v => by kernel_rfl)
abbrev qHQ : Type := Int
def qJ1 : PArgs := ⟨[.view 1, .str], []⟩
def qKP : List PRes := [⟨false, .int .i64, []⟩]
def qpJ (x0 : List AV) (x1 : List UInt8) : DT qHQ :=
 .bi (pj 0 (qre (x0, x1, (x0.length : Int), 0))) (fun y0 =>
 .at (y0.2.2.2))
 (.bi (pj 1 (qre (x0, x1, (x0.length : Int), 0))) (fun y0 =>
 .at (-1))
 (.no))
def quN (x0 : List AV) (x1 : List UInt8) : Option qHQ := qaF (qpJ x0 x1).ev
theorem qAn (x0 : List AV) (x1 : List UInt8) : quN x0 x1 = (qpJ x0 x1).ev := qaa _
theorem qOU : FH IP 195 qJ1 qKP (k2 quN) := qah (F := qN4) (L := [(1019500, qBZ)]) (t := (k2 qpJ)) qzr (qad (l := [qae qN4 0]) (by kernel_rfl) ⟨qax (by kernel_rfl) qQB, trivial⟩) (by kernel_rfl) (fun v => by kernel_rfl) (fun _ => qaa _)
def T32 : Tab := (195, FE qJ1 qKP (k2 quN)) :: T31
theorem qIK : qan IP T32 := ⟨qam qOU, qzr⟩
abbrev qHO : Type := Bool
def qJZ : PArgs := ⟨[.view 1, .str], []⟩
def qKN : List PRes := [⟨false, .bool, []⟩]
def qpH (x0 : List AV) (x1 : List UInt8) : DT qHO :=
 .bi (quN x0 x1) (fun y0 =>
 .at (decide (y0 ≥ 0)))
 (.no)
def qqN (x0 : List AV) (x1 : List UInt8) : Option qHO := qaF (qpH x0 x1).ev
theorem qAl (x0 : List AV) (x1 : List UInt8) : qqN x0 x1 = (qpH x0 x1).ev := qaa _
theorem qOS : FH IP 183 qJZ qKN (k2 qqN) := qah (F := qSm) (L := []) (t := (k2 qpH)) qIK (qad (l := []) (by kernel_rfl) trivial) (by kernel_rfl) (fun v => by kernel_rfl) (fun _ => qaa _)
def T33 : Tab := (183, FE qJZ qKN (k2 qqN)) :: T32
theorem qIL : qan IP T33 := ⟨qam qOS, qIK⟩
abbrev qyD : Type := Bool
def qC9 : PArgs := ⟨[.str], []⟩
def qDV : List PRes := [⟨false, .bool, []⟩]
def qi6 (x0 : List UInt8) : DT qyD :=
 .bi (qj1) (fun y0 =>
 .bi (qqN y0 x0) (fun y1 =>
 .at (y1))
 (.no))
 (.no)
def qj8 (x0 : List UInt8) : Option qyD := qaF (qi6 x0).ev
theorem qwE (x0 : List UInt8) : qj8 x0 = (qi6 x0).ev := qaa _
theorem qMa : FH IP 171 qC9 qDV qj8 := qah (F := qSg) (L := []) (t := qi6) qIL (qad (l := []) (by kernel_rfl) trivial) (by kernel_rfl) (fun v => by kernel_rfl) (fun _ => qaa _)
def T34 : Tab := (171, FE qC9 qDV qj8) :: T33
theorem qIM : qan IP T34 := ⟨qam qMa, qIL⟩
abbrev qH4 : Type := Bool
def qKf : PArgs := ⟨[.int .i32], []⟩
def qK4 : List PRes := [⟨false, .bool, []⟩]
def qpX (x0 : Int) : DT qH4 :=
 .bi (qkA x0) (fun y0 =>
 .bi (br y0 (some true) (some (x0 == 46))) (fun y1 =>
 .bi (br y1 (some true) (some (x0 == 37))) (fun y2 =>
 .at (y2))
 (.no))
 (.no))
 (.no)
def qnm (x0 : Int) : Option qH4 := qaF (qpX x0).ev
theorem qAC (x0 : Int) : qnm x0 = (qpX x0).ev := qaa _
theorem qO9 : FH IP 174 qKf qK4 qnm := qah (F := qSj) (L := []) (t := qpX) qIM (qad (l := []) (by kernel_rfl) trivial) (by kernel_rfl) (fun v => by kernel_rfl) (fun _ => qaa _)
def T35 : Tab := (174, FE qKf qK4 qnm) :: T34
theorem qzs : qan IP T35 := ⟨qam qO9, qIM⟩
abbrev qd4 : Type := List UInt8 × Int
def qBr : List PSt := [⟨[(1016400, .junk), (0, .str), (1, .fn (.func 174) []), (5, .int .i64)], [], 0, 0⟩]
def qG7 (x0 : List UInt8) (x1 : Int) : X × St := (X.exit 0, ⟨[(0, AV.str x0), (5, AV.int IntKind.i64 x1)], [], 0, 0⟩)
def qRl : List (qd4 → X × St) := [(k2 qG7)]
def qmc (x0 : List UInt8) (x1 : Int) : DT (Rd qd4) :=
 .bi (br (decide (x1 < (x0.length : Int)))
 (br (inB x0.length x1) (br (sm (qnm (IntKind.i32.wrap (qaC x0 x1)))) (some (gv (qnm (IntKind.i32.wrap (qaC x0 x1))))) none) none) (some false)) (fun y0 =>
 .br (y0) (.at (.next ((x0, IntKind.i64.wrap (x1 + 1))))) (.at (.done 0)))
 (.no)
def qmb : qd4 → DT (Rd qd4) := (fun v => qmc v.1 v.2)
def qvc (v : qd4) : Option (Nat × qd4) := qaF (qao (fun v => (qmb v).ev) v)
theorem qrr (v : qd4) : qvc v = qao (fun v => (qmb v).ev) v := qaa _
def qB9 : qb3 := LE (τ := qd4) (hD qBr) (qvc) qRl
theorem qQL : Go.Eng.Told IP (qae qqs 0).1 (qae qqs 0).2 (qB9) := qaw (inferInstance : Inhabited qd4) (hs := qBr) (st := qmb) (L := []) qzs (qad (l := []) (by kernel_rfl) trivial) (qrr) (fun v => by kernel_rfl) (fun v => by kernel_rfl)
abbrev qIc : Type := List UInt8
def qKn : PArgs := ⟨[.str, .fn (.func 174) []], []⟩
def qLc : List PRes := [⟨false, .str, []⟩]
def qp5 (x0 : List UInt8) : DT qIc :=
 .bi (pj 0 (qvc (x0, 0))) (fun y0 =>
 .br (leB y0.2 y0.1.length && true) (.at (List.take y0.2.toNat y0.1)) (.no))
 (.no)
def qqY (x0 : List UInt8) : Option qIc := qaF (qp5 x0).ev
theorem qAL (x0 : List UInt8) : qqY x0 = (qp5 x0).ev := qaa _
theorem qPi : FH IP 164 qKn qLc qqY := qah (F := qqs) (L := [(1016400, qB9)]) (t := qp5) qzs (qad (l := [qae qqs 0]) (by kernel_rfl) ⟨qax (by kernel_rfl) qQL, trivial⟩) (by kernel_rfl) (fun v => by kernel_rfl) (fun _ => qaa _)
def T36 : Tab := (164, FE qKn qLc qqY) :: T35
theorem qzt : qan IP T36 := ⟨qam qPi, qzs⟩
abbrev qd5 : Type := List UInt8 × Int
def qBs : List PSt := [⟨[(1016400, .junk), (0, .str), (1, .fn (.func 172) []), (5, .int .i64)], [], 0, 0⟩]
def qG8 (x0 : List UInt8) (x1 : Int) : X × St := (X.exit 0, ⟨[(0, AV.str x0), (5, AV.int IntKind.i64 x1)], [], 0, 0⟩)
def qRm : List (qd5 → X × St) := [(k2 qG8)]
def qme (x0 : List UInt8) (x1 : Int) : DT (Rd qd5) :=
 .bi (br (decide (x1 < (x0.length : Int)))
 (br (inB x0.length x1) (br (sm (qer (IntKind.i32.wrap (qaC x0 x1)))) (some (gv (qer (IntKind.i32.wrap (qaC x0 x1))))) none) none) (some false)) (fun y0 =>
 .br (y0) (.at (.next ((x0, IntKind.i64.wrap (x1 + 1))))) (.at (.done 0)))
 (.no)
def qmd : qd5 → DT (Rd qd5) := (fun v => qme v.1 v.2)
def qvd (v : qd5) : Option (Nat × qd5) := qaF (qao (fun v => (qmd v).ev) v)
theorem qrs (v : qd5) : qvd v = qao (fun v => (qmd v).ev) v := qaa _
def qCa : qb3 := LE (τ := qd5) (hD qBs) (qvd) qRm
theorem qQM : Go.Eng.Told IP (qae qqs 0).1 (qae qqs 0).2 (qCa) := qaw (inferInstance : Inhabited qd5) (hs := qBs) (st := qmd) (L := []) qzt (qad (l := []) (by kernel_rfl) trivial) (qrs) (fun v => by kernel_rfl) (fun v => by kernel_rfl)
abbrev qId : Type := List UInt8
def qKo : PArgs := ⟨[.str, .fn (.func 172) []], []⟩
def qLd : List PRes := [⟨false, .str, []⟩]
def qp6 (x0 : List UInt8) : DT qId :=
 .bi (pj 0 (qvd (x0, 0))) (fun y0 =>
 .br (leB y0.2 y0.1.length && true) (.at (List.take y0.2.toNat y0.1)) (.no))
 (.no)
def qfR (x0 : List UInt8) : Option qId := qaF (qp6 x0).ev
theorem qAM (x0 : List UInt8) : qfR x0 = (qp6 x0).ev := qaa _
theorem qPj : FH IP 164 qKo qLd qfR := qah (F := qqs) (L := [(1016400, qCa)]) (t := qp6) qzt (qad (l := [qae qqs 0]) (by kernel_rfl) ⟨qax (by kernel_rfl) qQM, trivial⟩) (by kernel_rfl) (fun v => by kernel_rfl) (fun _ => qaa _)
def T37 : Tab := (164, FE qKo qLd qfR) :: T36
theorem qIN : qan IP T37 := ⟨qam qPj, qzt⟩
abbrev qIa : Type := Bool
def qKl : PArgs := ⟨[.str], []⟩
def qLa : List PRes := [⟨false, .bool, []⟩]
def qp3 (x0 : List UInt8) : DT qIa :=
 .bi (br (!x0 == []) (br (sm (qfR x0)) (some (gv (qfR x0) == x0)) none) (some false)) (fun y0 =>
 .bi (br y0 (br ((x0.length : Int) == 1) (some true) (br (inB x0.length 0) (some (qaC x0 0 != 48)) none)) (some false)) (fun y1 =>
 .at (y1))
 (.no))
 (.no)
def qkx (x0 : List UInt8) : Option qIa := qaF (qp3 x0).ev
theorem qAJ (x0 : List UInt8) : qkx x0 = (qp3 x0).ev := qaa _
theorem qPg : FH IP 185 qKl qLa qkx := qah (F := qSo) (L := []) (t := qp3) qIN (qad (l := []) (by kernel_rfl) trivial) (by kernel_rfl) (fun v => by kernel_rfl) (fun _ => qaa _)
def T38 : Tab := (185, FE qKl qLa qkx) :: T37
theorem qIO : qan IP T38 := ⟨qam qPg, qIN⟩
abbrev qHN : Type := Bool
def qJY : PArgs := ⟨[.str, .str], []⟩
def qKM : List PRes := [⟨false, .bool, []⟩]
def qpG (x0 x1 : List UInt8) : DT qHN :=
 .bi (br (decide ((x0.length : Int) ≥ (x1.length : Int)))
 (br (leB (IntKind.i64.wrap ((x0.length : Int) - (x1.length : Int))) x0.length) (some (List.drop (IntKind.i64.wrap ((x0.length : Int) - (x1.length : Int))).toNat x0 == x1))
 none)
 (some false)) (fun y0 =>
 .at (y0))
 (.no)
def quM (x0 x1 : List UInt8) : Option qHN := qaF (qpG x0 x1).ev
theorem qAk (x0 x1 : List UInt8) : quM x0 x1 = (qpG x0 x1).ev := qaa _
theorem qOR : FH IP 221 qJY qKM (k2 quM) := qah (F := qSu) (L := []) (t := (k2 qpG)) qIO (qad (l := []) (by kernel_rfl) trivial) (by kernel_rfl) (fun v => by kernel_rfl) (fun _ => qaa _)
def T39 : Tab := (221, FE qJY qKM (k2 quM)) :: T38
theorem qIP : qan IP T39 := ⟨qam qOR, qIO⟩
abbrev qHL : Type := List UInt8 × Bool
def qJW : PArgs := ⟨[.str, .str], []⟩
def qKK : List PRes := [⟨false, .tup [.str, .bool], []⟩]
def qpC (x0 x1 : List UInt8) : DT qHL :=
 .bi (quM x0 x1) (fun y0 =>
 .br (!y0)
 (.at ((x0, false)))
 (.br (leB (IntKind.i64.wrap ((x0.length : Int) - (x1.length : Int))) x0.length && true)
 (.at ((List.take (IntKind.i64.wrap ((x0.length : Int) - (x1.length : Int))).toNat x0, true)))
 (.no)))
 (.no)
def quK (x0 x1 : List UInt8) : Option qHL := qaF (qpC x0 x1).ev
theorem qAi (x0 x1 : List UInt8) : quK x0 x1 = (qpC x0 x1).ev := qaa _
theorem qOP : FH IP 211 qJW qKK (k2 quK) := qah (F := qSs) (L := []) (t := (k2 qpC)) qIP (qad (l := []) (by kernel_rfl) trivial) (by kernel_rfl) (fun v => by kernel_rfl) (fun _ => qaa _)
def T40 : Tab := (211, FE qJW qKK (k2 quK)) :: T39
theorem qIQ : qan IP T40 := ⟨qam qOP, qIP⟩
abbrev qHV : Type := List UInt8 × Bool
def qJ5 : PArgs := ⟨[.str, .str], []⟩
def qKU : List PRes := [⟨false, .tup [.str, .bool], []⟩]
def qpO (x0 x1 : List UInt8) : DT qHV :=
 .bi (quK x0 x1) (fun y0 =>
 .at ((y0.1, y0.2)))
 (.no)
def qqQ (x0 x1 : List UInt8) : Option qHV := qaF (qpO x0 x1).ev
theorem qAs (x0 x1 : List UInt8) : qqQ x0 x1 = (qpO x0 x1).ev := qaa _
theorem qOY : FH IP 198 qJ5 qKU (k2 qqQ) := qah (F := qSq) (L := []) (t := (k2 qpO)) qIQ (qad (l := []) (by kernel_rfl) trivial) (by kernel_rfl) (fun v => by kernel_rfl) (fun _ => qaa _)
def T41 : Tab := (198, FE qJ5 qKU (k2 qqQ)) :: T40
theorem qIR : qan IP T41 := ⟨qam qOY, qIQ⟩
abbrev qHP : Type := Int
def qJ0 : PArgs := ⟨[.str, .str], []⟩
def qKO : List PRes := [⟨false, .int .i64, []⟩]
def qpI (x0 x1 : List UInt8) : DT qHP :=
 .bi (br ((x1.length : Int) == 0) (some true) (some (x1 == x0))) (fun y0 =>
 .br (y0)
 (.at (0))
 (.br ((x1.length : Int) == 1)
 (.br (inB x1.length 0) (.at (Lib.indexByte x0 (qaC x1 0).toNat.toUInt8)) (.no))
 (.br (decide ((x1.length : Int) ≥ (x0.length : Int))) (.at (-1)) (.no))))
 (.no)
def qqO (x0 x1 : List UInt8) : Option qHP := qaF (qpI x0 x1).ev
theorem qAm (x0 x1 : List UInt8) : qqO x0 x1 = (qpI x0 x1).ev := qaa _
theorem qOT : FH IP 182 qJ0 qKO (k2 qqO) := qah (F := qRK) (L := []) (t := (k2 qpI)) qIR (qad (l := [qae qRK 0]) (by kernel_rfl) ⟨qLz (by kernel_rfl), trivial⟩) (by kernel_rfl) (fun v => by kernel_rfl) (fun _ => qaa _)
def T42 : Tab := (182, FE qJ0 qKO (k2 qqO)) :: T41
theorem qIS : qan IP T42 := ⟨qam qOT, qIR⟩
abbrev qHR : Type := List UInt8 × List UInt8 × Bool
def qJ2 : PArgs := ⟨[.str, .str], []⟩
def qKQ : List PRes := [⟨false, .tup [.str, .str, .bool], []⟩]
def qpK (x0 x1 : List UInt8) : DT qHR :=
 .bi (qqO x0 x1) (fun y0 =>
 .br (decide (y0 ≥ 0))
 (.br (leB y0 x0.length && true)
 (.br (leB (IntKind.i64.wrap (y0 + (x1.length : Int))) x0.length)
 (.at ((List.take y0.toNat x0, List.drop (IntKind.i64.wrap (y0 + (x1.length : Int))).toNat x0, true)))
 (.no))
 (.no))
 (.at ((x0, [], false))))
 (.no)
def quO (x0 x1 : List UInt8) : Option qHR := qaF (qpK x0 x1).ev
theorem qAo (x0 x1 : List UInt8) : quO x0 x1 = (qpK x0 x1).ev := qaa _
theorem qOV : FH IP 212 qJ2 qKQ (k2 quO) := qah (F := qSt) (L := []) (t := (k2 qpK)) qIS (qad (l := []) (by kernel_rfl) trivial) (by kernel_rfl) (fun v => by kernel_rfl) (fun _ => qaa _)
def T43 : Tab := (212, FE qJ2 qKQ (k2 quO)) :: T42
theorem qIT : qan IP T43 := ⟨qam qOV, qIS⟩
abbrev qyp : Type := List UInt8 × List UInt8 × Bool
def qCW : PArgs := ⟨[.str, .str], []⟩
def qDI : List PRes := [⟨false, .tup [.str, .str, .bool], []⟩]
def qiT (x0 x1 : List UInt8) : DT qyp :=
 .bi (quO x0 x1) (fun y0 =>
 .at ((y0.1, y0.2.1, y0.2.2)))
 (.no)
def qjY (x0 x1 : List UInt8) : Option qyp := qaF (qiT x0 x1).ev
theorem qws (x0 x1 : List UInt8) : qjY x0 x1 = (qiT x0 x1).ev := qaa _
theorem qLU : FH IP 199 qCW qDI (k2 qjY) := qah (F := qSr) (L := []) (t := (k2 qiT)) qIT (qad (l := []) (by kernel_rfl) trivial) (by kernel_rfl) (fun v => by kernel_rfl) (fun _ => qaa _)
def T44 : Tab := (199, FE qCW qDI (k2 qjY)) :: T43
theorem qzu : qan IP T44 := ⟨qam qLU, qIT⟩
abbrev qeh : Type := List UInt8 × List UInt8
def qBH : List PSt := [⟨[(1018700, .junk), (6, .str), (7, .str)], [], 0, 0⟩]
def qHx (x0 x1 : List UInt8) : X × St := (X.exit 0, ⟨[(6, AV.str x0), (7, AV.str x1)], [], 0, 0⟩)
def qRB : List (qeh → X × St) := [(k2 qHx)]
def qmz (x0 x1 : List UInt8) : DT (Rd qeh) :=
 .br (decide ((x1.length : Int) < 4))
 (.br (decide (x1.length + 1 ≤ 4611686018427387904)) (.at (.next ((x0, x1 ++ [48])))) (.no))
 (.at (.done 0))
def qig : qeh → DT (Rd qeh) := (fun v => qmz v.1 v.2)
def qvk (v : qeh) : Option (Nat × qeh) := qaF (qao (fun v => (qig v).ev) v)
theorem qrP (v : qeh) : qvk v = qao (fun v => (qig v).ev) v := qaa _
def qCp : qb3 := LE (τ := qeh) (hD qBH) (qvk) qRB
theorem qQ1 : Go.Eng.Told IP (qae qN3 0).1 (qae qN3 0).2 (qCp) := qaw (inferInstance : Inhabited qeh) (hs := qBH) (st := qig) (L := []) qzu (qad (l := []) (by kernel_rfl) trivial) (qrP) (fun v => by kernel_rfl) (fun v => by kernel_rfl)
abbrev qyC : Type := Int × Int
def qC8 : PArgs := ⟨[.str], []⟩
def qDU : List PRes := [⟨false, .tup [.int .i64, .int .i64], []⟩]
def qi5 (x0 : List UInt8) : DT qyC :=
 .bi (qqQ x0 [37]) (fun y0 =>
 .bi (qjY y0.1 [46]) (fun y1 =>
 .bi (br (!y0.2) (some true) (br (sm (qkx y1.1)) (some !gv (qkx y1.1)) none)) (fun y2 =>
 .bi (br y2 (some true)
 (br y1.2.2
 (br (y1.2.1 == []) (some true)
 (br (decide ((y1.2.1.length : Int) > 4)) (some true)
 (br (sm (qfR y1.2.1))
 (br (!gv (qfR y1.2.1) == y1.2.1) (some true)
 (br (inB y1.2.1.length (IntKind.i64.wrap ((y1.2.1.length : Int) - 1))) (some (qaC y1.2.1 (IntKind.i64.wrap ((y1.2.1.length : Int) - 1)) == 48))
 none))
 none)))
 (some false))) (fun y3 =>
 .br (y3)
 (.at ((0, 2)))
 (.br (decide ((y1.1.length : Int) > 3))
 (.at ((0, 1)))
 (.bi (pj 0 (qvk (y1.1, y1.2.1))) (fun y4 =>
 .br (decide (y4.1.length + y4.2.length ≤ 4611686018427387904))
 (.br (pOk (y4.1 ++ y4.2) && nOk (Lib.atoiAll (y4.1 ++ y4.2)))
 (.br (decide (qP7 (Lib.atoiAll (y4.1 ++ y4.2)) > 1000000)) (.at ((0, 1))) (.at ((qP7 (Lib.atoiAll (y4.1 ++ y4.2)), 0))))
 (.br (pOk (y4.1 ++ y4.2) && qfU (Lib.atoiAll (y4.1 ++ y4.2)))
 (.br (decide (Lib.atoiSat (y4.1 ++ y4.2) > 1000000)) (.at ((0, 1))) (.at ((Lib.atoiSat (y4.1 ++ y4.2), 0))))
 (.br (pOk (y4.1 ++ y4.2) && qcA (Lib.atoiAll (y4.1 ++ y4.2))) (.at ((0, 0))) (.no))))
 (.no))
 (.no))))
 (.no))
 (.no))
 (.no))
 (.no)
def qj7 (x0 : List UInt8) : Option qyC := qaF (qi5 x0).ev
theorem qwD (x0 : List UInt8) : qj7 x0 = (qi5 x0).ev := qaa _
theorem qL9 : FH IP 187 qC8 qDU qj7 := qah (F := qN3) (L := [(1018700, qCp)]) (t := qi5) qzu (qad (l := [qae qN3 0]) (by kernel_rfl) ⟨qax (by kernel_rfl) qQ1, trivial⟩) (by kernel_rfl) (fun v => by kernel_rfl) (fun _ => qaa _)
def T45 : Tab := (187, FE qC8 qDU qj7) :: T44
theorem qIU : qan IP T45 := ⟨qam qL9, qzu⟩
abbrev qIu : Type := Int × Int × List UInt8 × Int
def qKF : PArgs := ⟨[.str], []⟩
def qLu : List PRes := [⟨false, .tup [.agg [.int .i64, .int .i64, .str], .int .i64], []⟩]
def qqn (x0 : List UInt8) : DT qIu :=
 .bi (qkx x0) (fun y0 =>
 .br (y0)
 (.br (pOk x0 && nOk (Lib.parseIntB 64 x0))
 (.at ((2, 0, x0, 0)))
 (.br (pOk x0 && qfU (Lib.parseIntB 64 x0))
 (.at ((0, 0, [], 6)))
 (.br (pOk x0 && qcA (Lib.parseIntB 64 x0)) (.at ((0, 0, [], 6))) (.no))))
 (.bi (qj7 x0) (fun y1 =>
 .br (y1.2 == 0)
 (.at ((3, 0, x0, 0)))
 (.br (y1.2 == 1) (.at ((0, 0, [], 6))) (.at ((0, 0, [], 2)))))
 (.no)))
 (.no)
def qq3 (x0 : List UInt8) : Option qIu := qaF (qqn x0).ev
theorem qA4 (x0 : List UInt8) : qq3 x0 = (qqn x0).ev := qaa _
theorem qPB : FH IP 173 qKF qLu qq3 := qah (F := qSi) (L := []) (t := qqn) qIU (qad (l := []) (by kernel_rfl) trivial) (by kernel_rfl) (fun v => by kernel_rfl) (fun _ => qaa _)
def T46 : Tab := (173, FE qKF qLu qq3) :: T45
theorem qIV : qan IP T46 := ⟨qam qPB, qIU⟩
abbrev qyr : Type := List AV
def qCY : PArgs := ⟨[], []⟩
def qDK : List PRes := [⟨false, .view 1, []⟩]
def qiV : DT qyr :=
 .at ([AV.str ([] ++ [61] ++ [61]), AV.str ([] ++ [33] ++ [61]), AV.str ([] ++ [60] ++ [61]), AV.str ([] ++ [123]), AV.str ([] ++ [125]), AV.str ([] ++ [40]), AV.str ([] ++ [41]),
 AV.str ([] ++ [44]), AV.str ([] ++ [59]), AV.str ([] ++ [58]), AV.str ([] ++ [36]), AV.str ([] ++ [43]), AV.str ([] ++ [45]), AV.str ([] ++ [42]), AV.str ([] ++ [47]),
 AV.str ([] ++ [60])])
def qj0 : Option qyr := qaF (qiV).ev
theorem qwu : qj0 = (qiV).ev := qaa _
theorem qLW : FH IP 175 qCY qDK (fun _ => qj0) := qah (F := qSk) (L := []) (t := (fun _ => qiV)) qIV (qad (l := []) (by kernel_rfl) trivial) (by kernel_rfl) (fun v => by kernel_rfl) (fun _ => qaa _)
def T47 : Tab := (175, FE qCY qDK (fun _ => qj0)) :: T46
theorem qIW : qan IP T47 := ⟨qam qLW, qIV⟩
abbrev qHM : Type := Bool
def qJX : PArgs := ⟨[.str, .str], []⟩
def qKL : List PRes := [⟨false, .bool, []⟩]
def qpE (x0 x1 : List UInt8) : DT qHM :=
 .bi (br (decide ((x0.length : Int) ≥ (x1.length : Int))) (br (leB (x1.length : Int) x0.length && true) (some (List.take (x1.length : Int).toNat x0 == x1)) none) (some false)) (fun y0 =>
 .at (y0))
 (.no)
def quL (x0 x1 : List UInt8) : Option qHM := qaF (qpE x0 x1).ev
theorem qAj (x0 x1 : List UInt8) : quL x0 x1 = (qpE x0 x1).ev := qaa _
theorem qOQ : FH IP 189 qJX qKL (k2 quL) := qah (F := qSp) (L := []) (t := (k2 qpE)) qIW (qad (l := []) (by kernel_rfl) trivial) (by kernel_rfl) (fun v => by kernel_rfl) (fun _ => qaa _)
def T48 : Tab := (189, FE qJX qKL (k2 quL)) :: T47
theorem qIX : qan IP T48 := ⟨qam qOQ, qIW⟩
abbrev qHW : Type := Bool
def qJ6 : PArgs := ⟨[.str, .str], []⟩
def qKV : List PRes := [⟨false, .bool, []⟩]
def qpP (x0 x1 : List UInt8) : DT qHW :=
 .bi (quL x0 x1) (fun y0 =>
 .at (y0))
 (.no)
def qqR (x0 x1 : List UInt8) : Option qHW := qaF (qpP x0 x1).ev
theorem qAt (x0 x1 : List UInt8) : qqR x0 x1 = (qpP x0 x1).ev := qaa _
theorem qOZ : FH IP 176 qJ6 qKV (k2 qqR) := qah (F := qSl) (L := []) (t := (k2 qpP)) qIX (qad (l := []) (by kernel_rfl) trivial) (by kernel_rfl) (fun v => by kernel_rfl) (fun _ => qaa _)
def T49 : Tab := (176, FE qJ6 qKV (k2 qqR)) :: T48
theorem qzv : qan IP T49 := ⟨qam qOZ, qIX⟩
abbrev qei : Type := List UInt8 × List AV × Int × Int × Int × Int × List UInt8
def qBI : List PSt := [⟨[(1015300, .junk), (0, .str), (2, .ref 0 0 0), (34, .view 1), (35, .int .i64), (36, .int .i64)], [(0, .box [.int .i64, .int .i64, .str] false)], 1, 0⟩]
def qHy (x0 : List UInt8) (x1 : List AV) (x2 x3 : Int) (x4 x5 : Int) (x6 : List UInt8) : X × St := (X.ret,
 ⟨[(2, AV.ref 0 0 0), (3, AV.int IntKind.i64 0)], [(0, Blk.box [AV.int IntKind.i64 4, AV.int IntKind.i64 0, AV.str (strOf (cellAt x1 x3 0))] false)], 1, 0⟩)
def qHz (x0 : List UInt8) (x1 : List AV) (x2 x3 : Int) (x4 x5 : Int) (x6 : List UInt8) : X × St := (X.exit 1, ⟨[(2, AV.ref 0 0 0), (3, AV.junk)], [(0, Blk.box [AV.int IntKind.i64 x4, AV.int IntKind.i64 x5, AV.str x6] false)], 1, 0⟩)
def qRC : List (qei → X × St) := [(k7 qHy), (k7 qHz)]
def qmB (x0 : List UInt8) (x1 : List AV) (x2 x3 : Int) (x4 x5 : Int) (x6 : List UInt8) : DT (Rd qei) :=
 .br (decide (x3 < x2))
 (.br (qaS [CS.str] x1 x3)
 (.bi (qqR x0 (strOf (cellAt x1 x3 0))) (fun y0 =>
 .br (y0) (.at (.done 0)) (.at (.next ((x0, x1, x2, IntKind.i64.wrap (x3 + 1), x4, x5, x6)))))
 (.no))
 (.no))
 (.at (.done 1))
def qmA : qei → DT (Rd qei) := (fun v => qmB v.1 v.2.1 v.2.2.1 v.2.2.2.1 v.2.2.2.2.1 v.2.2.2.2.2.1 v.2.2.2.2.2.2)
def qrQ (v : qei) : Option (Nat × qei) := qaF (qao (fun v => (qmA v).ev) v)
theorem qrR (v : qei) : qrQ v = qao (fun v => (qmA v).ev) v := qaa _
def qCq : qb3 := LE (τ := qei) (hD qBI) (qrQ) qRC
theorem qQ2 : Go.Eng.Told IP (qae qN2 0).1 (qae qN2 0).2 (qCq) := qaw (inferInstance : Inhabited qei) (hs := qBI) (st := qmA) (L := []) qzv (qad (l := []) (by kernel_rfl) trivial) (qrR) (fun v => by kernel_rfl) (fun v => by kernel_rfl)
abbrev qyE : Type := Int × Int × List UInt8 × Int
def qDa : PArgs := ⟨[.str], []⟩
def qDW : List PRes := [⟨false, .tup [.agg [.int .i64, .int .i64, .str], .int .i64], []⟩]
def qi7 (x0 : List UInt8) : DT qyE :=
 .br (inB x0.length 0)
 (.bi (qnz (IntKind.i32.wrap (qaC x0 0))) (fun y0 =>
 .br (y0)
 (.bi (qqX x0) (fun y1 =>
 .bi (qj8 y1) (fun y2 =>
 .br (y2)
 (.at ((5, 0, y1, 0)))
 (.br (decide ((y1.length : Int) > 16)) (.at ((0, 0, [], 4))) (.at ((1, 0, y1, 0)))))
 (.no))
 (.no))
 (.bi (qer (IntKind.i32.wrap (qaC x0 0))) (fun y1 =>
 .br (y1)
 (.bi (qqY x0) (fun y2 =>
 .bi (qq3 y2) (fun y3 =>
 .at ((y3.1, y3.2.1, y3.2.2.1, y3.2.2.2)))
 (.no))
 (.no))
 (.bi (qj0) (fun y2 =>
 .bi (pj 0 (qrQ (x0, y2, (y2.length : Int), 0, 0, 0, []))) (fun y3 =>
 .at ((4, 0, strOf (cellAt y3.2.1 y3.2.2.2.1 0), 0)))
 (.bi (pj 1 (qrQ (x0, y2, (y2.length : Int), 0, 0, 0, []))) (fun y3 =>
 .at ((0, 0, [], 2)))
 (.no)))
 (.no)))
 (.no)))
 (.no))
 (.no)
def qcz (x0 : List UInt8) : Option qyE := qaF (qi7 x0).ev
theorem qwF (x0 : List UInt8) : qcz x0 = (qi7 x0).ev := qaa _
theorem qMb : FH IP 153 qDa qDW qcz := qah (F := qN2) (L := [(1015300, qCq)]) (t := qi7) qzv (qad (l := [qae qN2 0]) (by kernel_rfl) ⟨qax (by kernel_rfl) qQ2, trivial⟩) (by kernel_rfl) (fun v => by kernel_rfl) (fun _ => qaa _)
def T50 : Tab := (153, FE qDa qDW qcz) :: T49
theorem qzw : qan IP T50 := ⟨qam qMb, qzv⟩
abbrev qcv : Type := (List UInt8 × Int) ⊕ (List UInt8 × Int × List AV)
def qBm : List PSt := [⟨[(1013400, .junk), (0, .str), (5, .nils 3), (6, .int .i64)], [], 0, 0⟩, ⟨[(1013400, .junk), (0, .str), (5, .own 0 0), (6, .int .i64)], [(0, .arr 3 false)], 1, 0⟩]
def qGV (x0 : List UInt8) (x1 : Int) : X × St := (X.ret, ⟨[(2, AV.nils ⟨3, NKd.nil⟩), (3, AV.int IntKind.i64 0), (4, AV.int IntKind.i64 0)], [], 0, 0⟩)
def qGW (x0 : List UInt8) (x1 : Int) : X × St := (X.ret,
 ⟨[(2, AV.nils ⟨3, NKd.nil⟩), (3, AV.int IntKind.i64 (IntKind.i64.wrap (x1 + ((Lib.countByte (List.take (gv (qb6 x0)).toNat x0) 10) : Int)))),
 (4, AV.int IntKind.i64 (gv (qcz (List.drop (gv (qb6 x0)).toNat x0))).2.2.2)], [], 0, 0⟩)
def qGX (x0 : List UInt8) (x1 : Int) (x2 : List AV) : X × St := (X.ret, ⟨[(2, AV.own 0 0 none), (3, AV.int IntKind.i64 0), (4, AV.int IntKind.i64 0)], [(0, Blk.arr 3 x2 false)], 1, 0⟩)
def qGY (x0 : List UInt8) (x1 : Int) (x2 : List AV) : X × St := (X.ret,
 ⟨[(2, AV.nils ⟨3, NKd.nil⟩), (3, AV.int IntKind.i64 (IntKind.i64.wrap (x1 + ((Lib.countByte (List.take (gv (qb6 x0)).toNat x0) 10) : Int)))),
 (4, AV.int IntKind.i64 (gv (qcz (List.drop (gv (qb6 x0)).toNat x0))).2.2.2)], [], 0, 0⟩)
def qRg : List (qcv → X × St) := [fun w => (k2 qGV) ((sl w)), fun w => (k2 qGW) ((sl w)), fun w => (k3 qGX) ((sr w)), fun w => (k3 qGY) ((sr w))]
def qhg (x0 : List UInt8) (x1 : Int) : DT (Rd qcv) :=
 .bi (qb6 x0) (fun y0 =>
 .br (leB y0 x0.length && true)
 (.br (leB y0 x0.length)
 (.br (List.drop y0.toNat x0 == [])
 (.at (.done 0))
 (.bi (qcz (List.drop y0.toNat x0)) (fun y1 =>
 .br (y1.2.2.2 != 0)
 (.at (.done 1))
 (.br (leB (y1.2.2.1.length : Int) (List.drop y0.toNat x0).length)
 (.at (.next ((.inr (List.drop (y1.2.2.1.length : Int).toNat (List.drop y0.toNat x0), IntKind.i64.wrap (x1 + ((Lib.countByte (List.take y0.toNat x0) 10) : Int)), [AV.agg [AV.int IntKind.i64 y1.1, AV.int IntKind.i64 (IntKind.i64.wrap (x1 + ((Lib.countByte (List.take y0.toNat x0) 10) : Int))), AV.str y1.2.2.1]])))))
 (.no)))
 (.no)))
 (.no))
 (.no))
 (.no)
def qhh (x0 : List UInt8) (x1 : Int) (x2 : List AV) : DT (Rd qcv) :=
 .bi (qb6 x0) (fun y0 =>
 .br (leB y0 x0.length && true)
 (.br (leB y0 x0.length)
 (.br (List.drop y0.toNat x0 == [])
 (.at (.done 2))
 (.bi (qcz (List.drop y0.toNat x0)) (fun y1 =>
 .br (y1.2.2.2 != 0)
 (.at (.done 3))
 (.br (room (x2.length + 1) 32)
 (.br (leB (y1.2.2.1.length : Int) (List.drop y0.toNat x0).length)
 (.at (.next ((.inr (List.drop (y1.2.2.1.length : Int).toNat (List.drop y0.toNat x0), IntKind.i64.wrap (x1 + ((Lib.countByte (List.take y0.toNat x0) 10) : Int)), x2 ++ [AV.agg [AV.int IntKind.i64 y1.1, AV.int IntKind.i64 (IntKind.i64.wrap (x1 + ((Lib.countByte (List.take y0.toNat x0) 10) : Int))), AV.str y1.2.2.1]])))))
 (.no))
 (.no)))
 (.no)))
 (.no))
 (.no))
 (.no)
def qdz : qcv → DT (Rd qcv) := (Sum.elim (fun v => qhg v.1 v.2) (fun v => qhh v.1 v.2.1 v.2.2))
def qir (v : qcv) : Option (Nat × qcv) := qaF (qao (fun v => (qdz v).ev) v)
theorem qk5 (v : qcv) : qir v = qao (fun v => (qdz v).ev) v := qaa _
def qB4 : qb3 := LE (τ := qcv) (hD qBm) (qir) qRg
theorem qQG : Go.Eng.Told IP (qae qN0 0).1 (qae qN0 0).2 (qB4) := qaw (inferInstance : Inhabited qcv) (hs := qBm) (st := qdz) (L := []) qzw (qad (l := []) (by kernel_rfl) trivial) (qk5) (fun v => match v with | (.inl v) => by kernel_rfl | (.inr v) => by kernel_rfl) (fun v => match v with | (.inl v) => by kernel_rfl | (.inr v) => by kernel_rfl)
abbrev qy5 : Type := List AV × Int × Int
def qKd : PArgs := ⟨[.str], []⟩
def qK2 : List PRes := [⟨false, .tup [.view 3, .int .i64, .int .i64], []⟩]
def qpV (x0 : List UInt8) : DT qy5 :=
 .br (decide ((x0.length : Int) > 2048))
 (.at (([], 0, 5)))
 (.bi (pj 0 (qir (Sum.inl (x0, 1)))) (fun y0 =>
 .at (([], 0, 0)))
 (.bi (pj 1 (qir (Sum.inl (x0, 1)))) (fun y0 =>
 .at (([], IntKind.i64.wrap ((sl y0).2 + ((Lib.countByte (List.take (gv (qb6 (sl y0).1)).toNat (sl y0).1) 10) : Int)), (gv (qcz (List.drop (gv (qb6 (sl y0).1)).toNat (sl y0).1))).2.2.2)))
 (.bi (pj 2 (qir (Sum.inl (x0, 1)))) (fun y0 =>
 .at (((sr y0).2.2, 0, 0)))
 (.bi (pj 3 (qir (Sum.inl (x0, 1)))) (fun y0 =>
 .at (([], IntKind.i64.wrap ((sr y0).2.1 + ((Lib.countByte (List.take (gv (qb6 (sr y0).1)).toNat (sr y0).1) 10) : Int)), (gv (qcz (List.drop (gv (qb6 (sr y0).1)).toNat (sr y0).1))).2.2.2)))
 (.no)))))
def qqV (x0 : List UInt8) : Option qy5 := qaF (qpV x0).ev
theorem qAA (x0 : List UInt8) : qqV x0 = (qpV x0).ev := qaa _
theorem qO7 : FH IP 134 qKd qK2 qqV := qah (F := qN0) (L := [(1013400, qB4)]) (t := qpV) qzw (qad (l := [qae qN0 0]) (by kernel_rfl) ⟨qax (by kernel_rfl) qQG, trivial⟩) (by kernel_rfl) (fun v => by kernel_rfl) (fun _ => qaa _)
def T51 : Tab := (134, FE qKd qK2 qqV) :: T50
theorem qIY : qan IP T51 := ⟨qam qO7, qzw⟩
abbrev qH8 : Type := Bool
def qKj : PArgs := ⟨[.str], []⟩
def qK8 : List PRes := [⟨false, .bool, []⟩]
def qp1 (x0 : List UInt8) : DT qH8 :=
 .bi (qqV x0) (fun y0 =>
 .bi (br (y0.2.2 == 0) (some ((y0.1.length : Int) == 1)) (some false)) (fun y1 =>
 .bi (br y1 (br (qaS [CS.int IntKind.i64, CS.int IntKind.i64, CS.str] y0.1 0) (some (intOf (cellAt y0.1 0 0) == 1)) none) (some false)) (fun y2 =>
 .bi (br y2 (br (qaS [CS.int IntKind.i64, CS.int IntKind.i64, CS.str] y0.1 0) (some (strOf (cellAt y0.1 0 2) == x0)) none) (some false)) (fun y3 =>
 .at (y3))
 (.no))
 (.no))
 (.no))
 (.no)
def qnp (x0 : List UInt8) : Option qH8 := qaF (qp1 x0).ev
theorem qAH (x0 : List UInt8) : qnp x0 = (qp1 x0).ev := qaa _
theorem qPe : FH IP 111 qKj qK8 qnp := qah (F := qR3) (L := []) (t := qp1) qIY (qad (l := []) (by kernel_rfl) trivial) (by kernel_rfl) (fun v => by kernel_rfl) (fun _ => qaa _)
def T52 : Tab := (111, FE qKj qK8 qnp) :: T51
theorem qIZ : qan IP T52 := ⟨qam qPe, qIY⟩
abbrev qyy : Type := Bool
def qC5 : PArgs := ⟨[.agg [.int .i64, .int .i64, .str, .view 4]], []⟩
def qDR : List PRes := [⟨false, .bool, []⟩]
def qi2 (x0 x1 : Int) (x2 : List UInt8) (x3 : List AV) : DT qyy :=
 .bi (br (x0 != 4) (some true) (br (sm (qnp x2)) (some (gv (qnp x2))) none)) (fun y0 =>
 .at (y0))
 (.no)
def qj4 (x0 x1 : Int) (x2 : List UInt8) (x3 : List AV) : Option qyy := qaF (qi2 x0 x1 x2 x3).ev
theorem qwA (x0 x1 : Int) (x2 : List UInt8) (x3 : List AV) : qj4 x0 x1 x2 x3 = (qi2 x0 x1 x2 x3).ev := qaa _
theorem qL6 : FH IP 88 qC5 qDR (k4 qj4) := qah (F := F88) (L := []) (t := (k4 qi2)) qIZ (qad (l := []) (by kernel_rfl) trivial) (by kernel_rfl) (fun v => by kernel_rfl) (fun _ => qaa _)
def T53 : Tab := (88, FE qC5 qDR (k4 qj4)) :: T52
theorem qI0 : qan IP T53 := ⟨qam qL6, qIZ⟩
abbrev qsQ : Type := Bool
def qli : PArgs := ⟨[.agg [.int .i64, .int .i64, .str, .view 4], .fn (.func 88) []], []⟩
def qlw : List PRes := [⟨false, .bool, []⟩]
abbrev qbf : Type := Int → Int → (List UInt8) → (List AV) → Option qsQ
abbrev qLD : Type := Bool
def qDB : PArgs := ⟨[.view 4, .fn (.func 109) [.ptr [.fn (.func 88) []]]], []⟩
def qEm : List PRes := [⟨false, .bool, []⟩]
abbrev qdc : Type := (List AV) → Option qLD
abbrev qyB : Type := Int
def qsf : PArgs := ⟨[.view 4, .fn (.func 109) [.ptr [.fn (.func 88) []]]], []⟩
def qsk : List PRes := [⟨false, .int .i64, []⟩]
abbrev qbQ : Type := (List AV) → Option qyB
abbrev qy6 : Type := Bool
def qsi : PArgs := ⟨[.agg [.int .i64, .int .i64, .str, .view 4], .ptr [.fn (.func 88) []]], []⟩
def qsn : List PRes := [⟨false, .bool, []⟩]
abbrev qbW : Type := Int → Int → (List UInt8) → (List AV) → Option qy6
def qoq (G_u105q : qbf) (G_u8q : qdc) (G_u12q : qbQ) (G_u58q : qbW) : Prop := FH IP 86 qli qlw (k4 G_u105q) ∧ FH IP 108 qDB qEm G_u8q ∧ FH IP 133 qsf qsk G_u12q ∧ FH IP 109 qsi qsn (k4 G_u58q)
def qFB (G_u105q : qbf) (G_u8q : qdc) (G_u12q : qbQ) (G_u58q : qbW) : Tab := (86, FE qli qlw (k4 G_u105q)) :: (108, FE qDB qEm G_u8q) :: (133, FE qsf qsk G_u12q) :: (109, FE qsi qsn (k4 G_u58q)) :: T53
theorem qcT (G_u105q : qbf) (G_u8q : qdc) (G_u12q : qbQ) (G_u58q : qbW) (hG : qoq G_u105q G_u8q G_u12q G_u58q) : qan IP (qFB G_u105q G_u8q G_u12q G_u58q) := ⟨qam (hG.1), qam (hG.2.1), qam (hG.2.2.1), qam (hG.2.2.2), qI0⟩
abbrev qdV : Type := List AV × Int × Int
def qBf : List PSt := [⟨[(1013300, .junk), (0, .view 4), (1, .fn (.func 109) [.ptr [.fn (.func 88) []]]), (7, .int .i64), (8, .int .i64)], [], 0, 0⟩]
def qGG (x0 : List AV) (x1 x2 : Int) : X × St := (X.ret, ⟨[(4, AV.int IntKind.i64 x2)], [], 0, 0⟩)
def qGH (x0 : List AV) (x1 x2 : Int) : X × St := (X.exit 0, ⟨[(4, AV.junk)], [], 0, 0⟩)
def qQ9 : List (qdV → X × St) := [(k3 qGG), (k3 qGH)]
def qlW (G_u105q : qbf) (G_u8q : qdc) (G_u12q : qbQ) (G_u58q : qbW) (x0 : List AV) (x1 x2 : Int) : DT (Rd qdV) :=
 .br (decide (x2 < x1))
 (.br (qaS [CS.int IntKind.i64, CS.int IntKind.i64, CS.str, CS.slice 4] x0 x2)
 (.bi (G_u58q (intOf (cellAt x0 x2 0)) (intOf (cellAt x0 x2 1)) (strOf (cellAt x0 x2 2)) (qal (cellAt x0 x2 3))) (fun y0 =>
 .br (y0) (.at (.done 0)) (.at (.next ((x0, x1, IntKind.i64.wrap (x2 + 1))))))
 (.no))
 (.no))
 (.at (.done 1))
def qlV (G_u105q : qbf) (G_u8q : qdc) (G_u12q : qbQ) (G_u58q : qbW) : qdV → DT (Rd qdV) := (fun v => qlW G_u105q G_u8q G_u12q G_u58q v.1 v.2.1 v.2.2)
def qra (G_u105q : qbf) (G_u8q : qdc) (G_u12q : qbQ) (G_u58q : qbW) (v : qdV) : Option (Nat × qdV) := qaF (qao (fun v => (qlV G_u105q G_u8q G_u12q G_u58q v).ev) v)
theorem qrb (G_u105q : qbf) (G_u8q : qdc) (G_u12q : qbQ) (G_u58q : qbW) (v : qdV) : qra G_u105q G_u8q G_u12q G_u58q v = qao (fun v => (qlV G_u105q G_u8q G_u12q G_u58q v).ev) v := qaa _
def qBX (G_u105q : qbf) (G_u8q : qdc) (G_u12q : qbQ) (G_u58q : qbW) : qb3 := LE (τ := qdV) (hD qBf) (qra G_u105q G_u8q G_u12q G_u58q) qQ9
theorem qQz (G_u105q : qbf) (G_u8q : qdc) (G_u12q : qbQ) (G_u58q : qbW) (hG : qoq G_u105q G_u8q G_u12q G_u58q) : Go.Eng.Told IP (qae qFq 0).1 (qae qFq 0).2 (qBX G_u105q G_u8q G_u12q G_u58q) := qaw (inferInstance : Inhabited qdV) (hs := qBf) (st := qlV G_u105q G_u8q G_u12q G_u58q) (L := []) (qcT G_u105q G_u8q G_u12q G_u58q hG) (qad (l := []) (by kernel_rfl) trivial) (qrb G_u105q G_u8q G_u12q G_u58q) (fun v => by kernel_rfl) (fun v => by kernel_rfl)
def qpu (G_u105q : qbf) (G_u8q : qdc) (G_u12q : qbQ) (G_u58q : qbW) (x0 x1 : Int) (x2 : List UInt8) (x3 : List AV) : DT qsQ :=
 .bi (qj4 x0 x1 x2 x3) (fun y0 =>
 .bi (br y0 (br (sm (G_u8q x3)) (some !gv (G_u8q x3)) none) (some false)) (fun y1 =>
 .at (y1))
 (.no))
 (.no)
def qEJ (G_u105q : qbf) (G_u8q : qdc) (G_u12q : qbQ) (G_u58q : qbW) (x0 : List AV) : DT qLD :=
 .bi (G_u12q x0) (fun y0 =>
 .at (decide (y0 ≥ 0)))
 (.no)
def quv (G_u105q : qbf) (G_u8q : qdc) (G_u12q : qbQ) (G_u58q : qbW) (x0 : List AV) : DT qyB :=
 .bi (pj 0
 (qra G_u105q G_u8q G_u12q G_u58q
 (x0, (x0.length : Int), 0))) (fun y0 =>
 .at (y0.2.2))
 (.bi (pj 1
 (qra G_u105q G_u8q G_u12q G_u58q
 (x0, (x0.length : Int), 0))) (fun y0 =>
 .at (-1))
 (.no))
def quy (G_u105q : qbf) (G_u8q : qdc) (G_u12q : qbQ) (G_u58q : qbW) (x0 x1 : Int) (x2 : List UInt8) (x3 : List AV) : DT qy6 :=
 .bi (G_u105q x0 x1 x2 x3) (fun y0 =>
 .at (!y0))
 (.no)
end
end Go.Proofs.H15c

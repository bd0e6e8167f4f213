/- Functions over plain data. Printed by a program of mine. -/
import Derived.Test.YtigchhcddgibhaaGreatDoorD13_2
import Derived.KernelRfl
set_option linter.unusedVariables false
set_option linter.unusedSimpArgs false
set_option linter.unnecessarySimpa false
namespace Go.Proofs.H13
open Go Go.Eng
set_option maxRecDepth 100000
noncomputable section
def qPv (G_u164q : qbS) (G_u1q : qeL) (G_u5q : qeN) (G_u109q : qbQ) (x0 : List AV) : DT qYd :=
 .bi (G_u5q x0) (fun y0 =>
 .at (decide (y0 ≥ 0)))
 (.no)
def qPx (G_u164q : qbS) (G_u1q : qeL) (G_u5q : qeN) (G_u109q : qbQ) (x0 : List AV) : DT qYf :=
 .bi (pj 0
 (qKZ G_u164q G_u1q G_u5q G_u109q (x0, (x0.length : Int), 0))) (fun y0 =>
 .at (y0.2.2))
 (.bi (pj 1
 (qKZ G_u164q G_u1q G_u5q G_u109q (x0, (x0.length : Int), 0))) (fun y0 =>
 .at (-1))
 (.no))
def quA (G_u164q : qbS) (G_u1q : qeL) (G_u5q : qeN) (G_u109q : qbQ) (x0 x1 : Int) (x2 : List UInt8) (x3 : List AV) : DT qyd :=
 .bi (G_u164q x0 x1 x2 x3) (fun y0 =>
 .at (!y0))
 (.no)
def qaq : Nat → qbS × qeL × qeN × qbQ
 | 0 => (fun _ _ _ _ => none, fun _ => none, fun _ => none, fun _ _ _ _ => none)
 | n + 1 => (fun x0 x1 x2 x3 => (quJ ((qaq n).1) ((qaq n).2.1) ((qaq n).2.2.1) ((qaq n).2.2.2) x0 x1 x2 x3).ev, fun x0 => (qPv ((qaq n).1) ((qaq n).2.1) ((qaq n).2.2.1) ((qaq n).2.2.2) x0).ev, fun x0 => (qPx ((qaq n).1) ((qaq n).2.1) ((qaq n).2.2.1) ((qaq n).2.2.2) x0).ev, fun x0 x1 x2 x3 => (quA ((qaq n).1) ((qaq n).2.1) ((qaq n).2.2.1) ((qaq n).2.2.2) x0 x1 x2 x3).ev)
def qty (x0 x1 : Int) (x2 : List UInt8) (x3 : List AV) : Option qyh := qlO fun n => (qaq n).1 x0 x1 x2 x3
def q4J (x0 : List AV) : Option qYd := qlO fun n => (qaq n).2.1 x0
def q4L (x0 : List AV) : Option qYf := qlO fun n => (qaq n).2.2.1 x0
def qJm (x0 x1 : Int) (x2 : List UInt8) (x3 : List AV) : Option qyd := qlO fun n => (qaq n).2.2.2 x0 x1 x2 x3
theorem qfl : ∀ n, qs3 ((qaq n).1) ((qaq n).2.1) ((qaq n).2.2.1) ((qaq n).2.2.2)
 | 0 => ⟨(fun v y h => nomatch h), (fun v y h => nomatch h), (fun v y h => nomatch h), (fun v y h => nomatch h)⟩
 | n + 1 => have hG := qfl n
 ⟨qaf (F := F82) (L := []) (t := (k4 (quJ ((qaq n).1) ((qaq n).2.1) ((qaq n).2.2.1) ((qaq n).2.2.2)))) (qeg ((qaq n).1) ((qaq n).2.1) ((qaq n).2.2.1) ((qaq n).2.2.2) hG) (qab (l := []) (by kernel_rfl) trivial) (by kernel_rfl) (fun v => by kernel_rfl) (fun v => rfl), qaf (F := q6K) (L := []) (t := (qPv ((qaq n).1) ((qaq n).2.1) ((qaq n).2.2.1) ((qaq n).2.2.2))) (qeg ((qaq n).1) ((qaq n).2.1) ((qaq n).2.2.1) ((qaq n).2.2.2) hG) (qab (l := []) (by kernel_rfl) trivial) (by kernel_rfl) (fun v => by kernel_rfl) (fun v => rfl), qaf (F := qQ8) (L := [(1013100, qVT ((qaq n).1) ((qaq n).2.1) ((qaq n).2.2.1) ((qaq n).2.2.2))]) (t := (qPx ((qaq n).1) ((qaq n).2.1) ((qaq n).2.2.1) ((qaq n).2.2.2))) (qeg ((qaq n).1) ((qaq n).2.1) ((qaq n).2.2.1) ((qaq n).2.2.2) hG) (qab (l := [qah qQ8 0]) (by kernel_rfl) ⟨qay (by kernel_rfl) (zar ((qaq n).1) ((qaq n).2.1) ((qaq n).2.2.1) ((qaq n).2.2.2) hG), trivial⟩) (by kernel_rfl) (fun v => by kernel_rfl) (fun v => rfl), qaf (F := q6L) (L := []) (t := (k4 (quA ((qaq n).1) ((qaq n).2.1) ((qaq n).2.2.1) ((qaq n).2.2.2)))) (qeg ((qaq n).1) ((qaq n).2.1) ((qaq n).2.2.1) ((qaq n).2.2.2) hG) (qab (l := []) (by kernel_rfl) trivial) (by kernel_rfl) (fun v => by kernel_rfl) (fun v => rfl)⟩
theorem qY5 : FH IP 82 qpC qpR (k4 qty) := qcz (p := qpC) (rs := qpR) (s := fun n => (k4 ((qaq n).1))) fun n => (qfl n).1
theorem q8e : FH IP 111 qMS qOu q4J := qcz (p := qMS) (rs := qOu) (s := fun n => ((qaq n).2.1)) fun n => (qfl n).2.1
theorem q8g : FH IP 131 qNr qO3 q4L := qcz (p := qNr) (rs := qO3) (s := fun n => ((qaq n).2.2.1)) fun n => (qfl n).2.2.1
theorem qYx : FH IP 112 qpy qpN (k4 qJm) := qcz (p := qpy) (rs := qpN) (s := fun n => (k4 ((qaq n).2.2.2))) fun n => (qfl n).2.2.2
def T35 : Tab := (82, FE qpC qpR (k4 qty)) :: T34
theorem q29 : qaj IP T35 := ⟨qak qY5, qUI⟩
def T36 : Tab := (111, FE qMS qOu q4J) :: T35
theorem q3a : qaj IP T36 := ⟨qak q8e, q29⟩
def T37 : Tab := (131, FE qNr qO3 q4L) :: T36
theorem q3b : qaj IP T37 := ⟨qak q8g, q3a⟩
def T38 : Tab := (112, FE qpy qpN (k4 qJm)) :: T37
theorem qUJ : qaj IP T38 := ⟨qak qYx, q3b⟩
abbrev qTM : Type := Bool
def qWp : PArgs := ⟨[.int .i32], []⟩
def qXt : List PRes := [⟨false, .bool, []⟩]
def qu8 (x0 : Int) : DT qTM :=
 .at (x0 != 10)
def qrP (x0 : Int) : Option qTM := qaz (qu8 x0).ev
theorem qJL (x0 : Int) : qrP x0 = (qu8 x0).ev := qaa _
theorem q3X : FH IP 147 qWp qXt qrP := qaf (F := q7D) (L := []) (t := qu8) qUJ (qab (l := []) (by kernel_rfl) trivial) (by kernel_rfl) (fun v => by kernel_rfl) (fun _ => qaa _)
def T39 : Tab := (147, FE qWp qXt qrP) :: T38
theorem qIy : qaj IP T39 := ⟨qak q3X, qUJ⟩
abbrev qfY : Type := List UInt8 × Int
def qKP : List PSt := [⟨[(1014600, .junk), (0, .str), (1, .fn (.func 147) []), (5, .int .i64)], [], 0, 0⟩]
def qTc (x0 : List UInt8) (x1 : Int) : X × St := (X.exit 0, ⟨[(0, AV.str x0), (5, AV.int IntKind.i64 x1)], [], 0, 0⟩)
def q6F : List (qfY → X × St) := [(k2 qTc)]
def qqC (x0 : List UInt8) (x1 : Int) : DT (Rd qfY) :=
 .bi (br (decide (x1 < (x0.length : Int)))
 (br (inB x0.length x1) (br (sm (qrP (IntKind.i32.wrap (qaX x0 x1)))) (some (gv (qrP (IntKind.i32.wrap (qaX x0 x1))))) none) none) (some false)) (fun y0 =>
 .br (y0) (.at (.next ((x0, IntKind.i64.wrap (x1 + 1))))) (.at (.done 0)))
 (.no)
def qqB : qfY → DT (Rd qfY) := (fun v => qqC v.1 v.2)
def qBz (v : qfY) : Option (Nat × qfY) := qaz (qar (fun v => (qqB v).ev) v)
theorem qwX (v : qfY) : qBz v = qar (fun v => (qqB v).ev) v := qaa _
def qLl : qcJ := LE (τ := qfY) (hD qKP) (qBz) q6F
theorem q6d : Go.Eng.Told IP (qah qvP 0).1 (qah qvP 0).2 (qLl) := qax (inferInstance : Inhabited qfY) (hs := qKP) (st := qqB) (L := []) qIy (qab (l := []) (by kernel_rfl) trivial) (qwX) (fun v => by kernel_rfl) (fun v => by kernel_rfl)
abbrev qF2 : Type := List UInt8
def qL2 : PArgs := ⟨[.str, .fn (.func 147) []], []⟩
def qND : List PRes := [⟨false, .str, []⟩]
def qmf (x0 : List UInt8) : DT qF2 :=
 .bi (pj 0 (qBz (x0, 0))) (fun y0 =>
 .br (leB y0.2 y0.1.length && true) (.at (List.take y0.2.toNat y0.1)) (.no))
 (.no)
def qit (x0 : List UInt8) : Option qF2 := qaz (qmf x0).ev
theorem qDj (x0 : List UInt8) : qit x0 = (qmf x0).ev := qaa _
theorem qYC : FH IP 146 qL2 qND qit := qaf (F := qvP) (L := [(1014600, qLl)]) (t := qmf) qIy (qab (l := [qah qvP 0]) (by kernel_rfl) ⟨qay (by kernel_rfl) q6d, trivial⟩) (by kernel_rfl) (fun v => by kernel_rfl) (fun _ => qaa _)
def T40 : Tab := (146, FE qL2 qND qit) :: T39
theorem qIz : qaj IP T40 := ⟨qak qYC, qIy⟩
abbrev qfX : Type := List UInt8 × Int
def qKO : List PSt := [⟨[(1014200, .junk), (0, .str), (3, .int .i64)], [], 0, 0⟩]
def qTa (x0 : List UInt8) (x1 : Int) : X × St := (X.ret, ⟨[(2, AV.int IntKind.i64 x1), (3, AV.int IntKind.i64 x1)], [], 0, 0⟩)
def qTb (x0 : List UInt8) (x1 : Int) : X × St := (X.exit 0, ⟨[(2, AV.junk), (3, AV.int IntKind.i64 x1)], [], 0, 0⟩)
def q6E : List (qfX → X × St) := [(k2 qTa), (k2 qTb)]
def qqA (x0 : List UInt8) (x1 : Int) : DT (Rd qfX) :=
 .br (decide (x1 < (x0.length : Int)))
 (.br (inB x0.length x1)
 (.br (qaX x0 x1 == 32)
 (.br (qaX x0 x1 == 32)
 (.at (.next ((x0, IntKind.i64.wrap (x1 + 1)))))
 (.br (qaX x0 x1 == 35)
 (.br (leB x1 x0.length)
 (.bi (qit (List.drop x1.toNat x0)) (fun y0 =>
 .at (.next ((x0, IntKind.i64.wrap (x1 + (y0.length : Int))))))
 (.no))
 (.no))
 (.at (.done 0))))
 (.br (qaX x0 x1 == 9)
 (.br (qaX x0 x1 == 9)
 (.at (.next ((x0, IntKind.i64.wrap (x1 + 1)))))
 (.br (qaX x0 x1 == 35)
 (.br (leB x1 x0.length)
 (.bi (qit (List.drop x1.toNat x0)) (fun y0 =>
 .at (.next ((x0, IntKind.i64.wrap (x1 + (y0.length : Int))))))
 (.no))
 (.no))
 (.at (.done 0))))
 (.br (qaX x0 x1 == 10)
 (.at (.next ((x0, IntKind.i64.wrap (x1 + 1)))))
 (.br (qaX x0 x1 == 35)
 (.br (leB x1 x0.length)
 (.bi (qit (List.drop x1.toNat x0)) (fun y0 =>
 .at (.next ((x0, IntKind.i64.wrap (x1 + (y0.length : Int))))))
 (.no))
 (.no))
 (.at (.done 0))))))
 (.no))
 (.at (.done 1))
def qlo : qfX → DT (Rd qfX) := (fun v => qqA v.1 v.2)
def qwW (v : qfX) : Option (Nat × qfX) := qaz (qar (fun v => (qlo v).ev) v)
theorem qjq (v : qfX) : qwW v = qar (fun v => (qlo v).ev) v := qaa _
def qLk : qcJ := LE (τ := qfX) (hD qKO) (qwW) q6E
theorem q6c : Go.Eng.Told IP (qah q2x 0).1 (qah q2x 0).2 (qLk) := qax (inferInstance : Inhabited qfX) (hs := qKO) (st := qlo) (L := []) qIz (qab (l := []) (by kernel_rfl) trivial) (qjq) (fun v => by kernel_rfl) (fun v => by kernel_rfl)
abbrev qFY : Type := Int
def qLY : PArgs := ⟨[.str], []⟩
def qNz : List PRes := [⟨false, .int .i64, []⟩]
def qmb (x0 : List UInt8) : DT qFY :=
 .bi (pj 0 (qwW (x0, 0))) (fun y0 =>
 .at (y0.2))
 (.bi (pj 1 (qwW (x0, 0))) (fun y0 =>
 .at (y0.2))
 (.no))
def qbO (x0 : List UInt8) : Option qFY := qaz (qmb x0).ev
theorem qDf (x0 : List UInt8) : qbO x0 = (qmb x0).ev := qaa _
theorem qYy : FH IP 142 qLY qNz qbO := qaf (F := q2x) (L := [(1014200, qLk)]) (t := qmb) qIz (qab (l := [qah q2x 0]) (by kernel_rfl) ⟨qay (by kernel_rfl) q6c, trivial⟩) (by kernel_rfl) (fun v => by kernel_rfl) (fun _ => qaa _)
def T41 : Tab := (142, FE qLY qNz qbO) :: T40
theorem qUK : qaj IP T41 := ⟨qak qYy, qIz⟩
abbrev qF0 : Type := Bool
def qL0 : PArgs := ⟨[.int .i32], []⟩
def qNB : List PRes := [⟨false, .bool, []⟩]
def qmd (x0 : Int) : DT qF0 :=
 .bi (br (decide (x0 ≥ 97)) (some (decide (x0 ≤ 122))) (some false)) (fun y0 =>
 .at (y0))
 (.no)
def qko (x0 : Int) : Option qF0 := qaz (qmd x0).ev
theorem qDh (x0 : Int) : qko x0 = (qmd x0).ev := qaa _
theorem qYA : FH IP 151 qL0 qNB qko := qaf (F := q7E) (L := []) (t := qmd) qUK (qab (l := []) (by kernel_rfl) trivial) (by kernel_rfl) (fun v => by kernel_rfl) (fun _ => qaa _)
def T42 : Tab := (151, FE qL0 qNB qko) :: T41
theorem qUL : qaj IP T42 := ⟨qak qYA, qUK⟩
abbrev qGc : Type := Bool
def qMc : PArgs := ⟨[.int .i32], []⟩
def qNN : List PRes := [⟨false, .bool, []⟩]
def qmn (x0 : Int) : DT qGc :=
 .bi (br (decide (x0 ≥ 48)) (some (decide (x0 ≤ 57))) (some false)) (fun y0 =>
 .at (y0))
 (.no)
def qge (x0 : Int) : Option qGc := qaz (qmn x0).ev
theorem qDs (x0 : Int) : qge x0 = (qmn x0).ev := qaa _
theorem qYN : FH IP 154 qMc qNN qge := qaf (F := q7H) (L := []) (t := qmn) qUL (qab (l := []) (by kernel_rfl) trivial) (by kernel_rfl) (fun v => by kernel_rfl) (fun _ => qaa _)
def T43 : Tab := (154, FE qMc qNN qge) :: T42
theorem qUM : qaj IP T43 := ⟨qak qYN, qUL⟩
abbrev qFZ : Type := Bool
def qLZ : PArgs := ⟨[.int .i32], []⟩
def qNA : List PRes := [⟨false, .bool, []⟩]
def qmc (x0 : Int) : DT qFZ :=
 .bi (qko x0) (fun y0 =>
 .bi (br y0 (some true) (br (sm (qge x0)) (some (gv (qge x0))) none)) (fun y1 =>
 .bi (br y1 (some true) (some (x0 == 95))) (fun y2 =>
 .at (y2))
 (.no))
 (.no))
 (.no)
def qis (x0 : Int) : Option qFZ := qaz (qmc x0).ev
theorem qDg (x0 : Int) : qis x0 = (qmc x0).ev := qaa _
theorem qYz : FH IP 152 qLZ qNA qis := qaf (F := q7F) (L := []) (t := qmc) qUM (qab (l := []) (by kernel_rfl) trivial) (by kernel_rfl) (fun v => by kernel_rfl) (fun _ => qaa _)
def T44 : Tab := (152, FE qLZ qNA qis) :: T43
theorem qIA : qaj IP T44 := ⟨qak qYz, qUM⟩
abbrev qfQ : Type := List UInt8 × Int
def qKH : List PSt := [⟨[(1014600, .junk), (0, .str), (1, .fn (.func 152) []), (5, .int .i64)], [], 0, 0⟩]
def qS0 (x0 : List UInt8) (x1 : Int) : X × St := (X.exit 0, ⟨[(0, AV.str x0), (5, AV.int IntKind.i64 x1)], [], 0, 0⟩)
def q6x : List (qfQ → X × St) := [(k2 qS0)]
def qqo (x0 : List UInt8) (x1 : Int) : DT (Rd qfQ) :=
 .bi (br (decide (x1 < (x0.length : Int)))
 (br (inB x0.length x1) (br (sm (qis (IntKind.i32.wrap (qaX x0 x1)))) (some (gv (qis (IntKind.i32.wrap (qaX x0 x1))))) none) none) (some false)) (fun y0 =>
 .br (y0) (.at (.next ((x0, IntKind.i64.wrap (x1 + 1))))) (.at (.done 0)))
 (.no)
def qqn : qfQ → DT (Rd qfQ) := (fun v => qqo v.1 v.2)
def qBv (v : qfQ) : Option (Nat × qfQ) := qaz (qar (fun v => (qqn v).ev) v)
theorem qwN (v : qfQ) : qBv v = qar (fun v => (qqn v).ev) v := qaa _
def qLd : qcJ := LE (τ := qfQ) (hD qKH) (qBv) q6x
theorem q55 : Go.Eng.Told IP (qah qvP 0).1 (qah qvP 0).2 (qLd) := qax (inferInstance : Inhabited qfQ) (hs := qKH) (st := qqn) (L := []) qIA (qab (l := []) (by kernel_rfl) trivial) (qwN) (fun v => by kernel_rfl) (fun v => by kernel_rfl)
abbrev qT6 : Type := List UInt8
def qWL : PArgs := ⟨[.str, .fn (.func 152) []], []⟩
def qXP : List PRes := [⟨false, .str, []⟩]
def qvu (x0 : List UInt8) : DT qT6 :=
 .bi (pj 0 (qBv (x0, 0))) (fun y0 =>
 .br (leB y0.2 y0.1.length && true) (.at (List.take y0.2.toNat y0.1)) (.no))
 (.no)
def qwt (x0 : List UInt8) : Option qT6 := qaz (qvu x0).ev
theorem qJ7 (x0 : List UInt8) : qwt x0 = (qvu x0).ev := qaa _
theorem q4i : FH IP 146 qWL qXP qwt := qaf (F := qvP) (L := [(1014600, qLd)]) (t := qvu) qIA (qab (l := [qah qvP 0]) (by kernel_rfl) ⟨qay (by kernel_rfl) q55, trivial⟩) (by kernel_rfl) (fun v => by kernel_rfl) (fun _ => qaa _)
def T45 : Tab := (146, FE qWL qXP qwt) :: T44
theorem qUN : qaj IP T45 := ⟨qak q4i, qIA⟩
abbrev qGe : Type := List AV
def qMe : PArgs := ⟨[], []⟩
def qNP : List PRes := [⟨false, .view 1, []⟩]
def qmp : DT qGe :=
 .at ([AV.str ([] ++ [112] ++ [114] ++ [111] ++ [100] ++ [117] ++ [99] ++ [116]), AV.str ([] ++ [99] ++ [117] ++ [114] ++ [114] ++ [101] ++ [110] ++ [99] ++ [121]),
 AV.str ([] ++ [99] ++ [97] ++ [108] ++ [101] ++ [110] ++ [100] ++ [97] ++ [114]), AV.str ([] ++ [102] ++ [114] ++ [111] ++ [109]),
 AV.str ([] ++ [101] ++ [118] ++ [101] ++ [114] ++ [121]), AV.str ([] ++ [111] ++ [118] ++ [101] ++ [114] ++ [100] ++ [114] ++ [97] ++ [102] ++ [116]),
 AV.str ([] ++ [116] ++ [97] ++ [120]), AV.str ([] ++ [99] ++ [114] ++ [101] ++ [100] ++ [105] ++ [116]), AV.str ([] ++ [100] ++ [101] ++ [98] ++ [105] ++ [116]),
 AV.str ([] ++ [109] ++ [97] ++ [114] ++ [103] ++ [105] ++ [110] ++ [97] ++ [108]), AV.str ([] ++ [119] ++ [104] ++ [111] ++ [108] ++ [101]),
 AV.str ([] ++ [97] ++ [99] ++ [116] ++ [51] ++ [54] ++ [48]), AV.str ([] ++ [97] ++ [99] ++ [116] ++ [51] ++ [54] ++ [53]),
 AV.str ([] ++ [97] ++ [99] ++ [116] ++ [117] ++ [97] ++ [108]), AV.str ([] ++ [116] ++ [104] ++ [105] ++ [114] ++ [116] ++ [121]),
 AV.str ([] ++ [100] ++ [111] ++ [119] ++ [110]), AV.str ([] ++ [117] ++ [112]), AV.str ([] ++ [102] ++ [108] ++ [111] ++ [111] ++ [114]),
 AV.str ([] ++ [99] ++ [101] ++ [105] ++ [108]), AV.str ([] ++ [104] ++ [97] ++ [108] ++ [102] ++ [95] ++ [117] ++ [112]),
 AV.str ([] ++ [104] ++ [97] ++ [108] ++ [102] ++ [95] ++ [101] ++ [118] ++ [101] ++ [110]), AV.str ([] ++ [107] ++ [101] ++ [101] ++ [112]),
 AV.str ([] ++ [100] ++ [114] ++ [111] ++ [112]), AV.str ([] ++ [102] ++ [101] ++ [101]), AV.str ([] ++ [108] ++ [105] ++ [109] ++ [105] ++ [116]),
 AV.str ([] ++ [119] ++ [104] ++ [101] ++ [110]), AV.str ([] ++ [97] ++ [109] ++ [111] ++ [117] ++ [110] ++ [116] ++ [95] ++ [111] ++ [102]),
 AV.str ([] ++ [115] ++ [105] ++ [110] ++ [103] ++ [108] ++ [101]), AV.str ([] ++ [100] ++ [97] ++ [105] ++ [108] ++ [121]),
 AV.str ([] ++ [109] ++ [111] ++ [110] ++ [116] ++ [104] ++ [108] ++ [121]), AV.str ([] ++ [109] ++ [111] ++ [110] ++ [116] ++ [104]),
 AV.str ([] ++ [114] ++ [101] ++ [116] ++ [117] ++ [114] ++ [110]), AV.str ([] ++ [99] ++ [108] ++ [111] ++ [115] ++ [101]),
 AV.str ([] ++ [101] ++ [118] ++ [101] ++ [110] ++ [116]), AV.str ([] ++ [105] ++ [102]), AV.str ([] ++ [116] ++ [104] ++ [101] ++ [110]),
 AV.str ([] ++ [101] ++ [108] ++ [115] ++ [101]), AV.str ([] ++ [97] ++ [110] ++ [100]), AV.str ([] ++ [111] ++ [114]), AV.str ([] ++ [110] ++ [111] ++ [116]),
 AV.str ([] ++ [109] ++ [105] ++ [110]), AV.str ([] ++ [109] ++ [97] ++ [120])])
def qoh : Option qGe := qaz (qmp).ev
theorem qDv : qoh = (qmp).ev := qaa _
theorem qYP : FH IP 162 qMe qNP (fun _ => qoh) := qaf (F := q7N) (L := []) (t := (fun _ => qmp)) qUN (qab (l := []) (by kernel_rfl) trivial) (by kernel_rfl) (fun v => by kernel_rfl) (fun _ => qaa _)
def T46 : Tab := (162, FE qMe qNP (fun _ => qoh)) :: T45
theorem qIB : qaj IP T46 := ⟨qak qYP, qUN⟩
abbrev qfL : Type := List AV × List UInt8 × Int × Int
def qKy : List PSt := [⟨[(1017300, .junk), (0, .view 1), (1, .str), (7, .int .i64), (8, .int .i64)], [], 0, 0⟩]
def qSD (x0 : List AV) (x1 : List UInt8) (x2 x3 : Int) : X × St := (X.ret, ⟨[(4, AV.int IntKind.i64 x3)], [], 0, 0⟩)
def qSE (x0 : List AV) (x1 : List UInt8) (x2 x3 : Int) : X × St := (X.exit 0, ⟨[(4, AV.junk)], [], 0, 0⟩)
def q6o : List (qfL → X × St) := [(k4 qSD), (k4 qSE)]
def qqg (x0 : List AV) (x1 : List UInt8) (x2 x3 : Int) : DT (Rd qfL) :=
 .br (decide (x3 < x2))
 (.br (qaB [CS.str] x0 x3)
 (.br (x1 == strOf (cellAt x0 x3 0)) (.at (.done 0)) (.at (.next ((x0, x1, x2, IntKind.i64.wrap (x3 + 1))))))
 (.no))
 (.at (.done 1))
def qqf : qfL → DT (Rd qfL) := (fun v => qqg v.1 v.2.1 v.2.2.1 v.2.2.2)
def qwF (v : qfL) : Option (Nat × qfL) := qaz (qar (fun v => (qqf v).ev) v)
theorem qwG (v : qfL) : qwF v = qar (fun v => (qqf v).ev) v := qaa _
def qK4 : qcJ := LE (τ := qfL) (hD qKy) (qwF) q6o
theorem q5W : Go.Eng.Told IP (qah q2A 0).1 (qah q2A 0).2 (qK4) := qax (inferInstance : Inhabited qfL) (hs := qKy) (st := qqf) (L := []) qIB (qab (l := []) (by kernel_rfl) trivial) (qwG) (fun v => by kernel_rfl) (fun v => by kernel_rfl)
abbrev qTq : Type := Int
def qV2 : PArgs := ⟨[.view 1, .str], []⟩
def qW6 : List PRes := [⟨false, .int .i64, []⟩]
def quF (x0 : List AV) (x1 : List UInt8) : DT qTq :=
 .bi (pj 0 (qwF (x0, x1, (x0.length : Int), 0))) (fun y0 =>
 .at (y0.2.2.2))
 (.bi (pj 1 (qwF (x0, x1, (x0.length : Int), 0))) (fun y0 =>
 .at (-1))
 (.no))
def qAK (x0 : List AV) (x1 : List UInt8) : Option qTq := qaz (quF x0 x1).ev
theorem qJq (x0 : List AV) (x1 : List UInt8) : qAK x0 x1 = (quF x0 x1).ev := qaa _
theorem q3A : FH IP 173 qV2 qW6 (k2 qAK) := qaf (F := q2A) (L := [(1017300, qK4)]) (t := (k2 quF)) qIB (qab (l := [qah q2A 0]) (by kernel_rfl) ⟨qay (by kernel_rfl) q5W, trivial⟩) (by kernel_rfl) (fun v => by kernel_rfl) (fun _ => qaa _)
def T47 : Tab := (173, FE qV2 qW6 (k2 qAK)) :: T46
theorem qUO : qaj IP T47 := ⟨qak q3A, qIB⟩
abbrev qTo : Type := Bool
def qV0 : PArgs := ⟨[.view 1, .str], []⟩
def qW4 : List PRes := [⟨false, .bool, []⟩]
def quC (x0 : List AV) (x1 : List UInt8) : DT qTo :=
 .bi (qAK x0 x1) (fun y0 =>
 .at (decide (y0 ≥ 0)))
 (.no)
def qwh (x0 : List AV) (x1 : List UInt8) : Option qTo := qaz (quC x0 x1).ev
theorem qJo (x0 : List AV) (x1 : List UInt8) : qwh x0 x1 = (quC x0 x1).ev := qaa _
theorem q3y : FH IP 161 qV0 qW4 (k2 qwh) := qaf (F := q7M) (L := []) (t := (k2 quC)) qUO (qab (l := []) (by kernel_rfl) trivial) (by kernel_rfl) (fun v => by kernel_rfl) (fun _ => qaa _)
def T48 : Tab := (161, FE qV0 qW4 (k2 qwh)) :: T47
theorem qUP : qaj IP T48 := ⟨qak q3y, qUO⟩
abbrev qGu : Type := Bool
def qMu : PArgs := ⟨[.str], []⟩
def qN5 : List PRes := [⟨false, .bool, []⟩]
def qmC (x0 : List UInt8) : DT qGu :=
 .bi (qoh) (fun y0 =>
 .bi (qwh y0 x0) (fun y1 =>
 .at (y1))
 (.no))
 (.no)
def qol (x0 : List UInt8) : Option qGu := qaz (qmC x0).ev
theorem qDI (x0 : List UInt8) : qol x0 = (qmC x0).ev := qaa _
theorem qY8 : FH IP 153 qMu qN5 qol := qaf (F := q7G) (L := []) (t := qmC) qUP (qab (l := []) (by kernel_rfl) trivial) (by kernel_rfl) (fun v => by kernel_rfl) (fun _ => qaa _)
def T49 : Tab := (153, FE qMu qN5 qol) :: T48
theorem qUQ : qaj IP T49 := ⟨qak qY8, qUP⟩
abbrev qTN : Type := Bool
def qWq : PArgs := ⟨[.int .i32], []⟩
def qXu : List PRes := [⟨false, .bool, []⟩]
def qu9 (x0 : Int) : DT qTN :=
 .bi (qis x0) (fun y0 =>
 .bi (br y0 (some true) (some (x0 == 46))) (fun y1 =>
 .bi (br y1 (some true) (some (x0 == 37))) (fun y2 =>
 .at (y2))
 (.no))
 (.no))
 (.no)
def qrQ (x0 : Int) : Option qTN := qaz (qu9 x0).ev
theorem qJM (x0 : Int) : qrQ x0 = (qu9 x0).ev := qaa _
theorem q3Y : FH IP 156 qWq qXu qrQ := qaf (F := q7J) (L := []) (t := qu9) qUQ (qab (l := []) (by kernel_rfl) trivial) (by kernel_rfl) (fun v => by kernel_rfl) (fun _ => qaa _)
def T50 : Tab := (156, FE qWq qXu qrQ) :: T49
theorem qIC : qaj IP T50 := ⟨qak q3Y, qUQ⟩
abbrev qfR : Type := List UInt8 × Int
def qKI : List PSt := [⟨[(1014600, .junk), (0, .str), (1, .fn (.func 156) []), (5, .int .i64)], [], 0, 0⟩]
def qS1 (x0 : List UInt8) (x1 : Int) : X × St := (X.exit 0, ⟨[(0, AV.str x0), (5, AV.int IntKind.i64 x1)], [], 0, 0⟩)
def q6y : List (qfR → X × St) := [(k2 qS1)]
def qqq (x0 : List UInt8) (x1 : Int) : DT (Rd qfR) :=
 .bi (br (decide (x1 < (x0.length : Int)))
 (br (inB x0.length x1) (br (sm (qrQ (IntKind.i32.wrap (qaX x0 x1)))) (some (gv (qrQ (IntKind.i32.wrap (qaX x0 x1))))) none) none) (some false)) (fun y0 =>
 .br (y0) (.at (.next ((x0, IntKind.i64.wrap (x1 + 1))))) (.at (.done 0)))
 (.no)
def qqp : qfR → DT (Rd qfR) := (fun v => qqq v.1 v.2)
def qBw (v : qfR) : Option (Nat × qfR) := qaz (qar (fun v => (qqp v).ev) v)
theorem qwO (v : qfR) : qBw v = qar (fun v => (qqp v).ev) v := qaa _
def qLe : qcJ := LE (τ := qfR) (hD qKI) (qBw) q6y
theorem q56 : Go.Eng.Told IP (qah qvP 0).1 (qah qvP 0).2 (qLe) := qax (inferInstance : Inhabited qfR) (hs := qKI) (st := qqp) (L := []) qIC (qab (l := []) (by kernel_rfl) trivial) (qwO) (fun v => by kernel_rfl) (fun v => by kernel_rfl)
abbrev qT7 : Type := List UInt8
def qWM : PArgs := ⟨[.str, .fn (.func 156) []], []⟩
def qXQ : List PRes := [⟨false, .str, []⟩]
def qvv (x0 : List UInt8) : DT qT7 :=
 .bi (pj 0 (qBw (x0, 0))) (fun y0 =>
 .br (leB y0.2 y0.1.length && true) (.at (List.take y0.2.toNat y0.1)) (.no))
 (.no)
def qwu (x0 : List UInt8) : Option qT7 := qaz (qvv x0).ev
theorem qJ8 (x0 : List UInt8) : qwu x0 = (qvv x0).ev := qaa _
theorem q4j : FH IP 146 qWM qXQ qwu := qaf (F := qvP) (L := [(1014600, qLe)]) (t := qvv) qIC (qab (l := [qah qvP 0]) (by kernel_rfl) ⟨qay (by kernel_rfl) q56, trivial⟩) (by kernel_rfl) (fun v => by kernel_rfl) (fun _ => qaa _)
def T51 : Tab := (146, FE qWM qXQ qwu) :: T50
theorem qID : qaj IP T51 := ⟨qak q4j, qIC⟩
abbrev qfS : Type := List UInt8 × Int
def qKJ : List PSt := [⟨[(1014600, .junk), (0, .str), (1, .fn (.func 154) []), (5, .int .i64)], [], 0, 0⟩]
def qS2 (x0 : List UInt8) (x1 : Int) : X × St := (X.exit 0, ⟨[(0, AV.str x0), (5, AV.int IntKind.i64 x1)], [], 0, 0⟩)
def q6z : List (qfS → X × St) := [(k2 qS2)]
def qqs (x0 : List UInt8) (x1 : Int) : DT (Rd qfS) :=
 .bi (br (decide (x1 < (x0.length : Int)))
 (br (inB x0.length x1) (br (sm (qge (IntKind.i32.wrap (qaX x0 x1)))) (some (gv (qge (IntKind.i32.wrap (qaX x0 x1))))) none) none) (some false)) (fun y0 =>
 .br (y0) (.at (.next ((x0, IntKind.i64.wrap (x1 + 1))))) (.at (.done 0)))
 (.no)
def qqr : qfS → DT (Rd qfS) := (fun v => qqs v.1 v.2)
def qBx (v : qfS) : Option (Nat × qfS) := qaz (qar (fun v => (qqr v).ev) v)
theorem qwP (v : qfS) : qBx v = qar (fun v => (qqr v).ev) v := qaa _
def qLf : qcJ := LE (τ := qfS) (hD qKJ) (qBx) q6z
theorem q57 : Go.Eng.Told IP (qah qvP 0).1 (qah qvP 0).2 (qLf) := qax (inferInstance : Inhabited qfS) (hs := qKJ) (st := qqr) (L := []) qID (qab (l := []) (by kernel_rfl) trivial) (qwP) (fun v => by kernel_rfl) (fun v => by kernel_rfl)
abbrev qT8 : Type := List UInt8
def qWN : PArgs := ⟨[.str, .fn (.func 154) []], []⟩
def qXR : List PRes := [⟨false, .str, []⟩]
def qvw (x0 : List UInt8) : DT qT8 :=
 .bi (pj 0 (qBx (x0, 0))) (fun y0 =>
 .br (leB y0.2 y0.1.length && true) (.at (List.take y0.2.toNat y0.1)) (.no))
 (.no)
def qif (x0 : List UInt8) : Option qT8 := qaz (qvw x0).ev
theorem qJ9 (x0 : List UInt8) : qif x0 = (qvw x0).ev := qaa _
theorem q4k : FH IP 146 qWN qXR qif := qaf (F := qvP) (L := [(1014600, qLf)]) (t := qvw) qID (qab (l := [qah qvP 0]) (by kernel_rfl) ⟨qay (by kernel_rfl) q57, trivial⟩) (by kernel_rfl) (fun v => by kernel_rfl) (fun _ => qaa _)
def T52 : Tab := (146, FE qWN qXR qif) :: T51
theorem qUR : qaj IP T52 := ⟨qak q4k, qID⟩
abbrev qT5 : Type := Bool
def qWK : PArgs := ⟨[.str], []⟩
def qXO : List PRes := [⟨false, .bool, []⟩]
def qvt (x0 : List UInt8) : DT qT5 :=
 .bi (br (!x0 == []) (br (sm (qif x0)) (some (gv (qif x0) == x0)) none) (some false)) (fun y0 =>
 .bi (br y0 (br ((x0.length : Int) == 1) (some true) (br (inB x0.length 0) (some (qaX x0 0 != 48)) none)) (some false)) (fun y1 =>
 .at (y1))
 (.no))
 (.no)
def qoP (x0 : List UInt8) : Option qT5 := qaz (qvt x0).ev
theorem qJ6 (x0 : List UInt8) : qoP x0 = (qvt x0).ev := qaa _
theorem q4h : FH IP 163 qWK qXO qoP := qaf (F := q7O) (L := []) (t := qvt) qUR (qab (l := []) (by kernel_rfl) trivial) (by kernel_rfl) (fun v => by kernel_rfl) (fun _ => qaa _)
def T53 : Tab := (163, FE qWK qXO qoP) :: T52
theorem qUS : qaj IP T53 := ⟨qak q4h, qUR⟩
abbrev qTn : Type := Bool
def qVZ : PArgs := ⟨[.str, .str], []⟩
def qW3 : List PRes := [⟨false, .bool, []⟩]
def quB (x0 x1 : List UInt8) : DT qTn :=
 .bi (br (decide ((x0.length : Int) ≥ (x1.length : Int)))
 (br (leB (IntKind.i64.wrap ((x0.length : Int) - (x1.length : Int))) x0.length) (some (List.drop (IntKind.i64.wrap ((x0.length : Int) - (x1.length : Int))).toNat x0 == x1))
 none)
 (some false)) (fun y0 =>
 .at (y0))
 (.no)
def qAJ (x0 x1 : List UInt8) : Option qTn := qaz (quB x0 x1).ev
theorem qJn (x0 x1 : List UInt8) : qAJ x0 x1 = (quB x0 x1).ev := qaa _
theorem q3x : FH IP 197 qVZ qW3 (k2 qAJ) := qaf (F := q7U) (L := []) (t := (k2 quB)) qUS (qab (l := []) (by kernel_rfl) trivial) (by kernel_rfl) (fun v => by kernel_rfl) (fun _ => qaa _)
def T54 : Tab := (197, FE qVZ qW3 (k2 qAJ)) :: T53
theorem qUT : qaj IP T54 := ⟨qak q3x, qUS⟩
abbrev q2W : Type := List UInt8 × Bool
def q5B : PArgs := ⟨[.str, .str], []⟩
def q5J : List PRes := [⟨false, .tup [.str, .bool], []⟩]
def qCE (x0 x1 : List UInt8) : DT q2W :=
 .bi (qAJ x0 x1) (fun y0 =>
 .br (!y0)
 (.at ((x0, false)))
 (.br (leB (IntKind.i64.wrap ((x0.length : Int) - (x1.length : Int))) x0.length && true)
 (.at ((List.take (IntKind.i64.wrap ((x0.length : Int) - (x1.length : Int))).toNat x0, true)))
 (.no)))
 (.no)
def qRK (x0 x1 : List UInt8) : Option q2W := qaz (qCE x0 x1).ev
theorem qRL (x0 x1 : List UInt8) : qRK x0 x1 = (qCE x0 x1).ev := qaa _
theorem q8i : FH IP 188 q5B q5J (k2 qRK) := qaf (F := q7S) (L := []) (t := (k2 qCE)) qUT (qab (l := []) (by kernel_rfl) trivial) (by kernel_rfl) (fun v => by kernel_rfl) (fun _ => qaa _)
def T55 : Tab := (188, FE q5B q5J (k2 qRK)) :: T54
theorem qUU : qaj IP T55 := ⟨qak q8i, qUT⟩
abbrev qTw : Type := List UInt8 × Bool
def qV8 : PArgs := ⟨[.str, .str], []⟩
def qXc : List PRes := [⟨false, .tup [.str, .bool], []⟩]
def quU (x0 x1 : List UInt8) : DT qTw :=
 .bi (qRK x0 x1) (fun y0 =>
 .at ((y0.1, y0.2)))
 (.no)
def qwj (x0 x1 : List UInt8) : Option qTw := qaz (quU x0 x1).ev
theorem qJw (x0 x1 : List UInt8) : qwj x0 x1 = (quU x0 x1).ev := qaa _
theorem q3I : FH IP 176 qV8 qXc (k2 qwj) := qaf (F := q7Q) (L := []) (t := (k2 quU)) qUU (qab (l := []) (by kernel_rfl) trivial) (by kernel_rfl) (fun v => by kernel_rfl) (fun _ => qaa _)
def T56 : Tab := (176, FE qV8 qXc (k2 qwj)) :: T55
theorem qUV : qaj IP T56 := ⟨qak q3I, qUU⟩
abbrev qTp : Type := Int
def qV1 : PArgs := ⟨[.str, .str], []⟩
def qW5 : List PRes := [⟨false, .int .i64, []⟩]
def quE (x0 x1 : List UInt8) : DT qTp :=
 .bi (br ((x1.length : Int) == 0) (some true) (some (x1 == x0))) (fun y0 =>
 .br (y0)
 (.at (0))
 (.br ((x1.length : Int) == 1)
 (.br (inB x1.length 0) (.at (Lib.indexByte x0 (qaX x1 0).toNat.toUInt8)) (.no))
 (.br (decide ((x1.length : Int) ≥ (x0.length : Int))) (.at (-1)) (.no))))
 (.no)
def qwi (x0 x1 : List UInt8) : Option qTp := qaz (quE x0 x1).ev
theorem qJp (x0 x1 : List UInt8) : qwi x0 x1 = (quE x0 x1).ev := qaa _
theorem q3z : FH IP 160 qV1 qW5 (k2 qwi) := qaf (F := q6N) (L := []) (t := (k2 quE)) qUV (qab (l := [qah q6N 0]) (by kernel_rfl) ⟨qCx (by kernel_rfl), trivial⟩) (by kernel_rfl) (fun v => by kernel_rfl) (fun _ => qaa _)
def T57 : Tab := (160, FE qV1 qW5 (k2 qwi)) :: T56
theorem qUW : qaj IP T57 := ⟨qak q3z, qUV⟩
abbrev qTr : Type := List UInt8 × List UInt8 × Bool
def qV3 : PArgs := ⟨[.str, .str], []⟩
def qW7 : List PRes := [⟨false, .tup [.str, .str, .bool], []⟩]
def quG (x0 x1 : List UInt8) : DT qTr :=
 .bi (qwi x0 x1) (fun y0 =>
 .br (decide (y0 ≥ 0))
 (.br (leB y0 x0.length && true)
 (.br (leB (IntKind.i64.wrap (y0 + (x1.length : Int))) x0.length)
 (.at ((List.take y0.toNat x0, List.drop (IntKind.i64.wrap (y0 + (x1.length : Int))).toNat x0, true)))
 (.no))
 (.no))
 (.at ((x0, [], false))))
 (.no)
def qAL (x0 x1 : List UInt8) : Option qTr := qaz (quG x0 x1).ev
theorem qJr (x0 x1 : List UInt8) : qAL x0 x1 = (quG x0 x1).ev := qaa _
theorem q3B : FH IP 189 qV3 qW7 (k2 qAL) := qaf (F := q7T) (L := []) (t := (k2 quG)) qUW (qab (l := []) (by kernel_rfl) trivial) (by kernel_rfl) (fun v => by kernel_rfl) (fun _ => qaa _)
def T58 : Tab := (189, FE qV3 qW7 (k2 qAL)) :: T57
theorem qUX : qaj IP T58 := ⟨qak q3B, qUW⟩
abbrev qGb : Type := List UInt8 × List UInt8 × Bool
def qMb : PArgs := ⟨[.str, .str], []⟩
def qNM : List PRes := [⟨false, .tup [.str, .str, .bool], []⟩]
def qmm (x0 x1 : List UInt8) : DT qGb :=
 .bi (qAL x0 x1) (fun y0 =>
 .at ((y0.1, y0.2.1, y0.2.2)))
 (.no)
def qoe (x0 x1 : List UInt8) : Option qGb := qaz (qmm x0 x1).ev
theorem qDr (x0 x1 : List UInt8) : qoe x0 x1 = (qmm x0 x1).ev := qaa _
theorem qYM : FH IP 177 qMb qNM (k2 qoe) := qaf (F := q7R) (L := []) (t := (k2 qmm)) qUX (qab (l := []) (by kernel_rfl) trivial) (by kernel_rfl) (fun v => by kernel_rfl) (fun _ => qaa _)
def T59 : Tab := (177, FE qMb qNM (k2 qoe)) :: T58
theorem qIE : qaj IP T59 := ⟨qak qYM, qUX⟩
abbrev qdY : Type := List UInt8 × List UInt8
def qA2 : List PSt := [⟨[(1016500, .junk), (6, .str), (7, .str)], [], 0, 0⟩]
def qPS (x0 x1 : List UInt8) : X × St := (X.exit 0, ⟨[(6, AV.str x0), (7, AV.str x1)], [], 0, 0⟩)
def q1N : List (qdY → X × St) := [(k2 qPS)]
def qk7 (x0 x1 : List UInt8) : DT (Rd qdY) :=
 .br (decide ((x1.length : Int) < 4))
 (.br (decide (x1.length + 1 ≤ 4611686018427387904)) (.at (.next ((x0, x1 ++ [48])))) (.no))
 (.at (.done 0))
def qhQ : qdY → DT (Rd qdY) := (fun v => qk7 v.1 v.2)
def qtS (v : qdY) : Option (Nat × qdY) := qaz (qar (fun v => (qhQ v).ev) v)
theorem qse (v : qdY) : qtS v = qar (fun v => (qhQ v).ev) v := qaa _
def qBL : qcJ := LE (τ := qdY) (hD qA2) (qtS) q1N
theorem q1d : Go.Eng.Told IP (qah q2z 0).1 (qah q2z 0).2 (qBL) := qax (inferInstance : Inhabited qdY) (hs := qA2) (st := qhQ) (L := []) qIE (qab (l := []) (by kernel_rfl) trivial) (qse) (fun v => by kernel_rfl) (fun v => by kernel_rfl)
abbrev qGt : Type := Int × Int
def qMt : PArgs := ⟨[.str], []⟩
def qN4 : List PRes := [⟨false, .tup [.int .i64, .int .i64], []⟩]
def qmB (x0 : List UInt8) : DT qGt :=
 .bi (qwj x0 [37]) (fun y0 =>
 .bi (qoe y0.1 [46]) (fun y1 =>
 .bi (br (!y0.2) (some true) (br (sm (qoP y1.1)) (some !gv (qoP y1.1)) none)) (fun y2 =>
 .bi (br y2 (some true)
 (br y1.2.2
 (br (y1.2.1 == []) (some true)
 (br (decide ((y1.2.1.length : Int) > 4)) (some true)
 (br (sm (qif y1.2.1))
 (br (!gv (qif y1.2.1) == y1.2.1) (some true)
 (br (inB y1.2.1.length (IntKind.i64.wrap ((y1.2.1.length : Int) - 1))) (some (qaX y1.2.1 (IntKind.i64.wrap ((y1.2.1.length : Int) - 1)) == 48))
 none))
 none)))
 (some false))) (fun y3 =>
 .br (y3)
 (.at ((0, 2)))
 (.br (decide ((y1.1.length : Int) > 3))
 (.at ((0, 1)))
 (.bi (pj 0 (qtS (y1.1, y1.2.1))) (fun y4 =>
 .br (decide (y4.1.length + y4.2.length ≤ 4611686018427387904))
 (.br (pOk (y4.1 ++ y4.2) && nOk (Lib.atoiAll (y4.1 ++ y4.2)))
 (.br (decide (q5f (Lib.atoiAll (y4.1 ++ y4.2)) > 1000000)) (.at ((0, 1))) (.at ((q5f (Lib.atoiAll (y4.1 ++ y4.2)), 0))))
 (.br (pOk (y4.1 ++ y4.2) && qij (Lib.atoiAll (y4.1 ++ y4.2)))
 (.br (decide (Lib.atoiSat (y4.1 ++ y4.2) > 1000000)) (.at ((0, 1))) (.at ((Lib.atoiSat (y4.1 ++ y4.2), 0))))
 (.br (pOk (y4.1 ++ y4.2) && qdQ (Lib.atoiAll (y4.1 ++ y4.2))) (.at ((0, 0))) (.no))))
 (.no))
 (.no))))
 (.no))
 (.no))
 (.no))
 (.no)
def qok (x0 : List UInt8) : Option qGt := qaz (qmB x0).ev
theorem qDH (x0 : List UInt8) : qok x0 = (qmB x0).ev := qaa _
theorem qY7 : FH IP 165 qMt qN4 qok := qaf (F := q2z) (L := [(1016500, qBL)]) (t := qmB) qIE (qab (l := [qah q2z 0]) (by kernel_rfl) ⟨qay (by kernel_rfl) q1d, trivial⟩) (by kernel_rfl) (fun v => by kernel_rfl) (fun _ => qaa _)
def T60 : Tab := (165, FE qMt qN4 qok) :: T59
theorem qUY : qaj IP T60 := ⟨qak qY7, qIE⟩
abbrev qF1 : Type := Int × Int × List UInt8 × Int
def qL1 : PArgs := ⟨[.str], []⟩
def qNC : List PRes := [⟨false, .tup [.agg [.int .i64, .int .i64, .str], .int .i64], []⟩]
def qme (x0 : List UInt8) : DT qF1 :=
 .bi (qoP x0) (fun y0 =>
 .br (y0)
 (.br (pOk x0 && nOk (Lib.parseIntB 64 x0))
 (.at ((2, 0, x0, 0)))
 (.br (pOk x0 && qij (Lib.parseIntB 64 x0))
 (.at ((0, 0, [], 6)))
 (.br (pOk x0 && qdQ (Lib.parseIntB 64 x0)) (.at ((0, 0, [], 6))) (.no))))
 (.bi (qok x0) (fun y1 =>
 .br (y1.2 == 0)
 (.at ((3, 0, x0, 0)))
 (.br (y1.2 == 1) (.at ((0, 0, [], 6))) (.at ((0, 0, [], 2)))))
 (.no)))
 (.no)
def qob (x0 : List UInt8) : Option qF1 := qaz (qme x0).ev
theorem qDi (x0 : List UInt8) : qob x0 = (qme x0).ev := qaa _
theorem qYB : FH IP 155 qL1 qNC qob := qaf (F := q7I) (L := []) (t := qme) qUY (qab (l := []) (by kernel_rfl) trivial) (by kernel_rfl) (fun v => by kernel_rfl) (fun _ => qaa _)
def T61 : Tab := (155, FE qL1 qNC qob) :: T60
theorem qUZ : qaj IP T61 := ⟨qak qYB, qUY⟩
abbrev qGd : Type := List AV
def qMd : PArgs := ⟨[], []⟩
def qNO : List PRes := [⟨false, .view 1, []⟩]
def qmo : DT qGd :=
 .at ([AV.str ([] ++ [61] ++ [61]), AV.str ([] ++ [33] ++ [61]), AV.str ([] ++ [60] ++ [61]), AV.str ([] ++ [123]), AV.str ([] ++ [125]), AV.str ([] ++ [40]), AV.str ([] ++ [41]),
 AV.str ([] ++ [44]), AV.str ([] ++ [59]), AV.str ([] ++ [58]), AV.str ([] ++ [36]), AV.str ([] ++ [43]), AV.str ([] ++ [45]), AV.str ([] ++ [42]), AV.str ([] ++ [47]),
 AV.str ([] ++ [60])])
def qog : Option qGd := qaz (qmo).ev
theorem qDu : qog = (qmo).ev := qaa _
theorem qYO : FH IP 157 qMd qNO (fun _ => qog) := qaf (F := q7K) (L := []) (t := (fun _ => qmo)) qUZ (qab (l := []) (by kernel_rfl) trivial) (by kernel_rfl) (fun v => by kernel_rfl) (fun _ => qaa _)
def T62 : Tab := (157, FE qMd qNO (fun _ => qog)) :: T61
theorem qU0 : qaj IP T62 := ⟨qak qYO, qUZ⟩
abbrev q2X : Type := Bool
def q5C : PArgs := ⟨[.str, .str], []⟩
def q5K : List PRes := [⟨false, .bool, []⟩]
def qCF (x0 x1 : List UInt8) : DT q2X :=
 .bi (br (decide ((x0.length : Int) ≥ (x1.length : Int))) (br (leB (x1.length : Int) x0.length && true) (some (List.take (x1.length : Int).toNat x0 == x1)) none) (some false)) (fun y0 =>
 .at (y0))
 (.no)
def qRM (x0 x1 : List UInt8) : Option q2X := qaz (qCF x0 x1).ev
theorem qRN (x0 x1 : List UInt8) : qRM x0 x1 = (qCF x0 x1).ev := qaa _
theorem q8j : FH IP 167 q5C q5K (k2 qRM) := qaf (F := q7P) (L := []) (t := (k2 qCF)) qU0 (qab (l := []) (by kernel_rfl) trivial) (by kernel_rfl) (fun v => by kernel_rfl) (fun _ => qaa _)
def T63 : Tab := (167, FE q5C q5K (k2 qRM)) :: T62
theorem qU1 : qaj IP T63 := ⟨qak q8j, qU0⟩
abbrev qTx : Type := Bool
def qV9 : PArgs := ⟨[.str, .str], []⟩
def qXd : List PRes := [⟨false, .bool, []⟩]
def quV (x0 x1 : List UInt8) : DT qTx :=
 .bi (qRM x0 x1) (fun y0 =>
 .at (y0))
 (.no)
def qwk (x0 x1 : List UInt8) : Option qTx := qaz (quV x0 x1).ev
theorem qJx (x0 x1 : List UInt8) : qwk x0 x1 = (quV x0 x1).ev := qaa _
theorem q3J : FH IP 158 qV9 qXd (k2 qwk) := qaf (F := q7L) (L := []) (t := (k2 quV)) qU1 (qab (l := []) (by kernel_rfl) trivial) (by kernel_rfl) (fun v => by kernel_rfl) (fun _ => qaa _)
def T64 : Tab := (158, FE qV9 qXd (k2 qwk)) :: T63
theorem qIF : qaj IP T64 := ⟨qak q3J, qU1⟩
abbrev qdZ : Type := List UInt8 × List AV × Int × Int × Int × Int × List UInt8
def qA3 : List PSt := [⟨[(1014400, .junk), (0, .str), (2, .ref 0 0 0), (34, .view 1), (35, .int .i64), (36, .int .i64)], [(0, .box [.int .i64, .int .i64, .str] false)], 1, 0⟩]
def qPT (x0 : List UInt8) (x1 : List AV) (x2 x3 : Int) (x4 x5 : Int) (x6 : List UInt8) : X × St := (X.ret,
 ⟨[(2, AV.ref 0 0 0), (3, AV.int IntKind.i64 0)], [(0, Blk.box [AV.int IntKind.i64 4, AV.int IntKind.i64 0, AV.str (strOf (cellAt x1 x3 0))] false)], 1, 0⟩)
def qPU (x0 : List UInt8) (x1 : List AV) (x2 x3 : Int) (x4 x5 : Int) (x6 : List UInt8) : X × St := (X.exit 1, ⟨[(2, AV.ref 0 0 0), (3, AV.junk)], [(0, Blk.box [AV.int IntKind.i64 x4, AV.int IntKind.i64 x5, AV.str x6] false)], 1, 0⟩)
def q1O : List (qdZ → X × St) := [(k7 qPT), (k7 qPU)]
def qk8 (x0 : List UInt8) (x1 : List AV) (x2 x3 : Int) (x4 x5 : Int) (x6 : List UInt8) : DT (Rd qdZ) :=
 .br (decide (x3 < x2))
 (.br (qaB [CS.str] x1 x3)
 (.bi (qwk x0 (strOf (cellAt x1 x3 0))) (fun y0 =>
 .br (y0) (.at (.done 0)) (.at (.next ((x0, x1, x2, IntKind.i64.wrap (x3 + 1), x4, x5, x6)))))
 (.no))
 (.no))
 (.at (.done 1))
def qjF : qdZ → DT (Rd qdZ) := (fun v => qk8 v.1 v.2.1 v.2.2.1 v.2.2.2.1 v.2.2.2.2.1 v.2.2.2.2.2.1 v.2.2.2.2.2.2)
def qo8 (v : qdZ) : Option (Nat × qdZ) := qaz (qar (fun v => (qjF v).ev) v)
theorem qsf (v : qdZ) : qo8 v = qar (fun v => (qjF v).ev) v := qaa _
def qBM : qcJ := LE (τ := qdZ) (hD qA3) (qo8) q1O
theorem q1e : Go.Eng.Told IP (qah q2y 0).1 (qah q2y 0).2 (qBM) := qax (inferInstance : Inhabited qdZ) (hs := qA3) (st := qjF) (L := []) qIF (qab (l := []) (by kernel_rfl) trivial) (qsf) (fun v => by kernel_rfl) (fun v => by kernel_rfl)
end
end Go.Proofs.H13

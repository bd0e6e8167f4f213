/- Functions over plain data. Printed by a program of mine. -/
import Derived.Test.YtigchhcddgibhaaGreatDoorD13_2
import Derived.KernelRfl
namespace Go.Proofs.H13
open Go Go.Eng
set_option maxRecDepth 100000
noncomputable section
def qJA (G_u164q : qbi) (G_u1q : qdy) (G_u5q : qdA) (G_u109q : qbg) (x0 : List AV) : DT qTU :=
 .bi (G_u5q x0) (fun y0 =>
 .at (decide (y0 >= 0)))
 (.no)
def qJC (G_u164q : qbi) (G_u1q : qdy) (G_u5q : qdA) (G_u109q : qbg) (x0 : List AV) : DT qTW :=
 .bi (pj 0
 (qFr G_u164q G_u1q G_u5q G_u109q (x0, (x0.length : Int), 0))) (fun y0 =>
 .at (y0.2.2))
 (.bi (pj 1
 (qFr G_u164q G_u1q G_u5q G_u109q (x0, (x0.length : Int), 0))) (fun y0 =>
 .at (-1))
 (.no))
def qpU (G_u164q : qbi) (G_u1q : qdy) (G_u5q : qdA) (G_u109q : qbg) (x0 x1 : Int) (x2 : List UInt8) (x3 : List AV) : DT qto :=
 .bi (G_u164q x0 x1 x2 x3) (fun y0 =>
 .at (!y0))
 (.no)
def qan : Nat -> qbi × qdy × qdA × qbg
 | 0 => (fun _ _ _ _ => none, fun _ => none, fun _ => none, fun _ _ _ _ => none)
 | n + 1 => (fun x0 x1 x2 x3 => (qp3 ((qan n).1) ((qan n).2.1) ((qan n).2.2.1) ((qan n).2.2.2) x0 x1 x2 x3).ev, fun x0 => (qJA ((qan n).1) ((qan n).2.1) ((qan n).2.2.1) ((qan n).2.2.2) x0).ev, fun x0 => (qJC ((qan n).1) ((qan n).2.1) ((qan n).2.2.1) ((qan n).2.2.2) x0).ev, fun x0 x1 x2 x3 => (qpU ((qan n).1) ((qan n).2.1) ((qan n).2.2.1) ((qan n).2.2.2) x0 x1 x2 x3).ev)
def qpi (x0 x1 : Int) (x2 : List UInt8) (x3 : List AV) : Option qts := qmX fun n => (qan n).1 x0 x1 x2 x3
def q1h (x0 : List AV) : Option qTU := qmX fun n => (qan n).2.1 x0
def q1j (x0 : List AV) : Option qTW := qmX fun n => (qan n).2.2.1 x0
def qDO (x0 x1 : Int) (x2 : List UInt8) (x3 : List AV) : Option qto := qmX fun n => (qan n).2.2.2 x0 x1 x2 x3
theorem qd2 : ∀ n, qoP ((qan n).1) ((qan n).2.1) ((qan n).2.2.1) ((qan n).2.2.2)
 | 0 => ⟨(fun v y h => nomatch h), (fun v y h => nomatch h), (fun v y h => nomatch h), (fun v y h => nomatch h)⟩
 | n + 1 => have hG := qd2 n
 ⟨qae (F := F82) (L := []) (t := (k4 (qp3 ((qan n).1) ((qan n).2.1) ((qan n).2.2.1) ((qan n).2.2.2)))) (qdb ((qan n).1) ((qan n).2.1) ((qan n).2.2.1) ((qan n).2.2.2) hG) (qab (l := []) (by kernel_rfl) trivial) (by kernel_rfl) (fun v => by kernel_rfl) (fun v => rfl), qae (F := q3V) (L := []) (t := (qJA ((qan n).1) ((qan n).2.1) ((qan n).2.2.1) ((qan n).2.2.2))) (qdb ((qan n).1) ((qan n).2.1) ((qan n).2.2.1) ((qan n).2.2.2) hG) (qab (l := []) (by kernel_rfl) trivial) (by kernel_rfl) (fun v => by kernel_rfl) (fun v => rfl), qae (F := qK9) (L := [(1013100, qQ0 ((qan n).1) ((qan n).2.1) ((qan n).2.2.1) ((qan n).2.2.2))]) (t := (qJC ((qan n).1) ((qan n).2.1) ((qan n).2.2.1) ((qan n).2.2.2))) (qdb ((qan n).1) ((qan n).2.1) ((qan n).2.2.1) ((qan n).2.2.2) hG) (qab (l := [qaf qK9 0]) (by kernel_rfl) ⟨qau (by kernel_rfl) (q8r ((qan n).1) ((qan n).2.1) ((qan n).2.2.1) ((qan n).2.2.2) hG), trivial⟩) (by kernel_rfl) (fun v => by kernel_rfl) (fun v => rfl), qae (F := q3W) (L := []) (t := (k4 (qpU ((qan n).1) ((qan n).2.1) ((qan n).2.2.1) ((qan n).2.2.2)))) (qdb ((qan n).1) ((qan n).2.1) ((qan n).2.2.1) ((qan n).2.2.2) hG) (qab (l := []) (by kernel_rfl) trivial) (by kernel_rfl) (fun v => by kernel_rfl) (fun v => rfl)⟩
theorem qUL : FH IP 82 qlN ql2 (k4 qpi) := qbI (p := qlN) (rs := ql2) (s := fun n => (k4 ((qan n).1))) fun n => (qd2 n).1
theorem q6d : FH IP 111 qG1 qIC q1h := qbI (p := qG1) (rs := qIC) (s := fun n => ((qan n).2.1)) fun n => (qd2 n).2.1
theorem q6f : FH IP 131 qHA qJb q1j := qbI (p := qHA) (rs := qJb) (s := fun n => ((qan n).2.2.1)) fun n => (qd2 n).2.2.1
theorem qUd : FH IP 112 qlJ qlW (k4 qDO) := qbI (p := qlJ) (rs := qlW) (s := fun n => (k4 ((qan n).2.2.2))) fun n => (qd2 n).2.2.2
def T35 : Tab := (82, FE qlN ql2 (k4 qpi)) :: T34
theorem qZu : qai IP T35 := ⟨qah qUL, qPK⟩
def T36 : Tab := (111, FE qG1 qIC q1h) :: T35
theorem qZv : qai IP T36 := ⟨qah q6d, qZu⟩
def T37 : Tab := (131, FE qHA qJb q1j) :: T36
theorem qZw : qai IP T37 := ⟨qah q6f, qZv⟩
def T38 : Tab := (112, FE qlJ qlW (k4 qDO)) :: T37
theorem qPL : qai IP T38 := ⟨qah qUd, qZw⟩
abbrev qOO : Type := Bool
def qRF : PArgs := ⟨[.int .i32], []⟩
def qSI : List PRes := [⟨false, .bool, []⟩]
def qqs (x0 : Int) : DT qOO :=
 .at (x0 != 10)
def qnU (x0 : Int) : Option qOO := qav (qqs x0).ev
theorem qEd (x0) : qnU x0 = (qqs x0).ev := qaa _
theorem q0h : FH IP 147 qRF qSI qnU := fh q5F qqs qPL
def T39 : Tab := (147, FE qRF qSI qnU) :: T38
theorem qDe : qai IP T39 := ⟨qah q0h, qPL⟩
abbrev qew : Type := List UInt8 × Int
def qFi : List PSt := [⟨[(1014600, .junk), (0, .str), (1, .fn (.func 147) []), (5, .int .i64)], [], 0, 0⟩]
def qOd (x0 : List UInt8) (x1 : Int) : X × St := (.exit 0, ⟨[(0, .str x0), (5, .int .i64 x1)], [], 0, 0⟩)
def q3L : List (qew -> X × St) := [(k2 qOd)]
def qmE (x0 : List UInt8) (x1 : Int) : DT (Rd qew) :=
 .bi (br (decide (x1 < (x0.length : Int)))
 (br (inB x0.length x1) (br (sm (qnU (IntKind.i32.wrap (qaI x0 x1)))) (some (gv (qnU (IntKind.i32.wrap (qaI x0 x1))))) none) none) (some false)) (fun y0 =>
 .br (y0) (.at (.next ((x0, IntKind.i64.wrap (x1 + 1))))) (.at (.done 0)))
 (.no)
def qmD : qew -> DT (Rd qew) := (fun v => qmE v.1 v.2)
def qwl (v : qew) : Option (Nat × qew) := qav (qaq (fun v => (qmD v).ev) v)
theorem qsb (v) : qwl v = qaq (fun v => (qmD v).ev) v := qaa _
def qFK : qb3 := LE (τ := qew) (hD qFi) (qwl) q3L
theorem q3e : Go.Eng.Told IP (qaf qrb 0).1 (qaf qrb 0).2 (qFK) := lp (inferInstance : Inhabited qew) (hs := qFi) qmD qDe qsb
abbrev qAL : Type := List UInt8
def qGc : PArgs := ⟨[.str, .fn (.func 147) []], []⟩
def qHN : List PRes := [⟨false, .str, []⟩]
def qi8 (x0 : List UInt8) : DT qAL :=
 .bi (pj 0 (qwl (x0, 0))) (fun y0 =>
 .br (leB y0.2 y0.1.length && true) (.at (List.take y0.2.toNat y0.1)) (.no))
 (.no)
def qgh (x0 : List UInt8) : Option qAL := qav (qi8 x0).ev
theorem qxK (x0) : qgh x0 = (qi8 x0).ev := qaa _
theorem qUi : FH IP 146 qGc qHN qgh := qae (F := qrb) (L := [(1014600, qFK)]) (t := qi8) qDe (qab (l := [qaf qrb 0]) (by kernel_rfl) ⟨qau (by kernel_rfl) q3e, trivial⟩) (by kernel_rfl) (fun v => by kernel_rfl) (fun _ => qaa _)
def T40 : Tab := (146, FE qGc qHN qgh) :: T39
theorem qDf : qai IP T40 := ⟨qah qUi, qDe⟩
abbrev qev : Type := List UInt8 × Int
def qFh : List PSt := [⟨[(1014200, .junk), (0, .str), (3, .int .i64)], [], 0, 0⟩]
def qOb (x0 : List UInt8) (x1 : Int) : X × St := (.ret, ⟨[(2, .int .i64 x1), (3, .int .i64 x1)], [], 0, 0⟩)
def qOc (x0 : List UInt8) (x1 : Int) : X × St := (.exit 0, ⟨[(2, .junk), (3, .int .i64 x1)], [], 0, 0⟩)
def q3K : List (qev -> X × St) := [(k2 qOb), (k2 qOc)]
def qmC (x0 : List UInt8) (x1 : Int) : DT (Rd qev) :=
 .br (decide (x1 < (x0.length : Int)))
 (.br (inB x0.length x1)
 (.br (qaI x0 x1 == 32)
 (.br (qaI x0 x1 == 32)
 (.at (.next ((x0, IntKind.i64.wrap (x1 + 1)))))
 (.br (qaI x0 x1 == 35)
 (.br (leB x1 x0.length)
 (.bi (qgh (List.drop x1.toNat x0)) (fun y0 =>
 .at (.next ((x0, IntKind.i64.wrap (x1 + (y0.length : Int))))))
 (.no))
 (.no))
 (.at (.done 0))))
 (.br (qaI x0 x1 == 9)
 (.br (qaI x0 x1 == 9)
 (.at (.next ((x0, IntKind.i64.wrap (x1 + 1)))))
 (.br (qaI x0 x1 == 35)
 (.br (leB x1 x0.length)
 (.bi (qgh (List.drop x1.toNat x0)) (fun y0 =>
 .at (.next ((x0, IntKind.i64.wrap (x1 + (y0.length : Int))))))
 (.no))
 (.no))
 (.at (.done 0))))
 (.br (qaI x0 x1 == 10)
 (.at (.next ((x0, IntKind.i64.wrap (x1 + 1)))))
 (.br (qaI x0 x1 == 35)
 (.br (leB x1 x0.length)
 (.bi (qgh (List.drop x1.toNat x0)) (fun y0 =>
 .at (.next ((x0, IntKind.i64.wrap (x1 + (y0.length : Int))))))
 (.no))
 (.no))
 (.at (.done 0))))))
 (.no))
 (.at (.done 1))
def qiw : qev -> DT (Rd qev) := (fun v => qmC v.1 v.2)
def qsa (v : qev) : Option (Nat × qev) := qav (qaq (fun v => (qiw v).ev) v)
theorem qgY (v) : qsa v = qaq (fun v => (qiw v).ev) v := qaa _
def qFJ : qb3 := LE (τ := qev) (hD qFh) (qsa) q3K
theorem q3d : Go.Eng.Told IP (qaf qYE 0).1 (qaf qYE 0).2 (qFJ) := lp (inferInstance : Inhabited qev) (hs := qFh) qiw qDf qgY
abbrev qAH : Type := Int
def qF8 : PArgs := ⟨[.str], []⟩
def qHJ : List PRes := [⟨false, .int .i64, []⟩]
def qi4 (x0 : List UInt8) : DT qAH :=
 .bi (pj 0 (qsa (x0, 0))) (fun y0 =>
 .at (y0.2))
 (.bi (pj 1 (qsa (x0, 0))) (fun y0 =>
 .at (y0.2))
 (.no))
def qbf (x0 : List UInt8) : Option qAH := qav (qi4 x0).ev
theorem qxG (x0) : qbf x0 = (qi4 x0).ev := qaa _
theorem qUe : FH IP 142 qF8 qHJ qbf := qae (F := qYE) (L := [(1014200, qFJ)]) (t := qi4) qDf (qab (l := [qaf qYE 0]) (by kernel_rfl) ⟨qau (by kernel_rfl) q3d, trivial⟩) (by kernel_rfl) (fun v => by kernel_rfl) (fun _ => qaa _)
def T41 : Tab := (142, FE qF8 qHJ qbf) :: T40
theorem qPM : qai IP T41 := ⟨qah qUe, qDf⟩
abbrev qAJ : Type := Bool
def qGa : PArgs := ⟨[.int .i32], []⟩
def qHL : List PRes := [⟨false, .bool, []⟩]
def qi6 (x0 : Int) : DT qAJ :=
 .bi (br (decide (x0 >= 97)) (some (decide (x0 <= 122))) (some false)) (fun y0 =>
 .at (y0))
 (.no)
def qhH (x0 : Int) : Option qAJ := qav (qi6 x0).ev
theorem qxI (x0) : qhH x0 = (qi6 x0).ev := qaa _
theorem qUg : FH IP 151 qGa qHL qhH := fh q5G qi6 qPM
def T42 : Tab := (151, FE qGa qHL qhH) :: T41
theorem qPN : qai IP T42 := ⟨qah qUg, qPM⟩
abbrev qAV : Type := Bool
def qGm : PArgs := ⟨[.int .i32], []⟩
def qHX : List PRes := [⟨false, .bool, []⟩]
def qjg (x0 : Int) : DT qAV :=
 .bi (br (decide (x0 >= 48)) (some (decide (x0 <= 57))) (some false)) (fun y0 =>
 .at (y0))
 (.no)
def qeH (x0 : Int) : Option qAV := qav (qjg x0).ev
theorem qxT (x0) : qeH x0 = (qjg x0).ev := qaa _
theorem qUt : FH IP 154 qGm qHX qeH := fh q5J qjg qPN
def T43 : Tab := (154, FE qGm qHX qeH) :: T42
theorem qPO : qai IP T43 := ⟨qah qUt, qPN⟩
abbrev qAI : Type := Bool
def qF9 : PArgs := ⟨[.int .i32], []⟩
def qHK : List PRes := [⟨false, .bool, []⟩]
def qi5 (x0 : Int) : DT qAI :=
 .bi (qhH x0) (fun y0 =>
 .bi (br y0 (some true) (br (sm (qeH x0)) (some (gv (qeH x0))) none)) (fun y1 =>
 .bi (br y1 (some true) (some (x0 == 95))) (fun y2 =>
 .at (y2))
 (.no))
 (.no))
 (.no)
def qgg (x0 : Int) : Option qAI := qav (qi5 x0).ev
theorem qxH (x0) : qgg x0 = (qi5 x0).ev := qaa _
theorem qUf : FH IP 152 qF9 qHK qgg := fh q5H qi5 qPO
def T44 : Tab := (152, FE qF9 qHK qgg) :: T43
theorem qDg : qai IP T44 := ⟨qah qUf, qPO⟩
abbrev qeo : Type := List UInt8 × Int
def qFa : List PSt := [⟨[(1014600, .junk), (0, .str), (1, .fn (.func 152) []), (5, .int .i64)], [], 0, 0⟩]
def qN1 (x0 : List UInt8) (x1 : Int) : X × St := (.exit 0, ⟨[(0, .str x0), (5, .int .i64 x1)], [], 0, 0⟩)
def q3D : List (qeo -> X × St) := [(k2 qN1)]
def qmq (x0 : List UInt8) (x1 : Int) : DT (Rd qeo) :=
 .bi (br (decide (x1 < (x0.length : Int)))
 (br (inB x0.length x1) (br (sm (qgg (IntKind.i32.wrap (qaI x0 x1)))) (some (gv (qgg (IntKind.i32.wrap (qaI x0 x1))))) none) none) (some false)) (fun y0 =>
 .br (y0) (.at (.next ((x0, IntKind.i64.wrap (x1 + 1))))) (.at (.done 0)))
 (.no)
def qmp : qeo -> DT (Rd qeo) := (fun v => qmq v.1 v.2)
def qwh (v : qeo) : Option (Nat × qeo) := qav (qaq (fun v => (qmp v).ev) v)
theorem qr1 (v) : qwh v = qaq (fun v => (qmp v).ev) v := qaa _
def qFC : qb3 := LE (τ := qeo) (hD qFa) (qwh) q3D
theorem q26 : Go.Eng.Told IP (qaf qrb 0).1 (qaf qrb 0).2 (qFC) := lp (inferInstance : Inhabited qeo) (hs := qFa) qmp qDg qr1
abbrev qO8 : Type := List UInt8
def qR1 : PArgs := ⟨[.str, .fn (.func 152) []], []⟩
def qS4 : List PRes := [⟨false, .str, []⟩]
def qqO (x0 : List UInt8) : DT qO8 :=
 .bi (pj 0 (qwh (x0, 0))) (fun y0 =>
 .br (leB y0.2 y0.1.length && true) (.at (List.take y0.2.toNat y0.1)) (.no))
 (.no)
def qrH (x0 : List UInt8) : Option qO8 := qav (qqO x0).ev
theorem qEz (x0) : qrH x0 = (qqO x0).ev := qaa _
theorem q0C : FH IP 146 qR1 qS4 qrH := qae (F := qrb) (L := [(1014600, qFC)]) (t := qqO) qDg (qab (l := [qaf qrb 0]) (by kernel_rfl) ⟨qau (by kernel_rfl) q26, trivial⟩) (by kernel_rfl) (fun v => by kernel_rfl) (fun _ => qaa _)
def T45 : Tab := (146, FE qR1 qS4 qrH) :: T44
theorem qPP : qai IP T45 := ⟨qah q0C, qDg⟩
abbrev qAX : Type := List AV
def qGo : PArgs := ⟨[], []⟩
def qHZ : List PRes := [⟨false, .view 1, []⟩]
def qji : DT qAX :=
 .at ([AV.str ([] ++ [112] ++ [114] ++ [111] ++ [100] ++ [117] ++ [99] ++ [116]), AV.str ([] ++ [99] ++ [117] ++ [114] ++ [114] ++ [101] ++ [110] ++ [99] ++ [121]),
 AV.str ([] ++ [99] ++ [97] ++ [108] ++ [101] ++ [110] ++ [100] ++ [97] ++ [114]), AV.str ([] ++ [102] ++ [114] ++ [111] ++ [109]),
 AV.str ([] ++ [101] ++ [118] ++ [101] ++ [114] ++ [121]), AV.str ([] ++ [111] ++ [118] ++ [101] ++ [114] ++ [100] ++ [114] ++ [97] ++ [102] ++ [116]),
 AV.str ([] ++ [116] ++ [97] ++ [120]), AV.str ([] ++ [99] ++ [114] ++ [101] ++ [100] ++ [105] ++ [116]), AV.str ([] ++ [100] ++ [101] ++ [98] ++ [105] ++ [116]),
 AV.str ([] ++ [109] ++ [97] ++ [114] ++ [103] ++ [105] ++ [110] ++ [97] ++ [108]), AV.str ([] ++ [119] ++ [104] ++ [111] ++ [108] ++ [101]),
 AV.str ([] ++ [97] ++ [99] ++ [116] ++ [51] ++ [54] ++ [48]), AV.str ([] ++ [97] ++ [99] ++ [116] ++ [51] ++ [54] ++ [53]),
 AV.str ([] ++ [97] ++ [99] ++ [116] ++ [117] ++ [97] ++ [108]), AV.str ([] ++ [116] ++ [104] ++ [105] ++ [114] ++ [116] ++ [121]),
 AV.str ([] ++ [100] ++ [111] ++ [119] ++ [110]), AV.str ([] ++ [117] ++ [112]), AV.str ([] ++ [102] ++ [108] ++ [111] ++ [111] ++ [114]),
 AV.str ([] ++ [99] ++ [101] ++ [105] ++ [108]), AV.str ([] ++ [104] ++ [97] ++ [108] ++ [102] ++ [95] ++ [117] ++ [112]),
 AV.str ([] ++ [104] ++ [97] ++ [108] ++ [102] ++ [95] ++ [101] ++ [118] ++ [101] ++ [110]), AV.str ([] ++ [107] ++ [101] ++ [101] ++ [112]),
 AV.str ([] ++ [100] ++ [114] ++ [111] ++ [112]), AV.str ([] ++ [102] ++ [101] ++ [101]), AV.str ([] ++ [108] ++ [105] ++ [109] ++ [105] ++ [116]),
 AV.str ([] ++ [119] ++ [104] ++ [101] ++ [110]), AV.str ([] ++ [97] ++ [109] ++ [111] ++ [117] ++ [110] ++ [116] ++ [95] ++ [111] ++ [102]),
 AV.str ([] ++ [115] ++ [105] ++ [110] ++ [103] ++ [108] ++ [101]), AV.str ([] ++ [100] ++ [97] ++ [105] ++ [108] ++ [121]),
 AV.str ([] ++ [109] ++ [111] ++ [110] ++ [116] ++ [104] ++ [108] ++ [121]), AV.str ([] ++ [109] ++ [111] ++ [110] ++ [116] ++ [104]),
 AV.str ([] ++ [114] ++ [101] ++ [116] ++ [117] ++ [114] ++ [110]), AV.str ([] ++ [99] ++ [108] ++ [111] ++ [115] ++ [101]),
 AV.str ([] ++ [101] ++ [118] ++ [101] ++ [110] ++ [116]), AV.str ([] ++ [105] ++ [102]), AV.str ([] ++ [116] ++ [104] ++ [101] ++ [110]),
 AV.str ([] ++ [101] ++ [108] ++ [115] ++ [101]), AV.str ([] ++ [97] ++ [110] ++ [100]), AV.str ([] ++ [111] ++ [114]), AV.str ([] ++ [110] ++ [111] ++ [116]),
 AV.str ([] ++ [109] ++ [105] ++ [110]), AV.str ([] ++ [109] ++ [97] ++ [120])])
def qkQ : Option qAX := qav (qji).ev
theorem qxW : qkQ = (qji).ev := qaa _
theorem qUv : FH IP 162 qGo qHZ (fun _ => qkQ) := qae (F := q5P) (L := []) (t := (fun _ => qji)) qPP (qab (l := []) (by kernel_rfl) trivial) (by kernel_rfl) (fun v => by kernel_rfl) (fun _ => qaa _)
def T46 : Tab := (162, FE qGo qHZ (fun _ => qkQ)) :: T45
theorem qDh : qai IP T46 := ⟨qah qUv, qPP⟩
abbrev qej : Type := List AV × List UInt8 × Int × Int
def qE1 : List PSt := [⟨[(1017300, .junk), (0, .view 1), (1, .str), (7, .int .i64), (8, .int .i64)], [], 0, 0⟩]
def qNE (x0 : List AV) (x1 : List UInt8) (x2 x3 : Int) : X × St := (.ret, ⟨[(4, .int .i64 x3)], [], 0, 0⟩)
def qNF (x0 : List AV) (x1 : List UInt8) (x2 x3 : Int) : X × St := (.exit 0, ⟨[(4, .junk)], [], 0, 0⟩)
def q3u : List (qej -> X × St) := [(k4 qNE), (k4 qNF)]
def qmi (x0 : List AV) (x1 : List UInt8) (x2 x3 : Int) : DT (Rd qej) :=
 .br (decide (x3 < x2))
 (.br (qay [.str] x0 x3)
 (.br (x1 == strOf (cellAt x0 x3 0)) (.at (.done 0)) (.at (.next ((x0, x1, x2, IntKind.i64.wrap (x3 + 1))))))
 (.no))
 (.at (.done 1))
def qmh : qej -> DT (Rd qej) := (fun v => qmi v.1 v.2.1 v.2.2.1 v.2.2.2)
def qrT (v : qej) : Option (Nat × qej) := qav (qaq (fun v => (qmh v).ev) v)
theorem qrU (v) : qrT v = qaq (fun v => (qmh v).ev) v := qaa _
def qFt : qb3 := LE (τ := qej) (hD qE1) (qrT) q3u
theorem q2T : Go.Eng.Told IP (qaf qYH 0).1 (qaf qYH 0).2 (qFt) := lp (inferInstance : Inhabited qej) (hs := qE1) qmh qDh qrU
abbrev qOs : Type := Int
def qRi : PArgs := ⟨[.view 1, .str], []⟩
def qSl : List PRes := [⟨false, .int .i64, []⟩]
def qpZ (x0 : List AV) (x1 : List UInt8) : DT qOs :=
 .bi (pj 0 (qrT (x0, x1, (x0.length : Int), 0))) (fun y0 =>
 .at (y0.2.2.2))
 (.bi (pj 1 (qrT (x0, x1, (x0.length : Int), 0))) (fun y0 =>
 .at (-1))
 (.no))
def qvx (x0 : List AV) (x1 : List UInt8) : Option qOs := qav (qpZ x0 x1).ev
theorem qDS (x0 x1) : qvx x0 x1 = (qpZ x0 x1).ev := qaa _
theorem qZU : FH IP 173 qRi qSl (k2 qvx) := qae (F := qYH) (L := [(1017300, qFt)]) (t := (k2 qpZ)) qDh (qab (l := [qaf qYH 0]) (by kernel_rfl) ⟨qau (by kernel_rfl) q2T, trivial⟩) (by kernel_rfl) (fun v => by kernel_rfl) (fun _ => qaa _)
def T47 : Tab := (173, FE qRi qSl (k2 qvx)) :: T46
theorem qPQ : qai IP T47 := ⟨qah qZU, qDh⟩
abbrev qOq : Type := Bool
def qRg : PArgs := ⟨[.view 1, .str], []⟩
def qSj : List PRes := [⟨false, .bool, []⟩]
def qpW (x0 : List AV) (x1 : List UInt8) : DT qOq :=
 .bi (qvx x0 x1) (fun y0 =>
 .at (decide (y0 >= 0)))
 (.no)
def qru (x0 : List AV) (x1 : List UInt8) : Option qOq := qav (qpW x0 x1).ev
theorem qDQ (x0 x1) : qru x0 x1 = (qpW x0 x1).ev := qaa _
theorem qZS : FH IP 161 qRg qSj (k2 qru) := fh q5O (k2 qpW) qPQ
def T48 : Tab := (161, FE qRg qSj (k2 qru)) :: T47
theorem qPR : qai IP T48 := ⟨qah qZS, qPQ⟩
abbrev qBd : Type := Bool
def qGE : PArgs := ⟨[.str], []⟩
def qIf : List PRes := [⟨false, .bool, []⟩]
def qjv (x0 : List UInt8) : DT qBd :=
 .bi (qkQ) (fun y0 =>
 .bi (qru y0 x0) (fun y1 =>
 .at (y1))
 (.no))
 (.no)
def qkU (x0 : List UInt8) : Option qBd := qav (qjv x0).ev
theorem qyd (x0) : qkU x0 = (qjv x0).ev := qaa _
theorem qUO : FH IP 153 qGE qIf qkU := fh q5I qjv qPR
def T49 : Tab := (153, FE qGE qIf qkU) :: T48
theorem qPS : qai IP T49 := ⟨qah qUO, qPR⟩
abbrev qOP : Type := Bool
def qRG : PArgs := ⟨[.int .i32], []⟩
def qSJ : List PRes := [⟨false, .bool, []⟩]
def qqt (x0 : Int) : DT qOP :=
 .bi (qgg x0) (fun y0 =>
 .bi (br y0 (some true) (some (x0 == 46))) (fun y1 =>
 .bi (br y1 (some true) (some (x0 == 37))) (fun y2 =>
 .at (y2))
 (.no))
 (.no))
 (.no)
def qnV (x0 : Int) : Option qOP := qav (qqt x0).ev
theorem qEe (x0) : qnV x0 = (qqt x0).ev := qaa _
theorem q0i : FH IP 156 qRG qSJ qnV := fh q5L qqt qPS
def T50 : Tab := (156, FE qRG qSJ qnV) :: T49
theorem qDi : qai IP T50 := ⟨qah q0i, qPS⟩
abbrev qep : Type := List UInt8 × Int
def qFb : List PSt := [⟨[(1014600, .junk), (0, .str), (1, .fn (.func 156) []), (5, .int .i64)], [], 0, 0⟩]
def qN2 (x0 : List UInt8) (x1 : Int) : X × St := (.exit 0, ⟨[(0, .str x0), (5, .int .i64 x1)], [], 0, 0⟩)
def q3E : List (qep -> X × St) := [(k2 qN2)]
def qms (x0 : List UInt8) (x1 : Int) : DT (Rd qep) :=
 .bi (br (decide (x1 < (x0.length : Int)))
 (br (inB x0.length x1) (br (sm (qnV (IntKind.i32.wrap (qaI x0 x1)))) (some (gv (qnV (IntKind.i32.wrap (qaI x0 x1))))) none) none) (some false)) (fun y0 =>
 .br (y0) (.at (.next ((x0, IntKind.i64.wrap (x1 + 1))))) (.at (.done 0)))
 (.no)
def qmr : qep -> DT (Rd qep) := (fun v => qms v.1 v.2)
def qwi (v : qep) : Option (Nat × qep) := qav (qaq (fun v => (qmr v).ev) v)
theorem qr2 (v) : qwi v = qaq (fun v => (qmr v).ev) v := qaa _
def qFD : qb3 := LE (τ := qep) (hD qFb) (qwi) q3E
theorem q27 : Go.Eng.Told IP (qaf qrb 0).1 (qaf qrb 0).2 (qFD) := lp (inferInstance : Inhabited qep) (hs := qFb) qmr qDi qr2
abbrev qO9 : Type := List UInt8
def qR2 : PArgs := ⟨[.str, .fn (.func 156) []], []⟩
def qS5 : List PRes := [⟨false, .str, []⟩]
def qqP (x0 : List UInt8) : DT qO9 :=
 .bi (pj 0 (qwi (x0, 0))) (fun y0 =>
 .br (leB y0.2 y0.1.length && true) (.at (List.take y0.2.toNat y0.1)) (.no))
 (.no)
def qrI (x0 : List UInt8) : Option qO9 := qav (qqP x0).ev
theorem qEA (x0) : qrI x0 = (qqP x0).ev := qaa _
theorem q0D : FH IP 146 qR2 qS5 qrI := qae (F := qrb) (L := [(1014600, qFD)]) (t := qqP) qDi (qab (l := [qaf qrb 0]) (by kernel_rfl) ⟨qau (by kernel_rfl) q27, trivial⟩) (by kernel_rfl) (fun v => by kernel_rfl) (fun _ => qaa _)
def T51 : Tab := (146, FE qR2 qS5 qrI) :: T50
theorem qDj : qai IP T51 := ⟨qah q0D, qDi⟩
abbrev qeq : Type := List UInt8 × Int
def qFc : List PSt := [⟨[(1014600, .junk), (0, .str), (1, .fn (.func 154) []), (5, .int .i64)], [], 0, 0⟩]
def qN3 (x0 : List UInt8) (x1 : Int) : X × St := (.exit 0, ⟨[(0, .str x0), (5, .int .i64 x1)], [], 0, 0⟩)
def q3F : List (qeq -> X × St) := [(k2 qN3)]
def qmu (x0 : List UInt8) (x1 : Int) : DT (Rd qeq) :=
 .bi (br (decide (x1 < (x0.length : Int)))
 (br (inB x0.length x1) (br (sm (qeH (IntKind.i32.wrap (qaI x0 x1)))) (some (gv (qeH (IntKind.i32.wrap (qaI x0 x1))))) none) none) (some false)) (fun y0 =>
 .br (y0) (.at (.next ((x0, IntKind.i64.wrap (x1 + 1))))) (.at (.done 0)))
 (.no)
def qmt : qeq -> DT (Rd qeq) := (fun v => qmu v.1 v.2)
def qwj (v : qeq) : Option (Nat × qeq) := qav (qaq (fun v => (qmt v).ev) v)
theorem qr3 (v) : qwj v = qaq (fun v => (qmt v).ev) v := qaa _
def qFE : qb3 := LE (τ := qeq) (hD qFc) (qwj) q3F
theorem q28 : Go.Eng.Told IP (qaf qrb 0).1 (qaf qrb 0).2 (qFE) := lp (inferInstance : Inhabited qeq) (hs := qFc) qmt qDj qr3
abbrev qPa : Type := List UInt8
def qR3 : PArgs := ⟨[.str, .fn (.func 154) []], []⟩
def qS6 : List PRes := [⟨false, .str, []⟩]
def qqQ (x0 : List UInt8) : DT qPa :=
 .bi (pj 0 (qwj (x0, 0))) (fun y0 =>
 .br (leB y0.2 y0.1.length && true) (.at (List.take y0.2.toNat y0.1)) (.no))
 (.no)
def qf8 (x0 : List UInt8) : Option qPa := qav (qqQ x0).ev
theorem qEB (x0) : qf8 x0 = (qqQ x0).ev := qaa _
theorem q0E : FH IP 146 qR3 qS6 qf8 := qae (F := qrb) (L := [(1014600, qFE)]) (t := qqQ) qDj (qab (l := [qaf qrb 0]) (by kernel_rfl) ⟨qau (by kernel_rfl) q28, trivial⟩) (by kernel_rfl) (fun v => by kernel_rfl) (fun _ => qaa _)
def T52 : Tab := (146, FE qR3 qS6 qf8) :: T51
theorem qPT : qai IP T52 := ⟨qah q0E, qDj⟩
abbrev qO7 : Type := Bool
def qR0 : PArgs := ⟨[.str], []⟩
def qS3 : List PRes := [⟨false, .bool, []⟩]
def qqN (x0 : List UInt8) : DT qO7 :=
 .bi (br (!x0 == []) (br (sm (qf8 x0)) (some (gv (qf8 x0) == x0)) none) (some false)) (fun y0 =>
 .bi (br y0 (br ((x0.length : Int) == 1) (some true) (br (inB x0.length 0) (some (qaI x0 0 != 48)) none)) (some false)) (fun y1 =>
 .at (y1))
 (.no))
 (.no)
def qlo (x0 : List UInt8) : Option qO7 := qav (qqN x0).ev
theorem qEy (x0) : qlo x0 = (qqN x0).ev := qaa _
theorem q0B : FH IP 163 qR0 qS3 qlo := fh q5Q qqN qPT
def T53 : Tab := (163, FE qR0 qS3 qlo) :: T52
theorem qPU : qai IP T53 := ⟨qah q0B, qPT⟩
abbrev qOo : Type := Bool
def qRf : PArgs := ⟨[.str, .str], []⟩
def qSi : List PRes := [⟨false, .bool, []⟩]
def qpV (x0 x1 : List UInt8) : DT qOo :=
 .bi (br (decide ((x0.length : Int) >= (x1.length : Int)))
 (br (leB (IntKind.i64.wrap ((x0.length : Int) - (x1.length : Int))) x0.length) (some (List.drop (IntKind.i64.wrap ((x0.length : Int) - (x1.length : Int))).toNat x0 == x1))
 none)
 (some false)) (fun y0 =>
 .at (y0))
 (.no)
def qvw (x0 x1 : List UInt8) : Option qOo := qav (qpV x0 x1).ev
theorem qDP (x0 x1) : qvw x0 x1 = (qpV x0 x1).ev := qaa _
theorem qZR : FH IP 197 qRf qSi (k2 qvw) := fh q5W (k2 qpV) qPU
def T54 : Tab := (197, FE qRf qSi (k2 qvw)) :: T53
theorem qPV : qai IP T54 := ⟨qah qZR, qPU⟩
abbrev qZm : Type := List UInt8 × Bool
def q2i : PArgs := ⟨[.str, .str], []⟩
def q2q : List PRes := [⟨false, .tup [.str, .bool], []⟩]
def qxg (x0 x1 : List UInt8) : DT qZm :=
 .bi (qvw x0 x1) (fun y0 =>
 .br (!y0)
 (.at ((x0, false)))
 (.br (leB (IntKind.i64.wrap ((x0.length : Int) - (x1.length : Int))) x0.length && true)
 (.at ((List.take (IntKind.i64.wrap ((x0.length : Int) - (x1.length : Int))).toNat x0, true)))
 (.no)))
 (.no)
def qMJ (x0 x1 : List UInt8) : Option qZm := qav (qxg x0 x1).ev
theorem qMK (x0 x1) : qMJ x0 x1 = (qxg x0 x1).ev := qaa _
theorem q6h : FH IP 188 q2i q2q (k2 qMJ) := fh q5U (k2 qxg) qPV
def T55 : Tab := (188, FE q2i q2q (k2 qMJ)) :: T54
theorem qPW : qai IP T55 := ⟨qah q6h, qPV⟩
abbrev qOy : Type := List UInt8 × Bool
def qRo : PArgs := ⟨[.str, .str], []⟩
def qSr : List PRes := [⟨false, .tup [.str, .bool], []⟩]
def qqe (x0 x1 : List UInt8) : DT qOy :=
 .bi (qMJ x0 x1) (fun y0 =>
 .at ((y0.1, y0.2)))
 (.no)
def qrx (x0 x1 : List UInt8) : Option qOy := qav (qqe x0 x1).ev
theorem qDY (x0 x1) : qrx x0 x1 = (qqe x0 x1).ev := qaa _
theorem qZ2 : FH IP 176 qRo qSr (k2 qrx) := fh q5S (k2 qqe) qPW
def T56 : Tab := (176, FE qRo qSr (k2 qrx)) :: T55
theorem qPX : qai IP T56 := ⟨qah qZ2, qPW⟩
abbrev qOr : Type := Int
def qRh : PArgs := ⟨[.str, .str], []⟩
def qSk : List PRes := [⟨false, .int .i64, []⟩]
def qpY (x0 x1 : List UInt8) : DT qOr :=
 .bi (br ((x1.length : Int) == 0) (some true) (some (x1 == x0))) (fun y0 =>
 .br (y0)
 (.at (0))
 (.br ((x1.length : Int) == 1)
 (.br (inB x1.length 0) (.at (Lib.indexByte x0 (qaI x1 0).toNat.toUInt8)) (.no))
 (.br (decide ((x1.length : Int) >= (x0.length : Int))) (.at (-1)) (.no))))
 (.no)
def qrv (x0 x1 : List UInt8) : Option qOr := qav (qpY x0 x1).ev
theorem qDR (x0 x1) : qrv x0 x1 = (qpY x0 x1).ev := qaa _
theorem qZT : FH IP 160 qRh qSk (k2 qrv) := qae (F := q3Y) (L := []) (t := (k2 qpY)) qPX (qab (l := [qaf q3Y 0]) (by kernel_rfl) ⟨qAg (by kernel_rfl), trivial⟩) (by kernel_rfl) (fun v => by kernel_rfl) (fun _ => qaa _)
def T57 : Tab := (160, FE qRh qSk (k2 qrv)) :: T56
theorem qPY : qai IP T57 := ⟨qah qZT, qPX⟩
abbrev qOt : Type := List UInt8 × List UInt8 × Bool
def qRj : PArgs := ⟨[.str, .str], []⟩
def qSm : List PRes := [⟨false, .tup [.str, .str, .bool], []⟩]
def qp0 (x0 x1 : List UInt8) : DT qOt :=
 .bi (qrv x0 x1) (fun y0 =>
 .br (decide (y0 >= 0))
 (.br (leB y0 x0.length && true)
 (.br (leB (IntKind.i64.wrap (y0 + (x1.length : Int))) x0.length)
 (.at ((List.take y0.toNat x0, List.drop (IntKind.i64.wrap (y0 + (x1.length : Int))).toNat x0, true)))
 (.no))
 (.no))
 (.at ((x0, [], false))))
 (.no)
def qvy (x0 x1 : List UInt8) : Option qOt := qav (qp0 x0 x1).ev
theorem qDT (x0 x1) : qvy x0 x1 = (qp0 x0 x1).ev := qaa _
theorem qZV : FH IP 189 qRj qSm (k2 qvy) := fh q5V (k2 qp0) qPY
def T58 : Tab := (189, FE qRj qSm (k2 qvy)) :: T57
theorem qPZ : qai IP T58 := ⟨qah qZV, qPY⟩
abbrev qAU : Type := List UInt8 × List UInt8 × Bool
def qGl : PArgs := ⟨[.str, .str], []⟩
def qHW : List PRes := [⟨false, .tup [.str, .str, .bool], []⟩]
def qjf (x0 x1 : List UInt8) : DT qAU :=
 .bi (qvy x0 x1) (fun y0 =>
 .at ((y0.1, y0.2.1, y0.2.2)))
 (.no)
def qkN (x0 x1 : List UInt8) : Option qAU := qav (qjf x0 x1).ev
theorem qxS (x0 x1) : qkN x0 x1 = (qjf x0 x1).ev := qaa _
theorem qUs : FH IP 177 qGl qHW (k2 qkN) := fh q5T (k2 qjf) qPZ
def T59 : Tab := (177, FE qGl qHW (k2 qkN)) :: T58
theorem qDk : qai IP T59 := ⟨qah qUs, qPZ⟩
abbrev qcS : Type := List UInt8 × List UInt8
def qvO : List PSt := [⟨[(1016500, .junk), (6, .str), (7, .str)], [], 0, 0⟩]
def qJR (x0 x1 : List UInt8) : X × St := (.exit 0, ⟨[(6, .str x0), (7, .str x1)], [], 0, 0⟩)
def qXa : List (qcS -> X × St) := [(k2 qJR)]
def qif (x0 x1 : List UInt8) : DT (Rd qcS) :=
 .br (decide ((x1.length : Int) < 4))
 (.br (decide (x1.length + 1 <= 4611686018427387904)) (.at (.next ((x0, x1 ++ [48])))) (.no))
 (.at (.done 0))
def qfL : qcS -> DT (Rd qcS) := (fun v => qif v.1 v.2)
def qpD (v : qcS) : Option (Nat × qcS) := qav (qaq (fun v => (qfL v).ev) v)
theorem qof (v) : qpD v = qaq (fun v => (qfL v).ev) v := qaa _
def qwu : qb3 := LE (τ := qcS) (hD qvO) (qpD) qXa
theorem qWz : Go.Eng.Told IP (qaf qYG 0).1 (qaf qYG 0).2 (qwu) := lp (inferInstance : Inhabited qcS) (hs := qvO) qfL qDk qof
abbrev qBc : Type := Int × Int
def qGD : PArgs := ⟨[.str], []⟩
def qIe : List PRes := [⟨false, .tup [.int .i64, .int .i64], []⟩]
def qju (x0 : List UInt8) : DT qBc :=
 .bi (qrx x0 [37]) (fun y0 =>
 .bi (qkN y0.1 [46]) (fun y1 =>
 .bi (br (!y0.2) (some true) (br (sm (qlo y1.1)) (some !gv (qlo y1.1)) none)) (fun y2 =>
 .bi (br y2 (some true)
 (br y1.2.2
 (br (y1.2.1 == []) (some true)
 (br (decide ((y1.2.1.length : Int) > 4)) (some true)
 (br (sm (qf8 y1.2.1))
 (br (!gv (qf8 y1.2.1) == y1.2.1) (some true)
 (br (inB y1.2.1.length (IntKind.i64.wrap ((y1.2.1.length : Int) - 1))) (some (qaI y1.2.1 (IntKind.i64.wrap ((y1.2.1.length : Int) - 1)) == 48))
 none))
 none)))
 (some false))) (fun y3 =>
 .br (y3)
 (.at ((0, 2)))
 (.br (decide ((y1.1.length : Int) > 3))
 (.at ((0, 1)))
 (.bi (pj 0 (qpD (y1.1, y1.2.1))) (fun y4 =>
 .br (decide (y4.1.length + y4.2.length <= 4611686018427387904))
 (.br (pOk (y4.1 ++ y4.2) && nOk (Lib.atoiAll (y4.1 ++ y4.2)))
 (.br (decide (q5a (Lib.atoiAll (y4.1 ++ y4.2)) > 1000000)) (.at ((0, 1))) (.at ((q5a (Lib.atoiAll (y4.1 ++ y4.2)), 0))))
 (.br (pOk (y4.1 ++ y4.2) && qq9 (Lib.atoiAll (y4.1 ++ y4.2)))
 (.br (decide (Lib.atoiSat (y4.1 ++ y4.2) > 1000000)) (.at ((0, 1))) (.at ((Lib.atoiSat (y4.1 ++ y4.2), 0))))
 (.br (pOk (y4.1 ++ y4.2) && qg1 (Lib.atoiAll (y4.1 ++ y4.2))) (.at ((0, 0))) (.no))))
 (.no))
 (.no))))
 (.no))
 (.no))
 (.no))
 (.no)
def qkT (x0 : List UInt8) : Option qBc := qav (qju x0).ev
theorem qyc (x0) : qkT x0 = (qju x0).ev := qaa _
theorem qUN : FH IP 165 qGD qIe qkT := qae (F := qYG) (L := [(1016500, qwu)]) (t := qju) qDk (qab (l := [qaf qYG 0]) (by kernel_rfl) ⟨qau (by kernel_rfl) qWz, trivial⟩) (by kernel_rfl) (fun v => by kernel_rfl) (fun _ => qaa _)
def T60 : Tab := (165, FE qGD qIe qkT) :: T59
theorem qP0 : qai IP T60 := ⟨qah qUN, qDk⟩
abbrev qAK : Type := Int × Int × List UInt8 × Int
def qGb : PArgs := ⟨[.str], []⟩
def qHM : List PRes := [⟨false, .tup [.agg [.int .i64, .int .i64, .str], .int .i64], []⟩]
def qi7 (x0 : List UInt8) : DT qAK :=
 .bi (qlo x0) (fun y0 =>
 .br (y0)
 (.br (pOk x0 && nOk (Lib.parseIntB 64 x0))
 (.at ((2, 0, x0, 0)))
 (.br (pOk x0 && qq9 (Lib.parseIntB 64 x0))
 (.at ((0, 0, [], 6)))
 (.br (pOk x0 && qg1 (Lib.parseIntB 64 x0)) (.at ((0, 0, [], 6))) (.no))))
 (.bi (qkT x0) (fun y1 =>
 .br (y1.2 == 0)
 (.at ((3, 0, x0, 0)))
 (.br (y1.2 == 1) (.at ((0, 0, [], 6))) (.at ((0, 0, [], 2)))))
 (.no)))
 (.no)
def qkK (x0 : List UInt8) : Option qAK := qav (qi7 x0).ev
theorem qxJ (x0) : qkK x0 = (qi7 x0).ev := qaa _
theorem qUh : FH IP 155 qGb qHM qkK := fh q5K qi7 qP0
def T61 : Tab := (155, FE qGb qHM qkK) :: T60
theorem qP1 : qai IP T61 := ⟨qah qUh, qP0⟩
abbrev qAW : Type := List AV
def qGn : PArgs := ⟨[], []⟩
def qHY : List PRes := [⟨false, .view 1, []⟩]
def qjh : DT qAW :=
 .at ([AV.str ([] ++ [61] ++ [61]), AV.str ([] ++ [33] ++ [61]), AV.str ([] ++ [60] ++ [61]), AV.str ([] ++ [123]), AV.str ([] ++ [125]), AV.str ([] ++ [40]), AV.str ([] ++ [41]),
 AV.str ([] ++ [44]), AV.str ([] ++ [59]), AV.str ([] ++ [58]), AV.str ([] ++ [36]), AV.str ([] ++ [43]), AV.str ([] ++ [45]), AV.str ([] ++ [42]), AV.str ([] ++ [47]),
 AV.str ([] ++ [60])])
def qkP : Option qAW := qav (qjh).ev
theorem qxV : qkP = (qjh).ev := qaa _
theorem qUu : FH IP 157 qGn qHY (fun _ => qkP) := qae (F := q5M) (L := []) (t := (fun _ => qjh)) qP1 (qab (l := []) (by kernel_rfl) trivial) (by kernel_rfl) (fun v => by kernel_rfl) (fun _ => qaa _)
def T62 : Tab := (157, FE qGn qHY (fun _ => qkP)) :: T61
theorem qP2 : qai IP T62 := ⟨qah qUu, qP1⟩
abbrev qZn : Type := Bool
def q2j : PArgs := ⟨[.str, .str], []⟩
def q2r : List PRes := [⟨false, .bool, []⟩]
def qxh (x0 x1 : List UInt8) : DT qZn :=
 .bi (br (decide ((x0.length : Int) >= (x1.length : Int))) (br (leB (x1.length : Int) x0.length && true) (some (List.take (x1.length : Int).toNat x0 == x1)) none) (some false)) (fun y0 =>
 .at (y0))
 (.no)
def qML (x0 x1 : List UInt8) : Option qZn := qav (qxh x0 x1).ev
theorem qMM (x0 x1) : qML x0 x1 = (qxh x0 x1).ev := qaa _
theorem q6i : FH IP 167 q2j q2r (k2 qML) := fh q5R (k2 qxh) qP2
def T63 : Tab := (167, FE q2j q2r (k2 qML)) :: T62
theorem qP3 : qai IP T63 := ⟨qah q6i, qP2⟩
abbrev qOz : Type := Bool
def qRp : PArgs := ⟨[.str, .str], []⟩
def qSs : List PRes := [⟨false, .bool, []⟩]
def qqf (x0 x1 : List UInt8) : DT qOz :=
 .bi (qML x0 x1) (fun y0 =>
 .at (y0))
 (.no)
def qry (x0 x1 : List UInt8) : Option qOz := qav (qqf x0 x1).ev
theorem qDZ (x0 x1) : qry x0 x1 = (qqf x0 x1).ev := qaa _
theorem qZ3 : FH IP 158 qRp qSs (k2 qry) := fh q5N (k2 qqf) qP3
def T64 : Tab := (158, FE qRp qSs (k2 qry)) :: T63
theorem qDl : qai IP T64 := ⟨qah qZ3, qP3⟩
abbrev qcT : Type := List UInt8 × List AV × Int × Int × Int × Int × List UInt8
def qvP : List PSt := [⟨[(1014400, .junk), (0, .str), (2, .ref 0 0 0), (34, .view 1), (35, .int .i64), (36, .int .i64)], [(0, .box [.int .i64, .int .i64, .str] false)], 1, 0⟩]
def qJS (x0 : List UInt8) (x1 : List AV) (x2 x3 : Int) (x4 x5 : Int) (x6 : List UInt8) : X × St := (.ret,
 ⟨[(2, .ref 0 0 0), (3, .int .i64 0)], [(0, .box [.int .i64 4, .int .i64 0, .str (strOf (cellAt x1 x3 0))] false)], 1, 0⟩)
def qJT (x0 : List UInt8) (x1 : List AV) (x2 x3 : Int) (x4 x5 : Int) (x6 : List UInt8) : X × St := (.exit 1, ⟨[(2, .ref 0 0 0), (3, .junk)], [(0, .box [.int .i64 x4, .int .i64 x5, .str x6] false)], 1, 0⟩)
def qXb : List (qcT -> X × St) := [(k7 qJS), (k7 qJT)]
def qig (x0 : List UInt8) (x1 : List AV) (x2 x3 : Int) (x4 x5 : Int) (x6 : List UInt8) : DT (Rd qcT) :=
 .br (decide (x3 < x2))
 (.br (qay [.str] x1 x3)
 (.bi (qry x0 (strOf (cellAt x1 x3 0))) (fun y0 =>
 .br (y0) (.at (.done 0)) (.at (.next ((x0, x1, x2, IntKind.i64.wrap (x3 + 1), x4, x5, x6)))))
 (.no))
 (.no))
 (.at (.done 1))
def qg7 : qcT -> DT (Rd qcT) := (fun v => qig v.1 v.2.1 v.2.2.1 v.2.2.2.1 v.2.2.2.2.1 v.2.2.2.2.2.1 v.2.2.2.2.2.2)
def qlt (v : qcT) : Option (Nat × qcT) := qav (qaq (fun v => (qg7 v).ev) v)
theorem qog (v) : qlt v = qaq (fun v => (qg7 v).ev) v := qaa _
def qwv : qb3 := LE (τ := qcT) (hD qvP) (qlt) qXb
theorem qWA : Go.Eng.Told IP (qaf qYF 0).1 (qaf qYF 0).2 (qwv) := lp (inferInstance : Inhabited qcT) (hs := qvP) qg7 qDl qog
end
end Go.Proofs.H13

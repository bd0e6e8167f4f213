/- Functions over plain data. Printed by a program of mine. -/
import Derived.Test.YtigchhcddgibhaaGreatDoorD13_9
import Derived.KernelRfl
set_option linter.unusedVariables false
set_option linter.unusedSimpArgs false
set_option linter.unnecessarySimpa false
namespace Go.Proofs.H13
open Go Go.Eng
set_option maxRecDepth 100000
noncomputable section
abbrev qTJ : Type := Bool
def qWl : PArgs := ⟨[.agg [.int .i64, .int .i64, .str, .view 4, .view 2, .view 2]], []⟩
def qXp : List PRes := [⟨false, .bool, []⟩]
def qu5 (x0 x1 : Int) (x2 : List UInt8) (x3 x4 x5 : List AV) : DT qTJ :=
 .bi (qiC x0 x1 x2 x3 x4 x5) (fun y0 =>
 .br (y0)
 (.bi (qbb) (fun y1 =>
 .at (y1))
 (.no))
 (.bi (qoQ x0 x1 x2 x3 x4) (fun y1 =>
 .br (y1.2.2.2 != 0)
 (.bi (qbb) (fun y2 =>
 .at (y2))
 (.no))
 (.bi (qgh x0 x1 x2 x3 x4 x5) (fun y2 =>
 .bi (qep y1.1 y1.2.1 y1.2.2.1 x5 (y1.2.2.1.length : Int)) (fun y3 =>
 .bi (qep y1.1 y1.2.1 y1.2.2.1 x5 (IntKind.i64.wrap ((y1.2.2.1.length : Int) + 1000))) (fun y4 =>
 .bi (br (if true = true then !(y2.1 == y3.1 && (y2.2.1 == y3.2.1 && true)) else y2.1 == y3.1 && (y2.2.1 == y3.2.1 && true)) (some true)
 (some (y2.2.2 != y3.2.2.2))) (fun y5 =>
 .bi (br y5 (some true) (some (if true = true then !(y4.1 == y3.1 && (y4.2.1 == y3.2.1 && true)) else y4.1 == y3.1 && (y4.2.1 == y3.2.1 && true)))) (fun y6 =>
 .bi (br y6 (some true) (some (y4.2.2.2 != y3.2.2.2))) (fun y7 =>
 .br (y7)
 (.at (false))
 (.bi (br (y2.2.2 != 0) (some true)
 (br (decide (y3.2.2.1 ≥ 0)) (br (decide (y3.2.2.1 < (y1.2.2.1.length : Int))) (some (y4.2.2.1 == IntKind.i64.wrap (y3.2.2.1 + 1000))) (some false))
 (some false))) (fun y8 =>
 .bi (br y8 (br (y2.2.2 == 0) (some true) (br (y3.2.2.1 == 0) (some (y4.2.2.1 == 0)) (some false))) (some false)) (fun y9 =>
 .bi (br y9 (br (sm qbb) (some (gv qbb)) none) (some false)) (fun y10 =>
 .at (y10))
 (.no))
 (.no))
 (.no)))
 (.no))
 (.no))
 (.no))
 (.no))
 (.no))
 (.no)))
 (.no)))
 (.no)
def qAP (x0 x1 : Int) (x2 : List UInt8) (x3 x4 x5 : List AV) : Option qTJ := qaz (qu5 x0 x1 x2 x3 x4 x5).ev
theorem qJI (x0 x1 : Int) (x2 : List UInt8) (x3 x4 x5 : List AV) : qAP x0 x1 x2 x3 x4 x5 = (qu5 x0 x1 x2 x3 x4 x5).ev := qaa _
theorem qVw : FH IP 6 qWl qXp (k6 qAP) := qaf (F := F6) (L := []) (t := (k6 qu5)) qyy (qab (l := []) (by kernel_rfl) trivial) (by kernel_rfl) (fun v => by kernel_rfl) (fun _ => qaa _)
def zbQ : Tab := (6, FE qWl qXp (k6 qAP)) :: zbt
theorem qIw : qaj IP zbQ := ⟨qak qVw, qyy⟩
abbrev qTO : Type := Bool
def qWr : PArgs := ⟨[.agg [.int .i64, .int .i64, .str, .view 4, .view 2, .view 2]], []⟩
def qXv : List PRes := [⟨false, .bool, []⟩]
def qva (x0 x1 : Int) (x2 : List UInt8) (x3 x4 x5 : List AV) : DT qTO :=
 .bi (qiC x0 x1 x2 x3 x4 x5) (fun y0 =>
 .br (y0)
 (.bi (qbb) (fun y1 =>
 .at (y1))
 (.no))
 (.bi (qgh x0 x1 x2 x3 x4 x5) (fun y1 =>
 .br (y1.2.2 != 0)
 (.bi (br (if false = true then !(y1.1 == 0 && (y1.2.1 == 0 && true)) else y1.1 == 0 && (y1.2.1 == 0 && true)) (br (sm qbb) (some (gv qbb)) none) (some false)) (fun y2 =>
 .at (y2))
 (.no))
 (.bi (qiF x0 x1 x2 x3 x4) (fun y2 =>
 .bi (br (y2.2 == 0) (some (y2.1 == y1.1)) (some false)) (fun y3 =>
 .br (y3)
 (.bi (br (sm (qco [AV.agg [AV.str [120], AV.int IntKind.i64 y2.1]] [AV.agg [AV.int IntKind.i64 y1.1, AV.int IntKind.i64 y1.2.1]]))
 (some (gv (qco [AV.agg [AV.str [120], AV.int IntKind.i64 y2.1]] [AV.agg [AV.int IntKind.i64 y1.1, AV.int IntKind.i64 y1.2.1]]))) none) (fun y4 =>
 .bi (br y4 (br (sm qbb) (some (gv qbb)) none) (some false)) (fun y5 =>
 .at (y5))
 (.no))
 (.no))
 (.at (false)))
 (.no))
 (.no)))
 (.no)))
 (.no)
def qAQ (x0 x1 : Int) (x2 : List UInt8) (x3 x4 x5 : List AV) : Option qTO := qaz (qva x0 x1 x2 x3 x4 x5).ev
theorem qJN (x0 x1 : Int) (x2 : List UInt8) (x3 x4 x5 : List AV) : qAQ x0 x1 x2 x3 x4 x5 = (qva x0 x1 x2 x3 x4 x5).ev := qaa _
theorem qVx : FH IP 7 qWr qXv (k6 qAQ) := qaf (F := F7) (L := []) (t := (k6 qva)) qIw (qab (l := []) (by kernel_rfl) trivial) (by kernel_rfl) (fun v => by kernel_rfl) (fun _ => qaa _)
def zbR : Tab := (7, FE qWr qXv (k6 qAQ)) :: zbQ
theorem qIx : qaj IP zbR := ⟨qak qVx, qIw⟩
abbrev qHs : Type := Bool
def qWQ : PArgs := ⟨[.agg [.int .i64, .int .i64], .agg [.int .i64, .int .i64]], []⟩
def qXU : List PRes := [⟨false, .bool, []⟩]
def lwT (x0 x1 x2 x3 : Int) : DT qHs :=
 (.bi (qaW 12 [AV.agg [AV.int IntKind.i64 x0, AV.int IntKind.i64 x1], AV.agg [AV.int IntKind.i64 x2, AV.int IntKind.i64 x3]]) (fun y9 =>
 .bi (qaW 13 [AV.agg [AV.int IntKind.i64 x2, AV.int IntKind.i64 x3], AV.agg [AV.int IntKind.i64 x0, AV.int IntKind.i64 x1]]) (fun y10 =>
 .bi (br (y9.2.2 != y10.2.2) (some true) (br (y9.2.2 == 0) (some (IntKind.i64.wrap (y9.2.1 + y10.2.1) != 1)) (some false))) (fun y11 =>
 .br (y11)
 (.at (false))
 (.bi (qaW 17 [AV.agg [AV.int IntKind.i64 x0, AV.int IntKind.i64 x1], AV.agg [AV.int IntKind.i64 x2, AV.int IntKind.i64 x3]]) (fun y12 =>
 .bi (qaW 18 [AV.agg [AV.int IntKind.i64 x0, AV.int IntKind.i64 x1], AV.agg [AV.int IntKind.i64 x2, AV.int IntKind.i64 x3]]) (fun y13 =>
 .bi (br (y12.2.2 == y13.2.2)
 (br (y12.2.2 != 0) (some true)
 (br (decide (y12.2.1 ≤ y13.2.1))
 (br (if false = true then !(y12.1 == x0 && (y12.2.1 == x1 && true)) else y12.1 == x0 && (y12.2.1 == x1 && true))
 (br (if false = true then !(y13.1 == x2 && (y13.2.1 == x3 && true)) else y13.1 == x2 && (y13.2.1 == x3 && true)) (some true)
 (br (if false = true then !(y12.1 == x2 && (y12.2.1 == x3 && true)) else y12.1 == x2 && (y12.2.1 == x3 && true))
 (some (if false = true then !(y13.1 == x0 && (y13.2.1 == x1 && true)) else y13.1 == x0 && (y13.2.1 == x1 && true))) (some false)))
 (br (if false = true then !(y12.1 == x2 && (y12.2.1 == x3 && true)) else y12.1 == x2 && (y12.2.1 == x3 && true))
 (some (if false = true then !(y13.1 == x0 && (y13.2.1 == x1 && true)) else y13.1 == x0 && (y13.2.1 == x1 && true))) (some false)))
 (some false)))
 (some false)) (fun y14 =>
 .bi (br y14 (br (sm qbb) (some (gv qbb)) none) (some false)) (fun y15 =>
 .at (y15))
 (.no))
 (.no))
 (.no))
 (.no)))
 (.no))
 (.no))
 (.no))
def qvz (x0 x1 : Int) (x2 x3 : Int) : DT qHs :=
 .bi (qaW 5 [AV.agg [AV.int IntKind.i64 x0, AV.int IntKind.i64 x1], AV.agg [AV.int IntKind.i64 x2, AV.int IntKind.i64 x3]]) (fun y0 =>
 .bi (qaW 5 [AV.agg [AV.int IntKind.i64 x2, AV.int IntKind.i64 x3], AV.agg [AV.int IntKind.i64 x0, AV.int IntKind.i64 x1]]) (fun y1 =>
 .bi (br (x0 == x2)
 (br (if true = true then !(y0.1 == y1.1 && (y0.2.1 == y1.2.1 && true)) else y0.1 == y1.1 && (y0.2.1 == y1.2.1 && true)) (some true)
 (some (y0.2.2 != y1.2.2)))
 (some false)) (fun y2 =>
 .br (y2)
 (.at (false))
 (.bi (qaW 7 [AV.agg [AV.int IntKind.i64 x0, AV.int IntKind.i64 x1], AV.agg [AV.int IntKind.i64 x2, AV.int IntKind.i64 x3]]) (fun y3 =>
 .bi (qaW 7 [AV.agg [AV.int IntKind.i64 x2, AV.int IntKind.i64 x3], AV.agg [AV.int IntKind.i64 x0, AV.int IntKind.i64 x1]]) (fun y4 =>
 .bi (br (if true = true then !(y3.1 == y4.1 && (y3.2.1 == y4.2.1 && true)) else y3.1 == y4.1 && (y3.2.1 == y4.2.1 && true)) (some true)
 (some (y3.2.2 != y4.2.2))) (fun y5 =>
 .br (y5)
 (.at (false))
 (.bi (qaW 6 [AV.agg [AV.int IntKind.i64 x0, AV.int IntKind.i64 x1], AV.agg [AV.int IntKind.i64 x2, AV.int IntKind.i64 x3]]) (fun y6 =>
 .bi (br (y6.2.2 == 0) (some (x0 == x2)) (some false)) (fun y7 =>
 .bi (br y7 (some (x0 != 4)) (some false)) (fun y8 =>
 .br (y8)
 (.bi (qaW 5 [AV.agg [AV.int IntKind.i64 y6.1, AV.int IntKind.i64 y6.2.1], AV.agg [AV.int IntKind.i64 x2, AV.int IntKind.i64 x3]]) (fun y9 =>
 .bi (br (if true = true then !(y9.1 == x0 && (y9.2.1 == x1 && true)) else y9.1 == x0 && (y9.2.1 == x1 && true)) (some true) (some (y9.2.2 != 0))) (fun y10 =>
 .br (y10)
 (.at (false))
 ((lwT x0 x1 x2 x3)))
 (.no))
 (.no))
 ((lwT x0 x1 x2 x3)))
 (.no))
 (.no))
 (.no)))
 (.no))
 (.no))
 (.no)))
 (.no))
 (.no))
 (.no)
def qAS (x0 x1 : Int) (x2 x3 : Int) : Option qHs := qaz (qvz x0 x1 x2 x3).ev
theorem qKc (x0 x1 : Int) (x2 x3 : Int) : qAS x0 x1 x2 x3 = (qvz x0 x1 x2 x3).ev := qaa _
theorem qVz : FH IP 8 qWQ qXU (k4 qAS) := qaf (F := F8) (L := []) (t := (k4 qvz)) qIx (qab (l := []) (by kernel_rfl) trivial) (by kernel_rfl) (fun v => by kernel_rfl) (fun _ => qaa _)
end
end Go.Proofs.H13

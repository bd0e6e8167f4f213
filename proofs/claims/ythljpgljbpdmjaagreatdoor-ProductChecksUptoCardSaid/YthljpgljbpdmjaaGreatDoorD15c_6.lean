/- Functions over plain data. Printed by a program of mine. -/
import Derived.Test.YthljpgljbpdmjaaGreatDoorD15c_5
import Derived.KernelRfl
set_option linter.unusedVariables false
set_option linter.unusedSimpArgs false
set_option linter.unnecessarySimpa false
namespace Go.Proofs.H15c
open Go Go.Eng
set_option maxRecDepth 100000
noncomputable section
abbrev qgK : Type := List AV × List AV × Int × Int
def qJH : List PSt := [⟨[(1004500, .junk), (1, .view 6), (2, .fn (.func 46) []), (15, .view 6), (16, .int .i64), (17, .int .i64)], [], 0, 0⟩]
def qNS (x0 x1 : List AV) (x2 x3 : Int) : X × St := (X.ret, ⟨[(6, AV.bool false)], [], 0, 0⟩)
def qNT (x0 x1 : List AV) (x2 x3 : Int) : X × St := (X.exit 0, ⟨[(6, AV.junk)], [], 0, 0⟩)
def qUy : List (qgK → X × St) := [(k4 qNS), (k4 qNT)]
def qpn (x0 x1 : List AV) (x2 x3 : Int) : DT (Rd qgK) :=
 .br (decide (x3 < x2))
 (.br (qaS [CS.str, CS.int IntKind.i64, CS.int IntKind.i64, CS.int IntKind.i64, CS.str, CS.slice 4] x1 x3)
 (.br (qaS [CS.str, CS.int IntKind.i64, CS.int IntKind.i64, CS.int IntKind.i64, CS.str, CS.slice 4] x0 x3)
 (.bi (qqU (strOf (cellAt x1 x3 0)) (intOf (cellAt x1 x3 1)) (intOf (cellAt x1 x3 2)) (intOf (cellAt x1 x3 3)) (strOf (cellAt x1 x3 4)) (qal (cellAt x1 x3 5))
 (strOf (cellAt x0 x3 0)) (intOf (cellAt x0 x3 1)) (intOf (cellAt x0 x3 2)) (intOf (cellAt x0 x3 3)) (strOf (cellAt x0 x3 4)) (qal (cellAt x0 x3 5))) (fun y0 =>
 .br (!y0) (.at (.done 0)) (.at (.next ((x0, x1, x2, IntKind.i64.wrap (x3 + 1))))))
 (.no))
 (.no))
 (.no))
 (.at (.done 1))
def qoh : qgK → DT (Rd qgK) := (fun v => qpn v.1 v.2.1 v.2.2.1 v.2.2.2)
def qBR (v : qgK) : Option (Nat × qgK) := qaF (qao (fun v => (qoh v).ev) v)
theorem qva (v : qgK) : qBR v = qao (fun v => (qoh v).ev) v := qaa _
def qJO : qb3 := LE (τ := qgK) (hD qJH) (qBR) qUy
theorem qUo : Go.Eng.Told IP (qae F45 0).1 (qae F45 0).2 (qJO) := qaw (inferInstance : Inhabited qgK) (hs := qJH) (st := qoh) (L := []) qzE (qad (l := []) (by kernel_rfl) trivial) (qva) (fun v => by kernel_rfl) (fun v => by kernel_rfl)
abbrev qOm : Type := Bool
def qQm : PArgs := ⟨[.view 6, .view 6, .fn (.func 46) []], []⟩
def qQs : List PRes := [⟨false, .bool, []⟩]
def qvZ (x0 x1 : List AV) : DT qOm :=
 .br ((x0.length : Int) != (x1.length : Int))
 (.at (false))
 (.bi (pj 0 (qBR (x1, x0, (x0.length : Int), 0))) (fun y0 =>
 .at (false))
 (.bi (pj 1 (qBR (x1, x0, (x0.length : Int), 0))) (fun y0 =>
 .at (true))
 (.no)))
def qxa (x0 x1 : List AV) : Option qOm := qaF (qvZ x0 x1).ev
theorem qF5 (x0 x1 : List AV) : qxa x0 x1 = (qvZ x0 x1).ev := qaa _
theorem qSI : FH IP 45 qQm qQs (k2 qxa) := qah (F := F45) (L := [(1004500, qJO)]) (t := (k2 qvZ)) qzE (qad (l := [qae F45 0]) (by kernel_rfl) ⟨qax (by kernel_rfl) qUo, trivial⟩) (by kernel_rfl) (fun v => by kernel_rfl) (fun _ => qaa _)
def T80 : Tab := (45, FE qQm qQs (k2 qxa)) :: T79
theorem qJe : qan IP T80 := ⟨qam qSI, qzE⟩
abbrev qIk : Type := Bool
def qKv : PArgs := ⟨[.agg [.str, .str, .str, .int .i64, .int .i64, .int .i64, .int .i64, .view 2, .bool, .int .i64, .int .i64, .bool, .view 2, .bool, .int .i64, .int .i64, .bool, .view 10, .view 6], .agg [.str, .str, .str, .int .i64, .int .i64, .int .i64, .int .i64, .view 2, .bool, .int .i64, .int .i64, .bool, .view 2, .bool, .int .i64, .int .i64, .bool, .view 10, .view 6]], []⟩
def qLk : List PRes := [⟨false, .bool, []⟩]
def qqd (x0 x1 x2 : List UInt8) (x3 x4 : Int) (x5 x6 : Int) (x7 : List AV) (x8 : Bool) (x9 x10 : Int) (x11 : Bool) (x12 : List AV) (x13 : Bool) (x14 x15 : Int) (x16 : Bool) (x17 x18 : List AV) (x19 x20 x21 : List UInt8) (x22 x23 : Int) (x24 x25 : Int) (x26 : List AV) (x27 : Bool) (x28 x29 : Int) (x30 : Bool) (x31 : List AV) (x32 : Bool) (x33 x34 : Int) (x35 : Bool) (x36 x37 : List AV) : DT qIk :=
 .bi (br (!x0 == x19) (some true) (some !x1 == x20)) (fun y0 =>
 .bi (br y0 (some true) (some !x2 == x21)) (fun y1 =>
 .bi (br y1 (some true) (some (x3 != x22))) (fun y2 =>
 .bi (br y2 (some true) (some (x4 != x23))) (fun y3 =>
 .bi (br y3 (some true) (some (x5 != x24))) (fun y4 =>
 .bi (br y4 (some true) (some (x6 != x25))) (fun y5 =>
 .br (y5)
 (.at (false))
 (.bi (qkv x7 x8 x9 x10 x11 x26 x27 x28 x29 x30) (fun y6 =>
 .bi (br (!y6) (some true) (br (sm (qkv x12 x13 x14 x15 x16 x31 x32 x33 x34 x35)) (some !gv (qkv x12 x13 x14 x15 x16 x31 x32 x33 x34 x35)) none)) (fun y7 =>
 .br (y7)
 (.at (false))
 (.bi (qAG x17 x36) (fun y8 =>
 .bi (br y8 (br (sm (qxa x18 x37)) (some (gv (qxa x18 x37))) none) (some false)) (fun y9 =>
 .at (y9))
 (.no))
 (.no)))
 (.no))
 (.no)))
 (.no))
 (.no))
 (.no))
 (.no))
 (.no))
 (.no)
def qgW (x0 x1 x2 : List UInt8) (x3 x4 : Int) (x5 x6 : Int) (x7 : List AV) (x8 : Bool) (x9 x10 : Int) (x11 : Bool) (x12 : List AV) (x13 : Bool) (x14 x15 : Int) (x16 : Bool) (x17 x18 : List AV) (x19 x20 x21 : List UInt8) (x22 x23 : Int) (x24 x25 : Int) (x26 : List AV) (x27 : Bool) (x28 x29 : Int) (x30 : Bool) (x31 : List AV) (x32 : Bool) (x33 x34 : Int) (x35 : Bool) (x36 x37 : List AV) : Option qIk := qaF (qqd x0 x1 x2 x3 x4 x5 x6 x7 x8 x9 x10 x11 x12 x13 x14 x15 x16 x17 x18 x19 x20 x21 x22 x23 x24 x25 x26 x27 x28 x29 x30 x31 x32 x33 x34 x35 x36 x37).ev
theorem qAT (x0 x1 x2 : List UInt8) (x3 x4 : Int) (x5 x6 : Int) (x7 : List AV) (x8 : Bool) (x9 x10 : Int) (x11 : Bool) (x12 : List AV) (x13 : Bool) (x14 x15 : Int) (x16 : Bool) (x17 x18 : List AV) (x19 x20 x21 : List UInt8) (x22 x23 : Int) (x24 x25 : Int) (x26 : List AV) (x27 : Bool) (x28 x29 : Int) (x30 : Bool) (x31 : List AV) (x32 : Bool) (x33 x34 : Int) (x35 : Bool) (x36 x37 : List AV) : qgW x0 x1 x2 x3 x4 x5 x6 x7 x8 x9 x10 x11 x12 x13 x14 x15 x16 x17 x18 x19 x20 x21 x22 x23 x24 x25 x26 x27 x28 x29 x30 x31 x32 x33 x34 x35 x36 x37 = (qqd x0 x1 x2 x3 x4 x5 x6 x7 x8 x9 x10 x11 x12 x13 x14 x15 x16 x17 x18 x19 x20 x21 x22 x23 x24 x25 x26 x27 x28 x29 x30 x31 x32 x33 x34 x35 x36 x37).ev := qaa _
theorem qPr : FH IP 20 qKv qLk (k38 qgW) := qah (F := F20) (L := []) (t := (k38 qqd)) qJe (qad (l := []) (by kernel_rfl) trivial) (by kernel_rfl) (fun v => by kernel_rfl) (fun _ => qaa _)
def T81 : Tab := (20, FE qKv qLk (k38 qgW)) :: T80
theorem qJf : qan IP T81 := ⟨qam qPr, qJe⟩
abbrev qyH : Type := Bool
def qDd : PArgs := ⟨[], []⟩
def qDZ : List PRes := [⟨false, .bool, []⟩]
def qja : DT qyH :=
 .bi (qki) (fun y0 =>
 .bi (qip) (fun y1 =>
 .bi (qgU y0.1 y0.2.1 y0.2.2.1 y0.2.2.2.1 y0.2.2.2.2.1 y0.2.2.2.2.2.1 y0.2.2.2.2.2.2.1
 y0.2.2.2.2.2.2.2.1 y0.2.2.2.2.2.2.2.2.1 y0.2.2.2.2.2.2.2.2.2.1 y0.2.2.2.2.2.2.2.2.2.2.1
 y0.2.2.2.2.2.2.2.2.2.2.2.1 y0.2.2.2.2.2.2.2.2.2.2.2.2.1 y0.2.2.2.2.2.2.2.2.2.2.2.2.2.1
 y0.2.2.2.2.2.2.2.2.2.2.2.2.2.2.1 y0.2.2.2.2.2.2.2.2.2.2.2.2.2.2.2.1
 y0.2.2.2.2.2.2.2.2.2.2.2.2.2.2.2.2.1 y0.2.2.2.2.2.2.2.2.2.2.2.2.2.2.2.2.2.1
 y0.2.2.2.2.2.2.2.2.2.2.2.2.2.2.2.2.2.2 [AV.agg [AV.str [69, 85, 82], AV.int IntKind.i64 2]]
 [AV.agg [AV.str [104, 111, 109, 101], AV.view 1 [], AV.view 1 []]]) (fun y2 =>
 .bi (br (y2 == 0)
 (br
 (sm
 (qgU y0.1 y0.2.1 y0.2.2.1 y0.2.2.2.1 2 y0.2.2.2.2.2.1 y0.2.2.2.2.2.2.1 y0.2.2.2.2.2.2.2.1
 y0.2.2.2.2.2.2.2.2.1 y0.2.2.2.2.2.2.2.2.2.1 y0.2.2.2.2.2.2.2.2.2.2.1
 y0.2.2.2.2.2.2.2.2.2.2.2.1 y0.2.2.2.2.2.2.2.2.2.2.2.2.1 y0.2.2.2.2.2.2.2.2.2.2.2.2.2.1
 y0.2.2.2.2.2.2.2.2.2.2.2.2.2.2.1 y0.2.2.2.2.2.2.2.2.2.2.2.2.2.2.2.1
 y0.2.2.2.2.2.2.2.2.2.2.2.2.2.2.2.2.1 y0.2.2.2.2.2.2.2.2.2.2.2.2.2.2.2.2.2.1
 y0.2.2.2.2.2.2.2.2.2.2.2.2.2.2.2.2.2.2 [AV.agg [AV.str [69, 85, 82], AV.int IntKind.i64 2]]
 [AV.agg [AV.str [104, 111, 109, 101], AV.view 1 [], AV.view 1 []]]))
 (some
 (gv
 (qgU y0.1 y0.2.1 y0.2.2.1 y0.2.2.2.1 2 y0.2.2.2.2.2.1 y0.2.2.2.2.2.2.1 y0.2.2.2.2.2.2.2.1
 y0.2.2.2.2.2.2.2.2.1 y0.2.2.2.2.2.2.2.2.2.1 y0.2.2.2.2.2.2.2.2.2.2.1
 y0.2.2.2.2.2.2.2.2.2.2.2.1 y0.2.2.2.2.2.2.2.2.2.2.2.2.1 y0.2.2.2.2.2.2.2.2.2.2.2.2.2.1
 y0.2.2.2.2.2.2.2.2.2.2.2.2.2.2.1 y0.2.2.2.2.2.2.2.2.2.2.2.2.2.2.2.1
 y0.2.2.2.2.2.2.2.2.2.2.2.2.2.2.2.2.1 y0.2.2.2.2.2.2.2.2.2.2.2.2.2.2.2.2.2.1
 y0.2.2.2.2.2.2.2.2.2.2.2.2.2.2.2.2.2.2 [AV.agg [AV.str [69, 85, 82], AV.int IntKind.i64 2]]
 [AV.agg [AV.str [104, 111, 109, 101], AV.view 1 [], AV.view 1 []]]) ==
 1))
 none)
 (some false)) (fun y3 =>
 .bi (br y3 (some ((y1.length : Int) == 7)) (some false)) (fun y4 =>
 .bi (br y4
 (br (qaS [CS.str, CS.int IntKind.i64] y1 6)
 (some
 (if false = true then
 !((List.brecOn.go (motive := fun x => List UInt8 → Bool) (strOf (cellAt y1 6 0)) List.beq._f).1 [100, 97, 121] &&
 (Decidable.rec (fun h => (fun x => false) h) (fun h => (fun x => true) h) ((intOf (cellAt y1 6 1)).instDecidableEq 4) && true))
 else
 (List.brecOn.go (motive := fun x => List UInt8 → Bool) (strOf (cellAt y1 6 0)) List.beq._f).1 [100, 97, 121] &&
 (Decidable.rec (fun h => (fun x => false) h) (fun h => (fun x => true) h) ((intOf (cellAt y1 6 1)).instDecidableEq 4) && true)))
 none)
 (some false)) (fun y5 =>
 .bi (br y5
 (br
 (sm
 (qnt y0.1 y0.2.1 y0.2.2.1 y0.2.2.2.1 y0.2.2.2.2.1 y0.2.2.2.2.2.1 y0.2.2.2.2.2.2.1
 y0.2.2.2.2.2.2.2.1 y0.2.2.2.2.2.2.2.2.1 y0.2.2.2.2.2.2.2.2.2.1 y0.2.2.2.2.2.2.2.2.2.2.1
 y0.2.2.2.2.2.2.2.2.2.2.2.1 y0.2.2.2.2.2.2.2.2.2.2.2.2.1 y0.2.2.2.2.2.2.2.2.2.2.2.2.2.1
 y0.2.2.2.2.2.2.2.2.2.2.2.2.2.2.1 y0.2.2.2.2.2.2.2.2.2.2.2.2.2.2.2.1
 y0.2.2.2.2.2.2.2.2.2.2.2.2.2.2.2.2.1 y0.2.2.2.2.2.2.2.2.2.2.2.2.2.2.2.2.2.1
 y0.2.2.2.2.2.2.2.2.2.2.2.2.2.2.2.2.2.2 1))
 (some
 (((gv
 (qnt y0.1 y0.2.1 y0.2.2.1 y0.2.2.2.1 y0.2.2.2.2.1 y0.2.2.2.2.2.1 y0.2.2.2.2.2.2.1
 y0.2.2.2.2.2.2.2.1 y0.2.2.2.2.2.2.2.2.1 y0.2.2.2.2.2.2.2.2.2.1
 y0.2.2.2.2.2.2.2.2.2.2.1 y0.2.2.2.2.2.2.2.2.2.2.2.1 y0.2.2.2.2.2.2.2.2.2.2.2.2.1
 y0.2.2.2.2.2.2.2.2.2.2.2.2.2.1 y0.2.2.2.2.2.2.2.2.2.2.2.2.2.2.1
 y0.2.2.2.2.2.2.2.2.2.2.2.2.2.2.2.1 y0.2.2.2.2.2.2.2.2.2.2.2.2.2.2.2.2.1
 y0.2.2.2.2.2.2.2.2.2.2.2.2.2.2.2.2.2.1 y0.2.2.2.2.2.2.2.2.2.2.2.2.2.2.2.2.2.2 1)).length :
 Int) ==
 1))
 none)
 (some false)) (fun y6 =>
 .bi (br y6
 (br
 (sm
 (qnv y0.1 y0.2.1 y0.2.2.1 y0.2.2.2.1 y0.2.2.2.2.1 y0.2.2.2.2.2.1 y0.2.2.2.2.2.2.1
 y0.2.2.2.2.2.2.2.1 y0.2.2.2.2.2.2.2.2.1 y0.2.2.2.2.2.2.2.2.2.1 y0.2.2.2.2.2.2.2.2.2.2.1
 y0.2.2.2.2.2.2.2.2.2.2.2.1 y0.2.2.2.2.2.2.2.2.2.2.2.2.1 y0.2.2.2.2.2.2.2.2.2.2.2.2.2.1
 y0.2.2.2.2.2.2.2.2.2.2.2.2.2.2.1 y0.2.2.2.2.2.2.2.2.2.2.2.2.2.2.2.1
 y0.2.2.2.2.2.2.2.2.2.2.2.2.2.2.2.2.1 y0.2.2.2.2.2.2.2.2.2.2.2.2.2.2.2.2.2.1
 y0.2.2.2.2.2.2.2.2.2.2.2.2.2.2.2.2.2.2 (-1)))
 (some
 ((gv
 (qnv y0.1 y0.2.1 y0.2.2.1 y0.2.2.2.1 y0.2.2.2.2.1 y0.2.2.2.2.2.1 y0.2.2.2.2.2.2.1
 y0.2.2.2.2.2.2.2.1 y0.2.2.2.2.2.2.2.2.1 y0.2.2.2.2.2.2.2.2.2.1
 y0.2.2.2.2.2.2.2.2.2.2.1 y0.2.2.2.2.2.2.2.2.2.2.2.1 y0.2.2.2.2.2.2.2.2.2.2.2.2.1
 y0.2.2.2.2.2.2.2.2.2.2.2.2.2.1 y0.2.2.2.2.2.2.2.2.2.2.2.2.2.2.1
 y0.2.2.2.2.2.2.2.2.2.2.2.2.2.2.2.1 y0.2.2.2.2.2.2.2.2.2.2.2.2.2.2.2.2.1
 y0.2.2.2.2.2.2.2.2.2.2.2.2.2.2.2.2.2.1 y0.2.2.2.2.2.2.2.2.2.2.2.2.2.2.2.2.2.2
 (-1))).2.2.1 ==
 2))
 none)
 (some false)) (fun y7 =>
 .bi (br y7
 (br
 (sm
 (qgW y0.1 y0.2.1 y0.2.2.1 y0.2.2.2.1 y0.2.2.2.2.1 y0.2.2.2.2.2.1 y0.2.2.2.2.2.2.1
 y0.2.2.2.2.2.2.2.1 y0.2.2.2.2.2.2.2.2.1 y0.2.2.2.2.2.2.2.2.2.1 y0.2.2.2.2.2.2.2.2.2.2.1
 y0.2.2.2.2.2.2.2.2.2.2.2.1 y0.2.2.2.2.2.2.2.2.2.2.2.2.1 y0.2.2.2.2.2.2.2.2.2.2.2.2.2.1
 y0.2.2.2.2.2.2.2.2.2.2.2.2.2.2.1 y0.2.2.2.2.2.2.2.2.2.2.2.2.2.2.2.1
 y0.2.2.2.2.2.2.2.2.2.2.2.2.2.2.2.2.1 y0.2.2.2.2.2.2.2.2.2.2.2.2.2.2.2.2.2.1
 y0.2.2.2.2.2.2.2.2.2.2.2.2.2.2.2.2.2.2 y0.1 y0.2.1 y0.2.2.1 y0.2.2.2.1 y0.2.2.2.2.1
 y0.2.2.2.2.2.1 y0.2.2.2.2.2.2.1 y0.2.2.2.2.2.2.2.1 y0.2.2.2.2.2.2.2.2.1
 y0.2.2.2.2.2.2.2.2.2.1 y0.2.2.2.2.2.2.2.2.2.2.1 y0.2.2.2.2.2.2.2.2.2.2.2.1
 y0.2.2.2.2.2.2.2.2.2.2.2.2.1 y0.2.2.2.2.2.2.2.2.2.2.2.2.2.1
 y0.2.2.2.2.2.2.2.2.2.2.2.2.2.2.1 y0.2.2.2.2.2.2.2.2.2.2.2.2.2.2.2.1
 y0.2.2.2.2.2.2.2.2.2.2.2.2.2.2.2.2.1 y0.2.2.2.2.2.2.2.2.2.2.2.2.2.2.2.2.2.1
 y0.2.2.2.2.2.2.2.2.2.2.2.2.2.2.2.2.2.2))
 (some
 (gv
 (qgW y0.1 y0.2.1 y0.2.2.1 y0.2.2.2.1 y0.2.2.2.2.1 y0.2.2.2.2.2.1 y0.2.2.2.2.2.2.1
 y0.2.2.2.2.2.2.2.1 y0.2.2.2.2.2.2.2.2.1 y0.2.2.2.2.2.2.2.2.2.1 y0.2.2.2.2.2.2.2.2.2.2.1
 y0.2.2.2.2.2.2.2.2.2.2.2.1 y0.2.2.2.2.2.2.2.2.2.2.2.2.1 y0.2.2.2.2.2.2.2.2.2.2.2.2.2.1
 y0.2.2.2.2.2.2.2.2.2.2.2.2.2.2.1 y0.2.2.2.2.2.2.2.2.2.2.2.2.2.2.2.1
 y0.2.2.2.2.2.2.2.2.2.2.2.2.2.2.2.2.1 y0.2.2.2.2.2.2.2.2.2.2.2.2.2.2.2.2.2.1
 y0.2.2.2.2.2.2.2.2.2.2.2.2.2.2.2.2.2.2 y0.1 y0.2.1 y0.2.2.1 y0.2.2.2.1 y0.2.2.2.2.1
 y0.2.2.2.2.2.1 y0.2.2.2.2.2.2.1 y0.2.2.2.2.2.2.2.1 y0.2.2.2.2.2.2.2.2.1
 y0.2.2.2.2.2.2.2.2.2.1 y0.2.2.2.2.2.2.2.2.2.2.1 y0.2.2.2.2.2.2.2.2.2.2.2.1
 y0.2.2.2.2.2.2.2.2.2.2.2.2.1 y0.2.2.2.2.2.2.2.2.2.2.2.2.2.1
 y0.2.2.2.2.2.2.2.2.2.2.2.2.2.2.1 y0.2.2.2.2.2.2.2.2.2.2.2.2.2.2.2.1
 y0.2.2.2.2.2.2.2.2.2.2.2.2.2.2.2.2.1 y0.2.2.2.2.2.2.2.2.2.2.2.2.2.2.2.2.2.1
 y0.2.2.2.2.2.2.2.2.2.2.2.2.2.2.2.2.2.2)))
 none)
 (some false)) (fun y8 =>
 .bi (br y8
 (br
 (sm
 (qgW y0.1 y0.2.1 y0.2.2.1 y0.2.2.2.1 y0.2.2.2.2.1 y0.2.2.2.2.2.1 y0.2.2.2.2.2.2.1
 y0.2.2.2.2.2.2.2.1 y0.2.2.2.2.2.2.2.2.1 y0.2.2.2.2.2.2.2.2.2.1 y0.2.2.2.2.2.2.2.2.2.2.1
 y0.2.2.2.2.2.2.2.2.2.2.2.1 y0.2.2.2.2.2.2.2.2.2.2.2.2.1 y0.2.2.2.2.2.2.2.2.2.2.2.2.2.1
 y0.2.2.2.2.2.2.2.2.2.2.2.2.2.2.1 y0.2.2.2.2.2.2.2.2.2.2.2.2.2.2.2.1
 y0.2.2.2.2.2.2.2.2.2.2.2.2.2.2.2.2.1 y0.2.2.2.2.2.2.2.2.2.2.2.2.2.2.2.2.2.1
 y0.2.2.2.2.2.2.2.2.2.2.2.2.2.2.2.2.2.2 y0.1 y0.2.1 y0.2.2.1 y0.2.2.2.1 2 y0.2.2.2.2.2.1
 y0.2.2.2.2.2.2.1 y0.2.2.2.2.2.2.2.1 y0.2.2.2.2.2.2.2.2.1 y0.2.2.2.2.2.2.2.2.2.1
 y0.2.2.2.2.2.2.2.2.2.2.1 y0.2.2.2.2.2.2.2.2.2.2.2.1 y0.2.2.2.2.2.2.2.2.2.2.2.2.1
 y0.2.2.2.2.2.2.2.2.2.2.2.2.2.1 y0.2.2.2.2.2.2.2.2.2.2.2.2.2.2.1
 y0.2.2.2.2.2.2.2.2.2.2.2.2.2.2.2.1 y0.2.2.2.2.2.2.2.2.2.2.2.2.2.2.2.2.1
 y0.2.2.2.2.2.2.2.2.2.2.2.2.2.2.2.2.2.1 y0.2.2.2.2.2.2.2.2.2.2.2.2.2.2.2.2.2.2))
 (some
 !gv
 (qgW y0.1 y0.2.1 y0.2.2.1 y0.2.2.2.1 y0.2.2.2.2.1 y0.2.2.2.2.2.1 y0.2.2.2.2.2.2.1
 y0.2.2.2.2.2.2.2.1 y0.2.2.2.2.2.2.2.2.1 y0.2.2.2.2.2.2.2.2.2.1 y0.2.2.2.2.2.2.2.2.2.2.1
 y0.2.2.2.2.2.2.2.2.2.2.2.1 y0.2.2.2.2.2.2.2.2.2.2.2.2.1 y0.2.2.2.2.2.2.2.2.2.2.2.2.2.1
 y0.2.2.2.2.2.2.2.2.2.2.2.2.2.2.1 y0.2.2.2.2.2.2.2.2.2.2.2.2.2.2.2.1
 y0.2.2.2.2.2.2.2.2.2.2.2.2.2.2.2.2.1 y0.2.2.2.2.2.2.2.2.2.2.2.2.2.2.2.2.2.1
 y0.2.2.2.2.2.2.2.2.2.2.2.2.2.2.2.2.2.2 y0.1 y0.2.1 y0.2.2.1 y0.2.2.2.1 2 y0.2.2.2.2.2.1
 y0.2.2.2.2.2.2.1 y0.2.2.2.2.2.2.2.1 y0.2.2.2.2.2.2.2.2.1 y0.2.2.2.2.2.2.2.2.2.1
 y0.2.2.2.2.2.2.2.2.2.2.1 y0.2.2.2.2.2.2.2.2.2.2.2.1 y0.2.2.2.2.2.2.2.2.2.2.2.2.1
 y0.2.2.2.2.2.2.2.2.2.2.2.2.2.1 y0.2.2.2.2.2.2.2.2.2.2.2.2.2.2.1
 y0.2.2.2.2.2.2.2.2.2.2.2.2.2.2.2.1 y0.2.2.2.2.2.2.2.2.2.2.2.2.2.2.2.2.1
 y0.2.2.2.2.2.2.2.2.2.2.2.2.2.2.2.2.2.1 y0.2.2.2.2.2.2.2.2.2.2.2.2.2.2.2.2.2.2))
 none)
 (some false)) (fun y9 =>
 .at (y9))
 (.no))
 (.no))
 (.no))
 (.no))
 (.no))
 (.no))
 (.no))
 (.no))
 (.no))
 (.no)
def qhz : Option qyH := qaF (qja).ev
theorem qwI : qhz = (qja).ev := qaa _
theorem qMe : FH IP 10 qDd qDZ (fun _ => qhz) := qah (F := F10) (L := []) (t := (fun _ => qja)) qJf (qad (l := []) (by kernel_rfl) trivial) (by kernel_rfl) (fun v => by kernel_rfl) (fun _ => qaa _)
def T82 : Tab := (10, FE qDd qDZ (fun _ => qhz)) :: T81
theorem qzF : qan IP T82 := ⟨qam qMe, qJf⟩
abbrev qcP : Type := List UInt8 × Int
def qu2 : List PSt := [⟨[(1003100, .junk), (0, .str), (3, .int .i64)], [], 0, 0⟩]
def qFd (x0 : List UInt8) (x1 : Int) : X × St := (X.ret, ⟨[(2, AV.bool false)], [], 0, 0⟩)
def qFe (x0 : List UInt8) (x1 : Int) : X × St := (X.exit 0, ⟨[(2, AV.junk)], [], 0, 0⟩)
def qNN : List (qcP → X × St) := [(k2 qFd), (k2 qFe)]
def qh4 (x0 : List UInt8) (x1 : Int) : DT (Rd qcP) :=
 .br (decide (x1 < (x0.length : Int)))
 (.br (inB x0.length x1)
 (.bi (br (decide (qaC x0 x1 < 97)) (some true) (br (inB x0.length x1) (some (decide (qaC x0 x1 > 122))) none)) (fun y0 =>
 .bi (br y0 (br (inB x0.length x1) (br (decide (qaC x0 x1 < 48)) (some true) (br (inB x0.length x1) (some (decide (qaC x0 x1 > 57))) none)) none) (some false)) (fun y1 =>
 .bi (br y1 (br (inB x0.length x1) (some (qaC x0 x1 != 95)) none) (some false)) (fun y2 =>
 .br (y2) (.at (.done 0)) (.at (.next ((x0, IntKind.i64.wrap (x1 + 1))))))
 (.no))
 (.no))
 (.no))
 (.no))
 (.at (.done 1))
def qfC : qcP → DT (Rd qcP) := (fun v => qh4 v.1 v.2)
def qkY (v : qcP) : Option (Nat × qcP) := qaF (qao (fun v => (qfC v).ev) v)
theorem qnU (v : qcP) : qkY v = qao (fun v => (qfC v).ev) v := qaa _
def qvy : qb3 := LE (τ := qcP) (hD qu2) (qkY) qNN
theorem qNt : Go.Eng.Told IP (qae F31 0).1 (qae F31 0).2 (qvy) := qaw (inferInstance : Inhabited qcP) (hs := qu2) (st := qfC) (L := []) qzF (qad (l := []) (by kernel_rfl) trivial) (qnU) (fun v => by kernel_rfl) (fun v => by kernel_rfl)
abbrev qyX : Type := Bool
def qDs : PArgs := ⟨[.str], []⟩
def qEe : List PRes := [⟨false, .bool, []⟩]
def qjr (x0 : List UInt8) : DT qyX :=
 .bi (br (x0 == []) (some true) (some (decide ((x0.length : Int) > 16)))) (fun y0 =>
 .bi (br y0 (some true) (br (inB x0.length 0) (some (decide (qaC x0 0 < 97))) none)) (fun y1 =>
 .bi (br y1 (some true) (br (inB x0.length 0) (some (decide (qaC x0 0 > 122))) none)) (fun y2 =>
 .br (y2)
 (.at (false))
 (.bi (pj 0 (qkY (x0, 1))) (fun y3 =>
 .at (false))
 (.bi (pj 1 (qkY (x0, 1))) (fun y3 =>
 .at (true))
 (.no))))
 (.no))
 (.no))
 (.no)
def qgj (x0 : List UInt8) : Option qyX := qaF (qjr x0).ev
theorem qwX (x0 : List UInt8) : qgj x0 = (qjr x0).ev := qaa _
theorem qMA : FH IP 31 qDs qEe qgj := qah (F := F31) (L := [(1003100, qvy)]) (t := qjr) qzF (qad (l := [qae F31 0]) (by kernel_rfl) ⟨qax (by kernel_rfl) qNt, trivial⟩) (by kernel_rfl) (fun v => by kernel_rfl) (fun _ => qaa _)
def T83 : Tab := (31, FE qDs qEe qgj) :: T82
theorem qzG : qan IP T83 := ⟨qam qMA, qzF⟩
abbrev qcL : Type := List AV × List UInt8 × Int × List UInt8 × Int
def quY : List PSt := [⟨[(1003200, .junk), (0, .view 2), (1, .str), (4, .ref 0 0 0), (6, .int .i64)], [(0, .box [.str, .int .i64] false)], 1, 0⟩]
def qE5 (x0 : List AV) (x1 : List UInt8) (x2 : Int) (x3 : List UInt8) (x4 : Int) : X × St := (X.ret,
 ⟨[(4, AV.ref 0 0 0), (5, AV.bool true)], [(0, Blk.box [AV.str (strOf (cellAt x0 x2 0)), AV.int IntKind.i64 (intOf (cellAt x0 x2 1))] false)], 1, 0⟩)
def qE6 (x0 : List AV) (x1 : List UInt8) (x2 : Int) (x3 : List UInt8) (x4 : Int) : X × St := (X.exit 0, ⟨[(4, AV.ref 0 0 0), (5, AV.junk)], [(0, Blk.box [AV.str x3, AV.int IntKind.i64 x4] false)], 1, 0⟩)
def qNJ : List (qcL → X × St) := [(k5 qE5), (k5 qE6)]
def qh0 (x0 : List AV) (x1 : List UInt8) (x2 : Int) (x3 : List UInt8) (x4 : Int) : DT (Rd qcL) :=
 .br (decide (x2 < (x0.length : Int)))
 (.br (qaS [CS.str, CS.int IntKind.i64] x0 x2)
 (.br (strOf (cellAt x0 x2 0) == x1)
 (.br (qaS [CS.str, CS.int IntKind.i64] x0 x2) (.at (.done 0)) (.no))
 (.at (.next ((x0, x1, IntKind.i64.wrap (x2 + 1), x3, x4)))))
 (.no))
 (.at (.done 1))
def qhb : qcL → DT (Rd qcL) := (fun v => qh0 v.1 v.2.1 v.2.2.1 v.2.2.2.1 v.2.2.2.2)
def qkU (v : qcL) : Option (Nat × qcL) := qaF (qao (fun v => (qhb v).ev) v)
theorem qnQ (v : qcL) : qkU v = qao (fun v => (qhb v).ev) v := qaa _
def qvu : qb3 := LE (τ := qcL) (hD quY) (qkU) qNJ
theorem qNp : Go.Eng.Told IP (qae F32 0).1 (qae F32 0).2 (qvu) := qaw (inferInstance : Inhabited qcL) (hs := quY) (st := qhb) (L := []) qzG (qad (l := []) (by kernel_rfl) trivial) (qnQ) (fun v => by kernel_rfl) (fun v => by kernel_rfl)
abbrev qyR : Type := List UInt8 × Int × Bool
def qDm : PArgs := ⟨[.view 2, .str], []⟩
def qD8 : List PRes := [⟨false, .tup [.agg [.str, .int .i64], .bool], []⟩]
def qjl (x0 : List AV) (x1 : List UInt8) : DT qyR :=
 .bi (pj 0 (qkU (x0, x1, 0, [], 0))) (fun y0 =>
 .at ((strOf (cellAt y0.1 y0.2.2.1 0), intOf (cellAt y0.1 y0.2.2.1 1), true)))
 (.bi (pj 1 (qkU (x0, x1, 0, [], 0))) (fun y0 =>
 .at (([], 0, false)))
 (.no))
def qkk (x0 : List AV) (x1 : List UInt8) : Option qyR := qaF (qjl x0 x1).ev
theorem qwR (x0 : List AV) (x1 : List UInt8) : qkk x0 x1 = (qjl x0 x1).ev := qaa _
theorem qMu : FH IP 32 qDm qD8 (k2 qkk) := qah (F := F32) (L := [(1003200, qvu)]) (t := (k2 qjl)) qzG (qad (l := [qae F32 0]) (by kernel_rfl) ⟨qax (by kernel_rfl) qNp, trivial⟩) (by kernel_rfl) (fun v => by kernel_rfl) (fun _ => qaa _)
def T84 : Tab := (32, FE qDm qD8 (k2 qkk)) :: T83
theorem qzH : qan IP T84 := ⟨qam qMu, qzG⟩
abbrev qcM : Type := List AV × List UInt8 × Int × List UInt8
def quZ : List PSt := [⟨[(1003300, .junk), (0, .view 3), (1, .str), (4, .ref 0 0 0), (6, .int .i64)], [(0, .box [.str, .nils 1, .nils 1] false)], 1, 0⟩]
def qE7 (x0 : List AV) (x1 : List UInt8) (x2 : Int) (x3 : List UInt8) : X × St := (X.ret,
 ⟨[(4, AV.ref 0 0 0), (5, AV.bool true)], [(0, Blk.box [AV.str (strOf (cellAt x0 x2 0)), AV.view 1 (qal (cellAt x0 x2 1)), AV.view 1 (qal (cellAt x0 x2 2))] false)], 1, 0⟩)
def qE8 (x0 : List AV) (x1 : List UInt8) (x2 : Int) (x3 : List UInt8) : X × St := (X.exit 0,
 ⟨[(4, AV.ref 0 0 0), (5, AV.junk)], [(0, Blk.box [AV.str x3, AV.nils ⟨1, NKd.nil⟩, AV.nils ⟨1, NKd.nil⟩] false)], 1, 0⟩)
def qNK : List (qcM → X × St) := [(k4 qE7), (k4 qE8)]
def qh1 (x0 : List AV) (x1 : List UInt8) (x2 : Int) (x3 : List UInt8) : DT (Rd qcM) :=
 .br (decide (x2 < (x0.length : Int)))
 (.br (qaS [CS.str, CS.slice 1, CS.slice 1] x0 x2)
 (.br (strOf (cellAt x0 x2 0) == x1)
 (.br (qaS [CS.str, CS.slice 1, CS.slice 1] x0 x2) (.at (.done 0)) (.no))
 (.at (.next ((x0, x1, IntKind.i64.wrap (x2 + 1), x3)))))
 (.no))
 (.at (.done 1))
def qhc : qcM → DT (Rd qcM) := (fun v => qh1 v.1 v.2.1 v.2.2.1 v.2.2.2)
def qkV (v : qcM) : Option (Nat × qcM) := qaF (qao (fun v => (qhc v).ev) v)
theorem qnR (v : qcM) : qkV v = qao (fun v => (qhc v).ev) v := qaa _
def qvv : qb3 := LE (τ := qcM) (hD quZ) (qkV) qNK
theorem qNq : Go.Eng.Told IP (qae F33 0).1 (qae F33 0).2 (qvv) := qaw (inferInstance : Inhabited qcM) (hs := quZ) (st := qhc) (L := []) qzH (qad (l := []) (by kernel_rfl) trivial) (qnR) (fun v => by kernel_rfl) (fun v => by kernel_rfl)
abbrev qyS : Type := List UInt8 × List AV × List AV × Bool
def qDn : PArgs := ⟨[.view 3, .str], []⟩
def qD9 : List PRes := [⟨false, .tup [.agg [.str, .view 1, .view 1], .bool], []⟩]
def qjm (x0 : List AV) (x1 : List UInt8) : DT qyS :=
 .bi (pj 0 (qkV (x0, x1, 0, []))) (fun y0 =>
 .at ((strOf (cellAt y0.1 y0.2.2.1 0), qal (cellAt y0.1 y0.2.2.1 1), qal (cellAt y0.1 y0.2.2.1 2), true)))
 (.bi (pj 1 (qkV (x0, x1, 0, []))) (fun y0 =>
 .at (([], [], [], false)))
 (.no))
def qkl (x0 : List AV) (x1 : List UInt8) : Option qyS := qaF (qjm x0 x1).ev
theorem qwS (x0 : List AV) (x1 : List UInt8) : qkl x0 x1 = (qjm x0 x1).ev := qaa _
theorem qMv : FH IP 33 qDn qD9 (k2 qkl) := qah (F := F33) (L := [(1003300, qvv)]) (t := (k2 qjm)) qzH (qad (l := [qae F33 0]) (by kernel_rfl) ⟨qax (by kernel_rfl) qNq, trivial⟩) (by kernel_rfl) (fun v => by kernel_rfl) (fun _ => qaa _)
def T85 : Tab := (33, FE qDn qD9 (k2 qkl)) :: T84
theorem qJg : qan IP T85 := ⟨qam qMv, qzH⟩
abbrev qyI : Type := Bool
def qDe : PArgs := ⟨[.int .i64], []⟩
def qD0 : List PRes := [⟨false, .bool, []⟩]
def qjb (x0 : Int) : DT qyI :=
 .bi (br (decide (x0 ≥ 0)) (some (decide (x0 ≤ 73048))) (some false)) (fun y0 =>
 .at (y0))
 (.no)
def qkb (x0 : Int) : Option qyI := qaF (qjb x0).ev
theorem qwJ (x0 : Int) : qkb x0 = (qjb x0).ev := qaa _
theorem qMf : FH IP 34 qDe qD0 qkb := qah (F := F34) (L := []) (t := qjb) qJg (qad (l := []) (by kernel_rfl) trivial) (by kernel_rfl) (fun v => by kernel_rfl) (fun _ => qaa _)
def T86 : Tab := (34, FE qDe qD0 qkb) :: T85
theorem quD : qan IP T86 := ⟨qam qMf, qJg⟩
abbrev qcH : Type := List AV × Int
def quS : List PSt := [⟨[(1005600, .junk), (0, .view 2), (3, .int .i64)], [], 0, 0⟩]
def qER (x0 : List AV) (x1 : Int) : X × St := (X.ret, ⟨[(0, AV.view 2 x0), (2, AV.int IntKind.i64 1)], [], 0, 0⟩)
def qES (x0 : List AV) (x1 : Int) : X × St := (X.exit 0, ⟨[(0, AV.view 2 x0), (2, AV.junk)], [], 0, 0⟩)
def qND : List (qcH → X × St) := [(k2 qER), (k2 qES)]
def qhV (x0 : List AV) (x1 : Int) : DT (Rd qcH) :=
 .br (decide (x1 < (x0.length : Int)))
 (.br (qaS [CS.int IntKind.i64, CS.int IntKind.i64] x0 x1)
 (.bi (br (decide (intOf (cellAt x0 x1 0) < 0)) (some true) (br (qaS [CS.int IntKind.i64, CS.int IntKind.i64] x0 x1) (some (decide (intOf (cellAt x0 x1 0) > 1000000000000))) none)) (fun y0 =>
 .bi (br y0 (some true) (br (qaS [CS.int IntKind.i64, CS.int IntKind.i64] x0 x1) (some (decide (intOf (cellAt x0 x1 1) < 0))) none)) (fun y1 =>
 .bi (br y1 (some true) (br (qaS [CS.int IntKind.i64, CS.int IntKind.i64] x0 x1) (some (decide (intOf (cellAt x0 x1 1) > 1000000))) none)) (fun y2 =>
 .br (y2) (.at (.done 0)) (.at (.next ((x0, IntKind.i64.wrap (x1 + 1))))))
 (.no))
 (.no))
 (.no))
 (.no))
 (.at (.done 1))
def qfv : qcH → DT (Rd qcH) := (fun v => qhV v.1 v.2)
def qkP (v : qcH) : Option (Nat × qcH) := qaF (qao (fun v => (qfv v).ev) v)
theorem qnL (v : qcH) : qkP v = qao (fun v => (qfv v).ev) v := qaa _
def qvo : qb3 := LE (τ := qcH) (hD quS) (qkP) qND
theorem qNj : Go.Eng.Told IP (qae F56 0).1 (qae F56 0).2 (qvo) := qaw (inferInstance : Inhabited qcH) (hs := quS) (st := qfv) (L := []) quD (qad (l := []) (by kernel_rfl) trivial) (qnL) (fun v => by kernel_rfl) (fun v => by kernel_rfl)
abbrev qcI : Type := List AV × Int
def quT : List PSt := [⟨[(1005601, .junk), (0, .view 2), (4, .int .i64)], [], 0, 0⟩]
def qET (x0 : List AV) (x1 : Int) : X × St := (X.ret, ⟨[(0, AV.view 2 x0), (2, AV.int IntKind.i64 10)], [], 0, 0⟩)
def qEU (x0 : List AV) (x1 : Int) : X × St := (X.exit 2, ⟨[(0, AV.view 2 x0), (2, AV.junk)], [], 0, 0⟩)
def qNE : List (qcI → X × St) := [(k2 qET), (k2 qEU)]
def qhW (x0 : List AV) (x1 : Int) : DT (Rd qcI) :=
 .br (decide (x1 < (x0.length : Int)))
 (.br (qaS [CS.int IntKind.i64, CS.int IntKind.i64] x0 x1)
 (.br (qaS [CS.int IntKind.i64, CS.int IntKind.i64] x0 (IntKind.i64.wrap (x1 - 1)))
 (.br (decide (intOf (cellAt x0 x1 0) ≤ intOf (cellAt x0 (IntKind.i64.wrap (x1 - 1)) 0))) (.at (.done 0)) (.at (.next ((x0, IntKind.i64.wrap (x1 + 1))))))
 (.no))
 (.no))
 (.at (.done 1))
def qfw : qcI → DT (Rd qcI) := (fun v => qhW v.1 v.2)
def qkQ (v : qcI) : Option (Nat × qcI) := qaF (qao (fun v => (qfw v).ev) v)
theorem qnM (v : qcI) : qkQ v = qao (fun v => (qfw v).ev) v := qaa _
def qvp : qb3 := LE (τ := qcI) (hD quT) (qkQ) qNE
theorem qNk : Go.Eng.Told IP (qae F56 1).1 (qae F56 1).2 (qvp) := qaw (inferInstance : Inhabited qcI) (hs := quT) (st := qfw) (L := []) quD (qad (l := []) (by kernel_rfl) trivial) (qnM) (fun v => by kernel_rfl) (fun v => by kernel_rfl)
abbrev qyN : Type := Int
def qDi : PArgs := ⟨[.view 2], []⟩
def qD4 : List PRes := [⟨false, .int .i64, []⟩]
def qjf (x0 : List AV) : DT qyN :=
 .br (decide ((x0.length : Int) > 6))
 (.at (5))
 (.bi (pj 0 (qkP (x0, 0))) (fun y0 =>
 .at (1))
 (.bi (pj 1 (qkP (x0, 0))) (fun y0 =>
 .bi (pj 0 (qkQ (y0.1, 1))) (fun y1 =>
 .at (10))
 (.bi (pj 1 (qkQ (y0.1, 1))) (fun y1 =>
 .bi (br (decide ((y1.1.length : Int) > 0)) (br (qaS [CS.int IntKind.i64, CS.int IntKind.i64] y1.1 0) (some (intOf (cellAt y1.1 0 0) != 0)) none) (some false)) (fun y2 =>
 .br (y2) (.at (1)) (.at (0)))
 (.no))
 (.no)))
 (.no)))
def qkf (x0 : List AV) : Option qyN := qaF (qjf x0).ev
theorem qwN (x0 : List AV) : qkf x0 = (qjf x0).ev := qaa _
theorem qMn : FH IP 56 qDi qD4 qkf := qah (F := F56) (L := [(1005600, qvo), (1005601, qvp)]) (t := qjf) quD (qad (l := [qae F56 0, qae F56 1]) (by kernel_rfl) ⟨qax (by kernel_rfl) qNj, qax (by kernel_rfl) qNk, trivial⟩) (by kernel_rfl) (fun v => by kernel_rfl) (fun _ => qaa _)
def T87 : Tab := (56, FE qDi qD4 qkf) :: T86
theorem qJh : qan IP T87 := ⟨qam qMn, quD⟩
abbrev qIi : Type := Int
def qKt : PArgs := ⟨[.agg [.view 2, .bool, .int .i64, .int .i64, .bool]], []⟩
def qLi : List PRes := [⟨false, .int .i64, []⟩]
def qqb (x0 : List AV) (x1 : Bool) (x2 x3 : Int) (x4 : Bool) : DT qIi :=
 .bi (qkf x0) (fun y0 =>
 .br (y0 != 0)
 (.at (y0))
 (.bi (br (decide (x2 < 1)) (some true) (some (decide (x2 > 4)))) (fun y1 =>
 .bi (br y1 (some true) (some (decide (x3 < 1)))) (fun y2 =>
 .bi (br y2 (some true) (some (decide (x3 > 6)))) (fun y3 =>
 .br (y3) (.at (1)) (.at (0)))
 (.no))
 (.no))
 (.no)))
 (.no)
def qnr (x0 : List AV) (x1 : Bool) (x2 x3 : Int) (x4 : Bool) : Option qIi := qaF (qqb x0 x1 x2 x3 x4).ev
theorem qAR (x0 : List AV) (x1 : Bool) (x2 x3 : Int) (x4 : Bool) : qnr x0 x1 x2 x3 x4 = (qqb x0 x1 x2 x3 x4).ev := qaa _
theorem qPo : FH IP 35 qKt qLi (k5 qnr) := qah (F := F35) (L := []) (t := (k5 qqb)) qJh (qad (l := []) (by kernel_rfl) trivial) (by kernel_rfl) (fun v => by kernel_rfl) (fun _ => qaa _)
def T88 : Tab := (35, FE qKt qLi (k5 qnr)) :: T87
theorem qJi : qan IP T88 := ⟨qam qPo, qJh⟩
abbrev qyY : Type := List AV
def qDt : PArgs := ⟨[], []⟩
def qEf : List PRes := [⟨false, .view 2, []⟩]
def qjs : DT qyY :=
 .at ([AV.agg [AV.str [98, 97, 108, 97, 110, 99, 101], AV.int IntKind.i64 2], AV.agg [AV.str [108, 111, 119, 101, 115, 116], AV.int IntKind.i64 2],
 AV.agg [AV.str [118, 111, 108, 117, 109, 101], AV.int IntKind.i64 2], AV.agg [AV.str [97, 109, 111, 117, 110, 116], AV.int IntKind.i64 2],
 AV.agg [AV.str [99, 111, 117, 110, 116], AV.int IntKind.i64 1], AV.agg [AV.str [97, 103, 101], AV.int IntKind.i64 1], AV.agg [AV.str [100, 97, 121], AV.int IntKind.i64 4]])
def qgl : Option qyY := qaF (qjs).ev
theorem qwY : qgl = (qjs).ev := qaa _
theorem qMB : FH IP 9 qDt qEf (fun _ => qgl) := qah (F := F9) (L := []) (t := (fun _ => qjs)) qJi (qad (l := []) (by kernel_rfl) trivial) (by kernel_rfl) (fun v => by kernel_rfl) (fun _ => qaa _)
def T89 : Tab := (9, FE qDt qEf (fun _ => qgl)) :: T88
theorem qJj : qan IP T89 := ⟨qam qMB, qJi⟩
abbrev qsV : Type := Int
def qlo : PArgs := ⟨[.agg [.int .i64, .int .i64, .str, .view 4], .int .i64], []⟩
def qlC : List PRes := [⟨false, .int .i64, []⟩]
abbrev qbT : Type := Int → Int → (List UInt8) → (List AV) → Int → Option qsV
def qow (G_u143q : qbT) : Prop := FH IP 122 qlo qlC (k5 G_u143q)
def qFH (G_u143q : qbT) : Tab := (122, FE qlo qlC (k5 G_u143q)) :: T89
theorem qjD (G_u143q : qbT) (hG : qow G_u143q) : qan IP (qFH G_u143q) := ⟨qam (hG), qJj⟩
abbrev qek : Type := Int × Int × Int × Int × Int × List UInt8 × List AV
def qBM : List PSt := [⟨[(1012200, .junk), (1, .int .i64), (2, .ref 0 0 0), (5, .int .i64), (6, .int .i64)], [(0, .box [.int .i64, .int .i64, .str, .view 4] false)], 1, 0⟩]
def qHH (x0 x1 : Int) (x2 x3 x4 : Int) (x5 : List UInt8) (x6 : List AV) : X × St := (X.exit 0, ⟨[(5, AV.int IntKind.i64 x1)], [], 0, 0⟩)
def qRG : List (qek → X × St) := [(k7 qHH)]
def qhj (G_u143q : qbT) (x0 x1 : Int) (x2 x3 x4 : Int) (x5 : List UInt8) (x6 : List AV) : DT (Rd qek) :=
 .bi (br (decide (x2 < (x6.length : Int))) (some (decide (x1 ≤ x0))) (some false)) (fun y0 =>
 .br (y0)
 (.br (qaS [CS.int IntKind.i64, CS.int IntKind.i64, CS.str, CS.slice 4] x6 x2)
 (.bi (G_u143q (intOf (cellAt x6 x2 0)) (intOf (cellAt x6 x2 1)) (strOf (cellAt x6 x2 2)) (qal (cellAt x6 x2 3)) (IntKind.i64.wrap (x0 - x1))) (fun y1 =>
 .at (.next ((x0, IntKind.i64.wrap (x1 + y1), IntKind.i64.wrap (x2 + 1), x3, x4, x5, x6))))
 (.no))
 (.no))
 (.at (.done 0)))
 (.no)
def qgB (G_u143q : qbT) : qek → DT (Rd qek) := (fun v => qhj G_u143q v.1 v.2.1 v.2.2.1 v.2.2.2.1 v.2.2.2.2.1 v.2.2.2.2.2.1 v.2.2.2.2.2.2)
def qrT (G_u143q : qbT) (v : qek) : Option (Nat × qek) := qaF (qao (fun v => (qgB G_u143q v).ev) v)
theorem qg3 (G_u143q : qbT) (v : qek) : qrT G_u143q v = qao (fun v => (qgB G_u143q v).ev) v := qaa _
def qCu (G_u143q : qbT) : qb3 := LE (τ := qek) (hD qBM) (qrT G_u143q) qRG
theorem qQ6 (G_u143q : qbT) (hG : qow G_u143q) : Go.Eng.Told IP (qae qNY 0).1 (qae qNY 0).2 (qCu G_u143q) := qaw (inferInstance : Inhabited qek) (hs := qBM) (st := qgB G_u143q) (L := []) (qjD G_u143q hG) (qad (l := []) (by kernel_rfl) trivial) (qg3 G_u143q) (fun v => by kernel_rfl) (fun v => by kernel_rfl)
def qpA (G_u143q : qbT) (x0 x1 : Int) (x2 : List UInt8) (x3 : List AV) (x4 : Int) : DT qsV :=
 .bi (pj 0 (qrT G_u143q (x4, 1, 0, x0, x1, x2, x3))) (fun y0 =>
 .at (y0.2.1))
 (.no)
def qb9 : Nat → qbT
 | 0 => fun _ _ _ _ _ => none
 | n + 1 => fun x0 x1 x2 x3 x4 => (qpA ((qb9 n)) x0 x1 x2 x3 x4).ev
def qoT (x0 x1 : Int) (x2 : List UInt8) (x3 : List AV) (x4 : Int) : Option qsV := qiE fun n => (qb9 n) x0 x1 x2 x3 x4
theorem qm8 : ∀ n, qow ((qb9 n))
 | 0 => (fun v y h => nomatch h)
 | n + 1 => have hG := qm8 n
 qah (F := qNY) (L := [(1012200, qCu ((qb9 n)))]) (t := (k5 (qpA ((qb9 n))))) (qjD ((qb9 n)) hG) (qad (l := [qae qNY 0]) (by kernel_rfl) ⟨qax (by kernel_rfl) (qQ6 ((qb9 n)) hG), trivial⟩) (by kernel_rfl) (fun v => by kernel_rfl) (fun v => rfl)
theorem qMk : FH IP 122 qlo qlC (k5 qoT) := qbL (p := qlo) (rs := qlC) (s := fun n => (k5 ((qb9 n)))) fun n => (qm8 n)
def T90 : Tab := (122, FE qlo qlC (k5 qoT)) :: T89
theorem qJk : qan IP T90 := ⟨qam qMk, qJj⟩
abbrev qyL : Type := Bool
def qDg : PArgs := ⟨[.agg [.int .i64, .int .i64, .str, .view 4], .int .i64], []⟩
def qD2 : List PRes := [⟨false, .bool, []⟩]
def qjd (x0 x1 : Int) (x2 : List UInt8) (x3 : List AV) (x4 : Int) : DT qyL :=
 .bi (qoT x0 x1 x2 x3 x4) (fun y0 =>
 .at (decide (y0 > x4)))
 (.no)
def qke (x0 x1 : Int) (x2 : List UInt8) (x3 : List AV) (x4 : Int) : Option qyL := qaF (qjd x0 x1 x2 x3 x4).ev
theorem qwL (x0 x1 : Int) (x2 : List UInt8) (x3 : List AV) (x4 : Int) : qke x0 x1 x2 x3 x4 = (qjd x0 x1 x2 x3 x4).ev := qaa _
theorem qMi : FH IP 95 qDg qD2 (k5 qke) := qah (F := F95) (L := []) (t := (k5 qjd)) qJk (qad (l := []) (by kernel_rfl) trivial) (by kernel_rfl) (fun v => by kernel_rfl) (fun _ => qaa _)
def T91 : Tab := (95, FE qDg qD2 (k5 qke)) :: T90
theorem qJl : qan IP T91 := ⟨qam qMi, qJk⟩
abbrev qsU : Type := Int
def qlm : PArgs := ⟨[.agg [.int .i64, .int .i64, .str, .view 4]], []⟩
def qlA : List PRes := [⟨false, .int .i64, []⟩]
abbrev qbS : Type := Int → Int → (List UInt8) → (List AV) → Option qsU
def qou (G_u140q : qbS) : Prop := FH IP 96 qlm qlA (k4 G_u140q)
def qFF (G_u140q : qbS) : Tab := (96, FE qlm qlA (k4 G_u140q)) :: T91
theorem qjB (G_u140q : qbS) (hG : qou G_u140q) : qan IP (qFF G_u140q) := ⟨qam (hG), qJl⟩
abbrev qej : Type := Int × Int × Int × Int × List UInt8 × List AV
def qBJ : List PSt := [⟨[(1009600, .junk), (1, .ref 0 0 0), (3, .int .i64), (4, .int .i64)], [(0, .box [.int .i64, .int .i64, .str, .view 4] false)], 1, 0⟩]
def qHA (x0 x1 : Int) (x2 x3 : Int) (x4 : List UInt8) (x5 : List AV) : X × St := (X.exit 0, ⟨[(3, AV.int IntKind.i64 x0)], [], 0, 0⟩)
def qRD : List (qej → X × St) := [(k6 qHA)]
def qmD (G_u140q : qbS) (x0 x1 : Int) (x2 x3 : Int) (x4 : List UInt8) (x5 : List AV) : DT (Rd qej) :=
 .br (decide (x1 < (x5.length : Int)))
 (.br (qaS [CS.int IntKind.i64, CS.int IntKind.i64, CS.str, CS.slice 4] x5 x1)
 (.bi (G_u140q (intOf (cellAt x5 x1 0)) (intOf (cellAt x5 x1 1)) (strOf (cellAt x5 x1 2)) (qal (cellAt x5 x1 3))) (fun y0 =>
 .at (.next ((if y0 > x0 then y0 else x0, IntKind.i64.wrap (x1 + 1), x2, x3, x4, x5))))
 (.no))
 (.no))
 (.at (.done 0))
def qmC (G_u140q : qbS) : qej → DT (Rd qej) := (fun v => qmD G_u140q v.1 v.2.1 v.2.2.1 v.2.2.2.1 v.2.2.2.2.1 v.2.2.2.2.2)
def qvl (G_u140q : qbS) (v : qej) : Option (Nat × qej) := qaF (qao (fun v => (qmC G_u140q v).ev) v)
theorem qrS (G_u140q : qbS) (v : qej) : qvl G_u140q v = qao (fun v => (qmC G_u140q v).ev) v := qaa _
def qCr (G_u140q : qbS) : qb3 := LE (τ := qej) (hD qBJ) (qvl G_u140q) qRD
theorem qQ3 (G_u140q : qbS) (hG : qou G_u140q) : Go.Eng.Told IP (qae F96 0).1 (qae F96 0).2 (qCr G_u140q) := qaw (inferInstance : Inhabited qej) (hs := qBJ) (st := qmC G_u140q) (L := []) (qjB G_u140q hG) (qad (l := []) (by kernel_rfl) trivial) (qrS G_u140q) (fun v => by kernel_rfl) (fun v => by kernel_rfl)
def qpy (G_u140q : qbS) (x0 x1 : Int) (x2 : List UInt8) (x3 : List AV) : DT qsU :=
 .bi (pj 0 (qvl G_u140q (0, 0, x0, x1, x2, x3))) (fun y0 =>
 .at (IntKind.i64.wrap (y0.1 + 1)))
 (.no)
def qds : Nat → qbS
 | 0 => fun _ _ _ _ => none
 | n + 1 => fun x0 x1 x2 x3 => (qpy ((qds n)) x0 x1 x2 x3).ev
def qkd (x0 x1 : Int) (x2 : List UInt8) (x3 : List AV) : Option qsU := qiE fun n => (qds n) x0 x1 x2 x3
theorem qm6 : ∀ n, qou ((qds n))
 | 0 => (fun v y h => nomatch h)
 | n + 1 => have hG := qm6 n
 qah (F := F96) (L := [(1009600, qCr ((qds n)))]) (t := (k4 (qpy ((qds n))))) (qjB ((qds n)) hG) (qad (l := [qae F96 0]) (by kernel_rfl) ⟨qax (by kernel_rfl) (qQ3 ((qds n)) hG), trivial⟩) (by kernel_rfl) (fun v => by kernel_rfl) (fun v => rfl)
theorem qMh : FH IP 96 qlm qlA (k4 qkd) := qbL (p := qlm) (rs := qlA) (s := fun n => (k4 ((qds n)))) fun n => (qm6 n)
def T92 : Tab := (96, FE qlm qlA (k4 qkd)) :: T91
theorem qJm : qan IP T92 := ⟨qam qMh, qJl⟩
abbrev qIf : Type := Int
def qKq : PArgs := ⟨[.int .i64], []⟩
def qLf : List PRes := [⟨false, .int .i64, []⟩]
def qp8 (x0 : Int) : DT qIf :=
 .bi (br (decide (x0 < 1)) (some true) (some (decide (x0 > 19)))) (fun y0 =>
 .br (y0)
 (.at (-1))
 (.br (decide (x0 ≤ 4))
 (.at (0))
 (.bi (br (x0 == 9) (some true) (some (x0 == 16))) (fun y1 =>
 .br (y1)
 (.at (1))
 (.br (x0 == 19) (.at (3)) (.at (2))))
 (.no))))
 (.no)
def qqZ (x0 : Int) : Option qIf := qaF (qp8 x0).ev
theorem qAO (x0 : Int) : qqZ x0 = (qp8 x0).ev := qaa _
theorem qPl : FH IP 123 qKq qLf qqZ := qah (F := qR7) (L := []) (t := qp8) qJm (qad (l := []) (by kernel_rfl) trivial) (by kernel_rfl) (fun v => by kernel_rfl) (fun _ => qaa _)
def T93 : Tab := (123, FE qKq qLf qqZ) :: T92
theorem qJn : qan IP T93 := ⟨qam qPl, qJm⟩
abbrev qyV : Type := Int
def qDq : PArgs := ⟨[.int .i64], []⟩
def qEc : List PRes := [⟨false, .int .i64, []⟩]
def qjp (x0 : Int) : DT qyV :=
 .br (x0 == 1)
 (.at (9223372036854775807))
 (.br (x0 == 2)
 (.at (1000000000000))
 (.br (x0 == 3) (.at (1000000)) (.at (0))))
def qkn (x0 : Int) : Option qyV := qaF (qjp x0).ev
theorem qwV (x0 : Int) : qkn x0 = (qjp x0).ev := qaa _
theorem qMy : FH IP 124 qDq qEc qkn := qah (F := qR8) (L := []) (t := qjp) qJn (qad (l := []) (by kernel_rfl) trivial) (by kernel_rfl) (fun v => by kernel_rfl) (fun _ => qaa _)
def T94 : Tab := (124, FE qDq qEc qkn) :: T93
theorem qJo : qan IP T94 := ⟨qam qMy, qJn⟩
abbrev qsW : Type := Bool
def qlp : PArgs := ⟨[.agg [.int .i64, .int .i64, .str, .view 4]], []⟩
def qlD : List PRes := [⟨false, .bool, []⟩]
abbrev qbU : Type := Int → Int → (List UInt8) → (List AV) → Option qsW
def qox (G_u144q : qbU) : Prop := FH IP 97 qlp qlD (k4 G_u144q)
def qFI (G_u144q : qbU) : Tab := (97, FE qlp qlD (k4 G_u144q)) :: T94
theorem qjE (G_u144q : qbU) (hG : qox G_u144q) : qan IP (qFI G_u144q) := ⟨qam (hG), qJo⟩
end
end Go.Proofs.H15c

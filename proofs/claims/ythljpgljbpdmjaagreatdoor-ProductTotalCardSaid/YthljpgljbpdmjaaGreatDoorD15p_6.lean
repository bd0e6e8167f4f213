/- Functions over plain data. Printed by a program of mine. -/
import Derived.Test.YthljpgljbpdmjaaGreatDoorD15p_5
import Derived.KernelRfl
set_option linter.unusedVariables false
set_option linter.unusedSimpArgs false
set_option linter.unnecessarySimpa false
namespace Go.Proofs.H15p
open Go Go.Eng
set_option maxRecDepth 100000
noncomputable section
abbrev qiy:Type:=List AV × List AV × Int × Int
def qVt:List PSt:=[⟨[(1004500,.junk),(1,.view 6),(2,.fn (.func 46) []),(15,.view 6),(16,.int .i64),(17,.int .i64)],[],0,0⟩]
def q1a (x0 x1:List AV) (x2 x3:Int):X × St:=(.ret,⟨[(6,.bool false)],[],0,0⟩)
def q1b (x0 x1:List AV) (x2 x3:Int):X × St:=(.exit 0,⟨[(6,.junk)],[],0,0⟩)
def q9O:List (qiy -> X × St):=[(k4 q1a),(k4 q1b)]
def quw (x0 x1:List AV) (x2 x3:Int):DT (Rd qiy):=
 .br (decide (x3 < x2))
 (.br (qaD [.str,.int .i64,.int .i64,.int .i64,.str,.slice 4] x1 x3)
 (.br (qaD [.str,.int .i64,.int .i64,.int .i64,.str,.slice 4] x0 x3)
 (.bi (qwf (strOf (cellAt x1 x3 0)) (intOf (cellAt x1 x3 1)) (intOf (cellAt x1 x3 2)) (intOf (cellAt x1 x3 3)) (strOf (cellAt x1 x3 4)) (qaq (cellAt x1 x3 5))
 (strOf (cellAt x0 x3 0)) (intOf (cellAt x0 x3 1)) (intOf (cellAt x0 x3 2)) (intOf (cellAt x0 x3 3)) (strOf (cellAt x0 x3 4)) (qaq (cellAt x0 x3 5))) (fun y0=>
 .br (!y0) (.at (.done 0)) (.at (.next ((x0,x1,x2,IntKind.i64.wrap (x3 + 1))))))
 (.no))
 (.no))
 (.no))
 (.at (.done 1))
def qsX:qiy -> DT (Rd qiy):=(fun v=>quw v.1 v.2.1 v.2.2.1 v.2.2.2)
def qKL (v:qiy):Option (Nat × qiy):=qay (qap (fun v=>(qsX v).ev) v)
theorem qBw (v):qKL v = qap (fun v=>(qsX v).ev) v:=qaa _
def qVB:qbz:=LE (τ:=qiy) (hD qVt) (qKL) q9O
theorem q9D:Go.Eng.Told IP (qae F45 0).1 (qae F45 0).2 (qVB):=lp (inferInstance:Inhabited qiy) (hs:=qVt) qsX qIC qBw
abbrev q1J:Type:=Bool
def q3M:PArgs:=⟨[.view 6,.view 6,.fn (.func 46) []],[]⟩
def q3T:List PRes:=[⟨false,.bool,[]⟩]
def qCx (x0 x1:List AV):DT q1J:=
 .br ((x0.length:Int) != (x1.length:Int))
 (.at (false))
 (.bi (pj 0 (qKL (x1,x0,(x0.length:Int),0))) (fun y0=>
 .at (false))
 (.bi (pj 1 (qKL (x1,x0,(x0.length:Int),0))) (fun y0=>
 .at (true))
 (.no)))
def qEw (x0 x1:List AV):Option q1J:=qay (qCx x0 x1).ev
theorem qRu (x0 x1):qEw x0 x1 = (qCx x0 x1).ev:=qaa _
theorem q65:FH IP 45 q3M q3T (k2 qEw):=qag (F:=F45) (L:=[(1004500,qVB)]) (t:=(k2 qCx)) qIC (qab (l:=[qae F45 0]) (by kernel_rfl) ⟨qas (by kernel_rfl) q9D,trivial⟩) (by kernel_rfl) (fun v=>by kernel_rfl) (fun _=>qaa _)
def T80:Tab:=(45,FE q3M q3T (k2 qEw)) :: T79
theorem qUV:qai IP T80:=⟨qaj q65,qIC⟩
abbrev qFK:Type:=Bool
def qLU:PArgs:=⟨[.agg [.str,.str,.str,.int .i64,.int .i64,.int .i64,.int .i64,.view 2,.bool,.int .i64,.int .i64,.bool,.view 2,.bool,.int .i64,.int .i64,.bool,.view 10,.view 6],.agg [.str,.str,.str,.int .i64,.int .i64,.int .i64,.int .i64,.view 2,.bool,.int .i64,.int .i64,.bool,.view 2,.bool,.int .i64,.int .i64,.bool,.view 10,.view 6]],[]⟩
def qNA:List PRes:=[⟨false,.bool,[]⟩]
def qlC (x0 x1 x2:List UInt8) (x3 x4:Int) (x5 x6:Int) (x7:List AV) (x8:Bool) (x9 x10:Int) (x11:Bool) (x12:List AV) (x13:Bool) (x14 x15:Int) (x16:Bool) (x17 x18:List AV) (x19 x20 x21:List UInt8) (x22 x23:Int) (x24 x25:Int) (x26:List AV) (x27:Bool) (x28 x29:Int) (x30:Bool) (x31:List AV) (x32:Bool) (x33 x34:Int) (x35:Bool) (x36 x37:List AV):DT qFK:=
 .bi (br (!x0 == x19) (some true) (some !x1 == x20)) (fun y0=>
 .bi (br y0 (some true) (some !x2 == x21)) (fun y1=>
 .bi (br y1 (some true) (some (x3 != x22))) (fun y2=>
 .bi (br y2 (some true) (some (x4 != x23))) (fun y3=>
 .bi (br y3 (some true) (some (x5 != x24))) (fun y4=>
 .bi (br y4 (some true) (some (x6 != x25))) (fun y5=>
 .br (y5)
 (.at (false))
 (.bi (qox x7 x8 x9 x10 x11 x26 x27 x28 x29 x30) (fun y6=>
 .bi (br (!y6) (some true) (br (sm (qox x12 x13 x14 x15 x16 x31 x32 x33 x34 x35)) (some !gv (qox x12 x13 x14 x15 x16 x31 x32 x33 x34 x35)) none)) (fun y7=>
 .br (y7)
 (.at (false))
 (.bi (qJx x17 x36) (fun y8=>
 .bi (br y8 (br (sm (qEw x18 x37)) (some (gv (qEw x18 x37))) none) (some false)) (fun y9=>
 .at (y9))
 (.no))
 (.no)))
 (.no))
 (.no)))
 (.no))
 (.no))
 (.no))
 (.no))
 (.no))
 (.no)
def qfw (x0 x1 x2:List UInt8) (x3 x4:Int) (x5 x6:Int) (x7:List AV) (x8:Bool) (x9 x10:Int) (x11:Bool) (x12:List AV) (x13:Bool) (x14 x15:Int) (x16:Bool) (x17 x18:List AV) (x19 x20 x21:List UInt8) (x22 x23:Int) (x24 x25:Int) (x26:List AV) (x27:Bool) (x28 x29:Int) (x30:Bool) (x31:List AV) (x32:Bool) (x33 x34:Int) (x35:Bool) (x36 x37:List AV):Option qFK:=qay (qlC x0 x1 x2 x3 x4 x5 x6 x7 x8 x9 x10 x11 x12 x13 x14 x15 x16 x17 x18 x19 x20 x21 x22 x23 x24 x25 x26 x27 x28 x29 x30 x31 x32 x33 x34 x35 x36 x37).ev
theorem qC1 (x0 x1 x2 x3 x4 x5 x6 x7 x8 x9 x10 x11 x12 x13 x14 x15 x16 x17 x18 x19 x20 x21 x22 x23 x24 x25 x26 x27 x28 x29 x30 x31 x32 x33 x34 x35 x36 x37):qfw x0 x1 x2 x3 x4 x5 x6 x7 x8 x9 x10 x11 x12 x13 x14 x15 x16 x17 x18 x19 x20 x21 x22 x23 x24 x25 x26 x27 x28 x29 x30 x31 x32 x33 x34 x35 x36 x37 = (qlC x0 x1 x2 x3 x4 x5 x6 x7 x8 x9 x10 x11 x12 x13 x14 x15 x16 x17 x18 x19 x20 x21 x22 x23 x24 x25 x26 x27 x28 x29 x30 x31 x32 x33 x34 x35 x36 x37).ev:=qaa _
theorem qXD:FH IP 20 qLU qNA (k38 qfw):=fh F20 (k38 qlC) qUV
def T81:Tab:=(20,FE qLU qNA (k38 qfw)) :: T80
theorem qUW:qai IP T81:=⟨qaj qXD,qUV⟩
abbrev qGA:Type:=Bool
def qMI:PArgs:=⟨[],[]⟩
def qOo:List PRes:=[⟨false,.bool,[]⟩]
def qmn:DT qGA:=
 .bi (qod) (fun y0=>
 .bi (qfx) (fun y1=>
 .bi (qhw y0.1 y0.2.1 y0.2.2.1 y0.2.2.2.1 y0.2.2.2.2.1 y0.2.2.2.2.2.1 y0.2.2.2.2.2.2.1
 y0.2.2.2.2.2.2.2.1 y0.2.2.2.2.2.2.2.2.1 y0.2.2.2.2.2.2.2.2.2.1 y0.2.2.2.2.2.2.2.2.2.2.1
 y0.2.2.2.2.2.2.2.2.2.2.2.1 y0.2.2.2.2.2.2.2.2.2.2.2.2.1 y0.2.2.2.2.2.2.2.2.2.2.2.2.2.1
 y0.2.2.2.2.2.2.2.2.2.2.2.2.2.2.1 y0.2.2.2.2.2.2.2.2.2.2.2.2.2.2.2.1
 y0.2.2.2.2.2.2.2.2.2.2.2.2.2.2.2.2.1 y0.2.2.2.2.2.2.2.2.2.2.2.2.2.2.2.2.2.1
 y0.2.2.2.2.2.2.2.2.2.2.2.2.2.2.2.2.2.2 [AV.agg [AV.str [69,85,82],.int .i64 2]]
 [AV.agg [AV.str [104,111,109,101],AV.view 1 [],AV.view 1 []]]) (fun y2=>
 .bi (br (y2 == 0)
 (br
 (sm
 (qhw y0.1 y0.2.1 y0.2.2.1 y0.2.2.2.1 2 y0.2.2.2.2.2.1 y0.2.2.2.2.2.2.1 y0.2.2.2.2.2.2.2.1
 y0.2.2.2.2.2.2.2.2.1 y0.2.2.2.2.2.2.2.2.2.1 y0.2.2.2.2.2.2.2.2.2.2.1
 y0.2.2.2.2.2.2.2.2.2.2.2.1 y0.2.2.2.2.2.2.2.2.2.2.2.2.1 y0.2.2.2.2.2.2.2.2.2.2.2.2.2.1
 y0.2.2.2.2.2.2.2.2.2.2.2.2.2.2.1 y0.2.2.2.2.2.2.2.2.2.2.2.2.2.2.2.1
 y0.2.2.2.2.2.2.2.2.2.2.2.2.2.2.2.2.1 y0.2.2.2.2.2.2.2.2.2.2.2.2.2.2.2.2.2.1
 y0.2.2.2.2.2.2.2.2.2.2.2.2.2.2.2.2.2.2 [AV.agg [AV.str [69,85,82],.int .i64 2]]
 [AV.agg [AV.str [104,111,109,101],AV.view 1 [],AV.view 1 []]]))
 (some
 (gv
 (qhw y0.1 y0.2.1 y0.2.2.1 y0.2.2.2.1 2 y0.2.2.2.2.2.1 y0.2.2.2.2.2.2.1 y0.2.2.2.2.2.2.2.1
 y0.2.2.2.2.2.2.2.2.1 y0.2.2.2.2.2.2.2.2.2.1 y0.2.2.2.2.2.2.2.2.2.2.1
 y0.2.2.2.2.2.2.2.2.2.2.2.1 y0.2.2.2.2.2.2.2.2.2.2.2.2.1 y0.2.2.2.2.2.2.2.2.2.2.2.2.2.1
 y0.2.2.2.2.2.2.2.2.2.2.2.2.2.2.1 y0.2.2.2.2.2.2.2.2.2.2.2.2.2.2.2.1
 y0.2.2.2.2.2.2.2.2.2.2.2.2.2.2.2.2.1 y0.2.2.2.2.2.2.2.2.2.2.2.2.2.2.2.2.2.1
 y0.2.2.2.2.2.2.2.2.2.2.2.2.2.2.2.2.2.2 [AV.agg [AV.str [69,85,82],.int .i64 2]]
 [AV.agg [AV.str [104,111,109,101],AV.view 1 [],AV.view 1 []]]) ==
 1))
 none)
 (some false)) (fun y3=>
 .bi (br y3 (some ((y1.length:Int) == 7)) (some false)) (fun y4=>
 .bi (br y4
 (br (qaD [.str,.int .i64] y1 6)
 (some
 (if false = true then
 !((List.brecOn.go (motive:=fun x=>List UInt8 -> Bool) (strOf (cellAt y1 6 0)) List.beq._f).1 [100,97,121] &&
 (Decidable.rec (fun h=>(fun x=>false) h) (fun h=>(fun x=>true) h) ((intOf (cellAt y1 6 1)).instDecidableEq 4) && true))
 else
 (List.brecOn.go (motive:=fun x=>List UInt8 -> Bool) (strOf (cellAt y1 6 0)) List.beq._f).1 [100,97,121] &&
 (Decidable.rec (fun h=>(fun x=>false) h) (fun h=>(fun x=>true) h) ((intOf (cellAt y1 6 1)).instDecidableEq 4) && true)))
 none)
 (some false)) (fun y5=>
 .bi (br y5
 (br
 (sm
 (qr7 y0.1 y0.2.1 y0.2.2.1 y0.2.2.2.1 y0.2.2.2.2.1 y0.2.2.2.2.2.1 y0.2.2.2.2.2.2.1
 y0.2.2.2.2.2.2.2.1 y0.2.2.2.2.2.2.2.2.1 y0.2.2.2.2.2.2.2.2.2.1 y0.2.2.2.2.2.2.2.2.2.2.1
 y0.2.2.2.2.2.2.2.2.2.2.2.1 y0.2.2.2.2.2.2.2.2.2.2.2.2.1 y0.2.2.2.2.2.2.2.2.2.2.2.2.2.1
 y0.2.2.2.2.2.2.2.2.2.2.2.2.2.2.1 y0.2.2.2.2.2.2.2.2.2.2.2.2.2.2.2.1
 y0.2.2.2.2.2.2.2.2.2.2.2.2.2.2.2.2.1 y0.2.2.2.2.2.2.2.2.2.2.2.2.2.2.2.2.2.1
 y0.2.2.2.2.2.2.2.2.2.2.2.2.2.2.2.2.2.2 1))
 (some
 (((gv
 (qr7 y0.1 y0.2.1 y0.2.2.1 y0.2.2.2.1 y0.2.2.2.2.1 y0.2.2.2.2.2.1 y0.2.2.2.2.2.2.1
 y0.2.2.2.2.2.2.2.1 y0.2.2.2.2.2.2.2.2.1 y0.2.2.2.2.2.2.2.2.2.1
 y0.2.2.2.2.2.2.2.2.2.2.1 y0.2.2.2.2.2.2.2.2.2.2.2.1 y0.2.2.2.2.2.2.2.2.2.2.2.2.1
 y0.2.2.2.2.2.2.2.2.2.2.2.2.2.1 y0.2.2.2.2.2.2.2.2.2.2.2.2.2.2.1
 y0.2.2.2.2.2.2.2.2.2.2.2.2.2.2.2.1 y0.2.2.2.2.2.2.2.2.2.2.2.2.2.2.2.2.1
 y0.2.2.2.2.2.2.2.2.2.2.2.2.2.2.2.2.2.1 y0.2.2.2.2.2.2.2.2.2.2.2.2.2.2.2.2.2.2 1)).length :
 Int) ==
 1))
 none)
 (some false)) (fun y6=>
 .bi (br y6
 (br
 (sm
 (qjF y0.1 y0.2.1 y0.2.2.1 y0.2.2.2.1 y0.2.2.2.2.1 y0.2.2.2.2.2.1 y0.2.2.2.2.2.2.1
 y0.2.2.2.2.2.2.2.1 y0.2.2.2.2.2.2.2.2.1 y0.2.2.2.2.2.2.2.2.2.1 y0.2.2.2.2.2.2.2.2.2.2.1
 y0.2.2.2.2.2.2.2.2.2.2.2.1 y0.2.2.2.2.2.2.2.2.2.2.2.2.1 y0.2.2.2.2.2.2.2.2.2.2.2.2.2.1
 y0.2.2.2.2.2.2.2.2.2.2.2.2.2.2.1 y0.2.2.2.2.2.2.2.2.2.2.2.2.2.2.2.1
 y0.2.2.2.2.2.2.2.2.2.2.2.2.2.2.2.2.1 y0.2.2.2.2.2.2.2.2.2.2.2.2.2.2.2.2.2.1
 y0.2.2.2.2.2.2.2.2.2.2.2.2.2.2.2.2.2.2 (-1)))
 (some
 ((gv
 (qjF y0.1 y0.2.1 y0.2.2.1 y0.2.2.2.1 y0.2.2.2.2.1 y0.2.2.2.2.2.1 y0.2.2.2.2.2.2.1
 y0.2.2.2.2.2.2.2.1 y0.2.2.2.2.2.2.2.2.1 y0.2.2.2.2.2.2.2.2.2.1
 y0.2.2.2.2.2.2.2.2.2.2.1 y0.2.2.2.2.2.2.2.2.2.2.2.1 y0.2.2.2.2.2.2.2.2.2.2.2.2.1
 y0.2.2.2.2.2.2.2.2.2.2.2.2.2.1 y0.2.2.2.2.2.2.2.2.2.2.2.2.2.2.1
 y0.2.2.2.2.2.2.2.2.2.2.2.2.2.2.2.1 y0.2.2.2.2.2.2.2.2.2.2.2.2.2.2.2.2.1
 y0.2.2.2.2.2.2.2.2.2.2.2.2.2.2.2.2.2.1 y0.2.2.2.2.2.2.2.2.2.2.2.2.2.2.2.2.2.2
 (-1))).2.2.1 ==
 2))
 none)
 (some false)) (fun y7=>
 .bi (br y7
 (br
 (sm
 (qfw y0.1 y0.2.1 y0.2.2.1 y0.2.2.2.1 y0.2.2.2.2.1 y0.2.2.2.2.2.1 y0.2.2.2.2.2.2.1
 y0.2.2.2.2.2.2.2.1 y0.2.2.2.2.2.2.2.2.1 y0.2.2.2.2.2.2.2.2.2.1 y0.2.2.2.2.2.2.2.2.2.2.1
 y0.2.2.2.2.2.2.2.2.2.2.2.1 y0.2.2.2.2.2.2.2.2.2.2.2.2.1 y0.2.2.2.2.2.2.2.2.2.2.2.2.2.1
 y0.2.2.2.2.2.2.2.2.2.2.2.2.2.2.1 y0.2.2.2.2.2.2.2.2.2.2.2.2.2.2.2.1
 y0.2.2.2.2.2.2.2.2.2.2.2.2.2.2.2.2.1 y0.2.2.2.2.2.2.2.2.2.2.2.2.2.2.2.2.2.1
 y0.2.2.2.2.2.2.2.2.2.2.2.2.2.2.2.2.2.2 y0.1 y0.2.1 y0.2.2.1 y0.2.2.2.1 y0.2.2.2.2.1
 y0.2.2.2.2.2.1 y0.2.2.2.2.2.2.1 y0.2.2.2.2.2.2.2.1 y0.2.2.2.2.2.2.2.2.1
 y0.2.2.2.2.2.2.2.2.2.1 y0.2.2.2.2.2.2.2.2.2.2.1 y0.2.2.2.2.2.2.2.2.2.2.2.1
 y0.2.2.2.2.2.2.2.2.2.2.2.2.1 y0.2.2.2.2.2.2.2.2.2.2.2.2.2.1
 y0.2.2.2.2.2.2.2.2.2.2.2.2.2.2.1 y0.2.2.2.2.2.2.2.2.2.2.2.2.2.2.2.1
 y0.2.2.2.2.2.2.2.2.2.2.2.2.2.2.2.2.1 y0.2.2.2.2.2.2.2.2.2.2.2.2.2.2.2.2.2.1
 y0.2.2.2.2.2.2.2.2.2.2.2.2.2.2.2.2.2.2))
 (some
 (gv
 (qfw y0.1 y0.2.1 y0.2.2.1 y0.2.2.2.1 y0.2.2.2.2.1 y0.2.2.2.2.2.1 y0.2.2.2.2.2.2.1
 y0.2.2.2.2.2.2.2.1 y0.2.2.2.2.2.2.2.2.1 y0.2.2.2.2.2.2.2.2.2.1 y0.2.2.2.2.2.2.2.2.2.2.1
 y0.2.2.2.2.2.2.2.2.2.2.2.1 y0.2.2.2.2.2.2.2.2.2.2.2.2.1 y0.2.2.2.2.2.2.2.2.2.2.2.2.2.1
 y0.2.2.2.2.2.2.2.2.2.2.2.2.2.2.1 y0.2.2.2.2.2.2.2.2.2.2.2.2.2.2.2.1
 y0.2.2.2.2.2.2.2.2.2.2.2.2.2.2.2.2.1 y0.2.2.2.2.2.2.2.2.2.2.2.2.2.2.2.2.2.1
 y0.2.2.2.2.2.2.2.2.2.2.2.2.2.2.2.2.2.2 y0.1 y0.2.1 y0.2.2.1 y0.2.2.2.1 y0.2.2.2.2.1
 y0.2.2.2.2.2.1 y0.2.2.2.2.2.2.1 y0.2.2.2.2.2.2.2.1 y0.2.2.2.2.2.2.2.2.1
 y0.2.2.2.2.2.2.2.2.2.1 y0.2.2.2.2.2.2.2.2.2.2.1 y0.2.2.2.2.2.2.2.2.2.2.2.1
 y0.2.2.2.2.2.2.2.2.2.2.2.2.1 y0.2.2.2.2.2.2.2.2.2.2.2.2.2.1
 y0.2.2.2.2.2.2.2.2.2.2.2.2.2.2.1 y0.2.2.2.2.2.2.2.2.2.2.2.2.2.2.2.1
 y0.2.2.2.2.2.2.2.2.2.2.2.2.2.2.2.2.1 y0.2.2.2.2.2.2.2.2.2.2.2.2.2.2.2.2.2.1
 y0.2.2.2.2.2.2.2.2.2.2.2.2.2.2.2.2.2.2)))
 none)
 (some false)) (fun y8=>
 .bi (br y8
 (br
 (sm
 (qfw y0.1 y0.2.1 y0.2.2.1 y0.2.2.2.1 y0.2.2.2.2.1 y0.2.2.2.2.2.1 y0.2.2.2.2.2.2.1
 y0.2.2.2.2.2.2.2.1 y0.2.2.2.2.2.2.2.2.1 y0.2.2.2.2.2.2.2.2.2.1 y0.2.2.2.2.2.2.2.2.2.2.1
 y0.2.2.2.2.2.2.2.2.2.2.2.1 y0.2.2.2.2.2.2.2.2.2.2.2.2.1 y0.2.2.2.2.2.2.2.2.2.2.2.2.2.1
 y0.2.2.2.2.2.2.2.2.2.2.2.2.2.2.1 y0.2.2.2.2.2.2.2.2.2.2.2.2.2.2.2.1
 y0.2.2.2.2.2.2.2.2.2.2.2.2.2.2.2.2.1 y0.2.2.2.2.2.2.2.2.2.2.2.2.2.2.2.2.2.1
 y0.2.2.2.2.2.2.2.2.2.2.2.2.2.2.2.2.2.2 y0.1 y0.2.1 y0.2.2.1 y0.2.2.2.1 2 y0.2.2.2.2.2.1
 y0.2.2.2.2.2.2.1 y0.2.2.2.2.2.2.2.1 y0.2.2.2.2.2.2.2.2.1 y0.2.2.2.2.2.2.2.2.2.1
 y0.2.2.2.2.2.2.2.2.2.2.1 y0.2.2.2.2.2.2.2.2.2.2.2.1 y0.2.2.2.2.2.2.2.2.2.2.2.2.1
 y0.2.2.2.2.2.2.2.2.2.2.2.2.2.1 y0.2.2.2.2.2.2.2.2.2.2.2.2.2.2.1
 y0.2.2.2.2.2.2.2.2.2.2.2.2.2.2.2.1 y0.2.2.2.2.2.2.2.2.2.2.2.2.2.2.2.2.1
 y0.2.2.2.2.2.2.2.2.2.2.2.2.2.2.2.2.2.1 y0.2.2.2.2.2.2.2.2.2.2.2.2.2.2.2.2.2.2))
 (some
 !gv
 (qfw y0.1 y0.2.1 y0.2.2.1 y0.2.2.2.1 y0.2.2.2.2.1 y0.2.2.2.2.2.1 y0.2.2.2.2.2.2.1
 y0.2.2.2.2.2.2.2.1 y0.2.2.2.2.2.2.2.2.1 y0.2.2.2.2.2.2.2.2.2.1 y0.2.2.2.2.2.2.2.2.2.2.1
 y0.2.2.2.2.2.2.2.2.2.2.2.1 y0.2.2.2.2.2.2.2.2.2.2.2.2.1 y0.2.2.2.2.2.2.2.2.2.2.2.2.2.1
 y0.2.2.2.2.2.2.2.2.2.2.2.2.2.2.1 y0.2.2.2.2.2.2.2.2.2.2.2.2.2.2.2.1
 y0.2.2.2.2.2.2.2.2.2.2.2.2.2.2.2.2.1 y0.2.2.2.2.2.2.2.2.2.2.2.2.2.2.2.2.2.1
 y0.2.2.2.2.2.2.2.2.2.2.2.2.2.2.2.2.2.2 y0.1 y0.2.1 y0.2.2.1 y0.2.2.2.1 2 y0.2.2.2.2.2.1
 y0.2.2.2.2.2.2.1 y0.2.2.2.2.2.2.2.1 y0.2.2.2.2.2.2.2.2.1 y0.2.2.2.2.2.2.2.2.2.1
 y0.2.2.2.2.2.2.2.2.2.2.1 y0.2.2.2.2.2.2.2.2.2.2.2.1 y0.2.2.2.2.2.2.2.2.2.2.2.2.1
 y0.2.2.2.2.2.2.2.2.2.2.2.2.2.1 y0.2.2.2.2.2.2.2.2.2.2.2.2.2.2.1
 y0.2.2.2.2.2.2.2.2.2.2.2.2.2.2.2.1 y0.2.2.2.2.2.2.2.2.2.2.2.2.2.2.2.2.1
 y0.2.2.2.2.2.2.2.2.2.2.2.2.2.2.2.2.2.1 y0.2.2.2.2.2.2.2.2.2.2.2.2.2.2.2.2.2.2))
 none)
 (some false)) (fun y9=>
 .at (y9))
 (.no))
 (.no))
 (.no))
 (.no))
 (.no))
 (.no))
 (.no))
 (.no))
 (.no))
 (.no)
def qgn:Option qGA:=qay (qmn).ev
theorem qDK:qgn = (qmn).ev:=qaa _
theorem qYv:FH IP 10 qMI qOo (fun _=>qgn):=qag (F:=F10) (L:=[]) (t:=(fun _=>qmn)) qUW (qab (l:=[]) (by kernel_rfl) trivial) (by kernel_rfl) (fun v=>by kernel_rfl) (fun _=>qaa _)
def T82:Tab:=(10,FE qMI qOo (fun _=>qgn)) :: T81
theorem qUX:qai IP T82:=⟨qaj qYv,qUW⟩
abbrev qGZ:Type:=List AV
def qM8:PArgs:=⟨[],[]⟩
def qOP:List PRes:=[⟨false,.view 2,[]⟩]
def qmM:DT qGZ:=
 .at ([AV.agg [AV.str [98,97,108,97,110,99,101],.int .i64 2],AV.agg [AV.str [108,111,119,101,115,116],.int .i64 2],
 AV.agg [AV.str [118,111,108,117,109,101],.int .i64 2],AV.agg [AV.str [97,109,111,117,110,116],.int .i64 2],
 AV.agg [AV.str [99,111,117,110,116],.int .i64 1],AV.agg [AV.str [97,103,101],.int .i64 1],AV.agg [AV.str [100,97,121],.int .i64 4]])
def qjQ:Option qGZ:=qay (qmM).ev
theorem qD9:qjQ = (qmM).ev:=qaa _
theorem qY4:FH IP 9 qM8 qOP (fun _=>qjQ):=qag (F:=F9) (L:=[]) (t:=(fun _=>qmM)) qUX (qab (l:=[]) (by kernel_rfl) trivial) (by kernel_rfl) (fun v=>by kernel_rfl) (fun _=>qaa _)
def T83:Tab:=(9,FE qM8 qOP (fun _=>qjQ)) :: T82
theorem qUY:qai IP T83:=⟨qaj qY4,qUX⟩
abbrev qGe:Type:=List AV
def qMm:PArgs:=⟨[.agg [.int .i64,.int .i64,.int .i64,.int .i64,.int .i64,.int .i64,.int .i64]],[]⟩
def qN2:List PRes:=[⟨false,.view 2,[]⟩]
def ql4 (x0 x1:Int) (x2 x3:Int) (x4 x5 x6:Int):DT qGe:=
 .at ([AV.agg [.int .i64 2,.int .i64 x0],AV.agg [.int .i64 2,.int .i64 x1],AV.agg [.int .i64 2,.int .i64 x2],
 AV.agg [.int .i64 2,.int .i64 x3],AV.agg [.int .i64 1,.int .i64 x4],AV.agg [.int .i64 1,.int .i64 x5],
 AV.agg [.int .i64 4,.int .i64 x6]])
def qhW (x0 x1:Int) (x2 x3:Int) (x4 x5 x6:Int):Option qGe:=qay (ql4 x0 x1 x2 x3 x4 x5 x6).ev
theorem qDr (x0 x1 x2 x3 x4 x5 x6):qhW x0 x1 x2 x3 x4 x5 x6 = (ql4 x0 x1 x2 x3 x4 x5 x6).ev:=qaa _
theorem qX6:FH IP 23 qMm qN2 (k7 qhW):=fh F23 (k7 ql4) qUY
def T84:Tab:=(23,FE qMm qN2 (k7 qhW)) :: T83
theorem qUZ:qai IP T84:=⟨qaj qX6,qUY⟩
abbrev qGl:Type:=Bool
def qMt:PArgs:=⟨[.int .i64,.int .i64],[]⟩
def qN9:List PRes:=[⟨false,.bool,[]⟩]
def ql9 (x0 x1:Int):DT qGl:=
 .bi (br (decide (x0 >= IntKind.i64.wrap (0 - x1))) (some (decide (x0 <= x1))) (some false)) (fun y0=>
 .at (y0))
 (.no)
def qjJ (x0 x1:Int):Option qGl:=qay (ql9 x0 x1).ev
theorem qDw (x0 x1):qjJ x0 x1 = (ql9 x0 x1).ev:=qaa _
theorem qYd:FH IP 60 qMt qN9 (k2 qjJ):=fh F60 (k2 ql9) qUZ
def T85:Tab:=(60,FE qMt qN9 (k2 qjJ)) :: T84
theorem qU0:qai IP T85:=⟨qaj qYd,qUZ⟩
abbrev qGG:Type:=Bool
def qMO:PArgs:=⟨[.int .i64],[]⟩
def qOv:List PRes:=[⟨false,.bool,[]⟩]
def qms (x0:Int):DT qGG:=
 .bi (br (decide (x0 >= 0)) (some (decide (x0 <= 73048))) (some false)) (fun y0=>
 .at (y0))
 (.no)
def qn6 (x0:Int):Option qGG:=qay (qms x0).ev
theorem qDQ (x0):qn6 x0 = (qms x0).ev:=qaa _
theorem qYB:FH IP 34 qMO qOv qn6:=fh F34 qms qU0
def T86:Tab:=(34,FE qMO qOv qn6) :: T85
theorem qU1:qai IP T86:=⟨qaj qYB,qU0⟩
abbrev qHj:Type:=Bool
def qNs:PArgs:=⟨[.agg [.int .i64,.int .i64]],[]⟩
def qO9:List PRes:=[⟨false,.bool,[]⟩]
def qm5 (x0 x1:Int):DT qHj:=
 .br (x0 == 1)
 (.at (true))
 (.br (x0 == 2)
 (.bi (qjJ x1 1000000000000) (fun y0=>
 .at (y0))
 (.no))
 (.br (x0 == 3)
 (.bi (qjJ x1 1000000000) (fun y0=>
 .at (y0))
 (.no))
 (.br (x0 == 4)
 (.bi (qn6 x1) (fun y0=>
 .at (y0))
 (.no))
 (.br (x0 == 5)
 (.bi (br (x1 == 0) (some true) (some (x1 == 1))) (fun y0=>
 .at (y0))
 (.no))
 (.at (false))))))
def qgq (x0 x1:Int):Option qHj:=qay (qm5 x0 x1).ev
theorem qEs (x0 x1):qgq x0 x1 = (qm5 x0 x1).ev:=qaa _
theorem qZp:FH IP 47 qNs qO9 (k2 qgq):=fh F47 (k2 qm5) qU1
def T87:Tab:=(47,FE qNs qO9 (k2 qgq)) :: T86
theorem qID:qai IP T87:=⟨qaj qZp,qU1⟩
abbrev qdp:Type:=List AV × List AV × Int
def qBe:List PSt:=[⟨[(1002200,.junk),(0,.view 2),(1,.view 2),(5,.int .i64)],[],0,0⟩]
def qP7 (x0 x1:List AV) (x2:Int):X × St:=(.ret,⟨[(4,.bool false)],[],0,0⟩)
def qP8 (x0 x1:List AV) (x2:Int):X × St:=(.exit 0,⟨[(4,.junk)],[],0,0⟩)
def q0X:List (qdp -> X × St):=[(k3 qP7),(k3 qP8)]
def qkw (x0 x1:List AV) (x2:Int):DT (Rd qdp):=
 .br (decide (x2 < (x1.length:Int)))
 (.br (qaD [.int .i64,.int .i64] x1 x2)
 (.br (qaD [.str,.int .i64] x0 x2)
 (.br (intOf (cellAt x1 x2 0) != intOf (cellAt x0 x2 1))
 (.at (.done 0))
 (.br (qaD [.int .i64,.int .i64] x1 x2)
 (.bi (qgq (intOf (cellAt x1 x2 0)) (intOf (cellAt x1 x2 1))) (fun y0=>
 .br (!y0) (.at (.done 0)) (.at (.next ((x0,x1,IntKind.i64.wrap (x2 + 1))))))
 (.no))
 (.no)))
 (.no))
 (.no))
 (.at (.done 1))
def qi7:qdp -> DT (Rd qdp):=(fun v=>qkw v.1 v.2.1 v.2.2)
def qoV (v:qdp):Option (Nat × qdp):=qay (qap (fun v=>(qi7 v).ev) v)
theorem qsp (v):qoV v = qap (fun v=>(qi7 v).ev) v:=qaa _
def qBU:qbz:=LE (τ:=qdp) (hD qBe) (qoV) q0X
theorem q0q:Go.Eng.Told IP (qae F22 0).1 (qae F22 0).2 (qBU):=lp (inferInstance:Inhabited qdp) (hs:=qBe) qi7 qID qsp
abbrev qGJ:Type:=Bool
def qMS:PArgs:=⟨[.view 2,.view 2],[]⟩
def qOz:List PRes:=[⟨false,.bool,[]⟩]
def qmv (x0 x1:List AV):DT qGJ:=
 .br ((x0.length:Int) != (x1.length:Int))
 (.at (false))
 (.bi (pj 0 (qoV (x0,x1,0))) (fun y0=>
 .at (false))
 (.bi (pj 1 (qoV (x0,x1,0))) (fun y0=>
 .at (true))
 (.no)))
def qjM (x0 x1:List AV):Option qGJ:=qay (qmv x0 x1).ev
theorem qDT (x0 x1):qjM x0 x1 = (qmv x0 x1).ev:=qaa _
theorem qYJ:FH IP 22 qMS qOz (k2 qjM):=qag (F:=F22) (L:=[(1002200,qBU)]) (t:=(k2 qmv)) qID (qab (l:=[qae F22 0]) (by kernel_rfl) ⟨qas (by kernel_rfl) q0q,trivial⟩) (by kernel_rfl) (fun v=>by kernel_rfl) (fun _=>qaa _)
def T88:Tab:=(22,FE qMS qOz (k2 qjM)) :: T87
theorem qAG:qai IP T88:=⟨qaj qYJ,qID⟩
abbrev qfj:Type:=List AV × List AV × Int × Int × List AV × Int × Int × List UInt8 × Int
def qKz:List PSt:=[⟨[(1006101,.junk),(0,.view 2),(4,.ref 0 0 0),(10,.view 2),(11,.int .i64),(12,.int .i64),(24,.view 2),(25,.int .i64),(26,.int .i64)],[(0,.box [.str,.int .i64] false)],1,0⟩]
def qTe (x0 x1:List AV) (x2 x3:Int) (x4:List AV) (x5 x6:Int) (x7:List UInt8) (x8:Int):X × St:=(.ret,
 ⟨[(0,.view 2 x0),(2,.int .i64 12),(4,.ref 0 0 0),(10,.view 2 x1),(11,.int .i64 x2),(12,.int .i64 x3)],[(0,.box [.str x7,.int .i64 x8] false)],1,0⟩)
def qTf (x0 x1:List AV) (x2 x3:Int) (x4:List AV) (x5 x6:Int) (x7:List UInt8) (x8:Int):X × St:=(.exit 2,
 ⟨[(0,.view 2 x0),(2,.junk),(4,.ref 0 0 0),(10,.view 2 x1),(11,.int .i64 x2),(12,.int .i64 x3)],[(0,.box [.str x7,.int .i64 x8] false)],1,0⟩)
def q48:List (qfj -> X × St):=[(k9 qTe),(k9 qTf)]
def qqG (x0 x1:List AV) (x2 x3:Int) (x4:List AV) (x5 x6:Int) (x7:List UInt8) (x8:Int):DT (Rd qfj):=
 .br (decide (x6 < x5))
 (.br (qaD [.str,.int .i64] x4 x6)
 (.br (strOf (cellAt x4 x6 0) == x7) (.at (.done 0)) (.at (.next ((x0,x1,x2,x3,x4,x5,IntKind.i64.wrap (x6 + 1),x7,x8)))))
 (.no))
 (.at (.done 1))
def qqF:qfj -> DT (Rd qfj):=(fun v=>qqG v.1 v.2.1 v.2.2.1 v.2.2.2.1 v.2.2.2.2.1 v.2.2.2.2.2.1 v.2.2.2.2.2.2.1 v.2.2.2.2.2.2.2.1 v.2.2.2.2.2.2.2.2)
def qw8 (v:qfj):Option (Nat × qfj):=qay (qap (fun v=>(qqF v).ev) v)
theorem qw9 (v):qw8 v = qap (fun v=>(qqF v).ev) v:=qaa _
def qLj:qbz:=LE (τ:=qfj) (hD qKz) (qw8) q48
theorem q4u:Go.Eng.Told IP (qae F61 1).1 (qae F61 1).2 (qLj):=lp (inferInstance:Inhabited qfj) (hs:=qKz) qqF qAG qw9
abbrev qfi:Type:=List AV × List AV × Int × Int
def qKy:List PSt:=[⟨[(1006100,.junk),(0,.view 2),(10,.view 2),(11,.int .i64),(12,.int .i64)],[],0,0⟩]
def qTa (x0 x1:List AV) (x2 x3:Int):X × St:=(.ret,⟨[(2,.int .i64 4)],[],0,0⟩)
def qTb (x0 x1:List AV) (x2 x3:Int):X × St:=(.ret,⟨[(2,.int .i64 12)],[],0,0⟩)
def qTc (x0 x1:List AV) (x2 x3:Int):X × St:=(.ret,⟨[(2,.int .i64 3)],[],0,0⟩)
def qTd (x0 x1:List AV) (x2 x3:Int):X × St:=(.exit 0,⟨[(2,.junk)],[],0,0⟩)
def q47:List (qfi -> X × St):=[(k4 qTa),(k4 qTb),(k4 qTc),(k4 qTd)]
def qqE (x0 x1:List AV) (x2 x3:Int):DT (Rd qfi):=
 .br (decide (x3 < x2))
 (.br (qaD [.str,.int .i64] x1 x3)
 (.bi (qoA 4 0 (strOf (cellAt x1 x3 0)) []) (fun y0=>
 .br (y0 != 0)
 (.at (.done 0))
 (.br (leB x3 x0.length && true)
 (.bi (pj 0 (qw8 (x0,x1,x2,x3,List.take x3.toNat x0,((List.take x3.toNat x0).length:Int),0,strOf (cellAt x1 x3 0),intOf (cellAt x1 x3 1)))) (fun y1=>
 .at (.done 1))
 (.bi (pj 1 (qw8 (x0,x1,x2,x3,List.take x3.toNat x0,((List.take x3.toNat x0).length:Int),0,strOf (cellAt x1 x3 0),intOf (cellAt x1 x3 1)))) (fun y1=>
 .bi (qhQ y1.2.2.2.2.2.2.2.2) (fun y2=>
 .br (!y2) (.at (.done 2)) (.at (.next ((y1.1,y1.2.1,y1.2.2.1,IntKind.i64.wrap (y1.2.2.2.1 + 1))))))
 (.no))
 (.no)))
 (.no)))
 (.no))
 (.no))
 (.at (.done 3))
def qqD:qfi -> DT (Rd qfi):=(fun v=>qqE v.1 v.2.1 v.2.2.1 v.2.2.2)
def qo9 (v:qfi):Option (Nat × qfi):=qay (qap (fun v=>(qqD v).ev) v)
theorem qw7 (v):qo9 v = qap (fun v=>(qqD v).ev) v:=qaa _
def qLi:qbz:=LE (τ:=qfi) (hD qKy) (qo9) q47
theorem q4t:Go.Eng.Told IP (qae F61 0).1 (qae F61 0).2 (qLi):=qar (inferInstance:Inhabited qfi) (hs:=qKy) (st:=qqD) (L:=[(1006101,qLj)]) qAG (qab (l:=[qae F61 1]) (by kernel_rfl) ⟨qas (by kernel_rfl) q4u,trivial⟩) (qw7) (fun v=>by kernel_rfl) (fun v=>by kernel_rfl)
abbrev qGc:Type:=Int
def qMk:PArgs:=⟨[.view 2],[]⟩
def qN0:List PRes:=[⟨false,.int .i64,[]⟩]
def ql2 (x0:List AV):DT qGc:=
 .br (decide ((x0.length:Int) > 64))
 (.at (5))
 (.bi (pj 0 (qo9 (x0,x0,(x0.length:Int),0))) (fun y0=>
 .at (4))
 (.bi (pj 1 (qo9 (x0,x0,(x0.length:Int),0))) (fun y0=>
 .at (12))
 (.bi (pj 2 (qo9 (x0,x0,(x0.length:Int),0))) (fun y0=>
 .at (3))
 (.bi (pj 3 (qo9 (x0,x0,(x0.length:Int),0))) (fun y0=>
 .at (0))
 (.no)))))
def qnS (x0:List AV):Option qGc:=qay (ql2 x0).ev
theorem qDp (x0):qnS x0 = (ql2 x0).ev:=qaa _
theorem qX4:FH IP 61 qMk qN0 qnS:=qag (F:=F61) (L:=[(1006100,qLi)]) (t:=ql2) qAG (qab (l:=[qae F61 0,qae F61 1]) (by kernel_rfl) ⟨qas (by kernel_rfl) q4t,qCr (by kernel_rfl),trivial⟩) (by kernel_rfl) (fun v=>by kernel_rfl) (fun _=>qaa _)
def T89:Tab:=(61,FE qMk qN0 qnS) :: T88
theorem qU2:qai IP T89:=⟨qaj qX4,qAG⟩
abbrev qGq:Type:=Bool
def qMy:PArgs:=⟨[.agg [.int .i64,.int .i64]],[]⟩
def qOe:List PRes:=[⟨false,.bool,[]⟩]
def qmd (x0 x1:Int):DT qGq:=
 .br (x0 == 1)
 (.at (true))
 (.br (x0 == 2)
 (.bi (br (decide (x1 >= -1000000000000)) (some (decide (x1 <= 1000000000000))) (some false)) (fun y0=>
 .at (y0))
 (.no))
 (.br (x0 == 3)
 (.bi (br (decide (x1 >= -1000000000)) (some (decide (x1 <= 1000000000))) (some false)) (fun y0=>
 .at (y0))
 (.no))
 (.br (x0 == 4)
 (.bi (br (decide (x1 >= 0)) (some (decide (x1 <= 73048))) (some false)) (fun y0=>
 .at (y0))
 (.no))
 (.br (x0 == 5)
 (.bi (br (x1 == 0) (some true) (some (x1 == 1))) (fun y0=>
 .at (y0))
 (.no))
 (.at (false))))))
def qew (x0 x1:Int):Option qGq:=qay (qmd x0 x1).ev
theorem qDA (x0 x1):qew x0 x1 = (qmd x0 x1).ev:=qaa _
theorem qYi:FH IP 76 qMy qOe (k2 qew):=fh F76 (k2 qmd) qU2
def T90:Tab:=(76,FE qMy qOe (k2 qew)) :: T89
theorem qIE:qai IP T90:=⟨qaj qYi,qU2⟩
abbrev qfn:Type:=List AV × List AV × Int × Int
def qKE:List PSt:=[⟨[(1006300,.junk),(0,.view 2),(12,.view 2),(13,.int .i64),(14,.int .i64)],[],0,0⟩]
def qTn (x0 x1:List AV) (x2 x3:Int):X × St:=(.ret,⟨[(4,.bool false)],[],0,0⟩)
def qTo (x0 x1:List AV) (x2 x3:Int):X × St:=(.exit 0,⟨[(4,.junk)],[],0,0⟩)
def q5d:List (qfn -> X × St):=[(k4 qTn),(k4 qTo)]
def qqM (x0 x1:List AV) (x2 x3:Int):DT (Rd qfn):=
 .br (decide (x3 < x2))
 (.br (qaD [.int .i64,.int .i64] x1 x3)
 (.br (qaD [.str,.int .i64] x0 x3)
 (.br (intOf (cellAt x1 x3 0) != intOf (cellAt x0 x3 1))
 (.at (.done 0))
 (.bi (qew (intOf (cellAt x1 x3 0)) (intOf (cellAt x1 x3 1))) (fun y0=>
 .br (!y0) (.at (.done 0)) (.at (.next ((x0,x1,x2,IntKind.i64.wrap (x3 + 1))))))
 (.no)))
 (.no))
 (.no))
 (.at (.done 1))
def qqL:qfn -> DT (Rd qfn):=(fun v=>qqM v.1 v.2.1 v.2.2.1 v.2.2.2)
def qxd (v:qfn):Option (Nat × qfn):=qay (qap (fun v=>(qqL v).ev) v)
theorem qxe (v):qxd v = qap (fun v=>(qqL v).ev) v:=qaa _
def qLo:qbz:=LE (τ:=qfn) (hD qKE) (qxd) q5d
theorem q4z:Go.Eng.Told IP (qae F63 0).1 (qae F63 0).2 (qLo):=lp (inferInstance:Inhabited qfn) (hs:=qKE) qqL qIE qxe
abbrev qGo:Type:=Bool
def qMw:PArgs:=⟨[.view 2,.view 2],[]⟩
def qOc:List PRes:=[⟨false,.bool,[]⟩]
def qmb (x0 x1:List AV):DT qGo:=
 .br ((x0.length:Int) != (x1.length:Int))
 (.at (false))
 (.bi (pj 0 (qxd (x0,x1,(x1.length:Int),0))) (fun y0=>
 .at (false))
 (.bi (pj 1 (qxd (x0,x1,(x1.length:Int),0))) (fun y0=>
 .at (true))
 (.no)))
def qnW (x0 x1:List AV):Option qGo:=qay (qmb x0 x1).ev
theorem qDy (x0 x1):qnW x0 x1 = (qmb x0 x1).ev:=qaa _
theorem qYg:FH IP 63 qMw qOc (k2 qnW):=qag (F:=F63) (L:=[(1006300,qLo)]) (t:=(k2 qmb)) qIE (qab (l:=[qae F63 0]) (by kernel_rfl) ⟨qas (by kernel_rfl) q4z,trivial⟩) (by kernel_rfl) (fun v=>by kernel_rfl) (fun _=>qaa _)
def T91:Tab:=(63,FE qMw qOc (k2 qnW)) :: T90
theorem qvJ:qai IP T91:=⟨qaj qYg,qIE⟩
abbrev qdq:Type:=List AV × List AV × List AV × Int × Int × Int × Int × List UInt8 × List AV × Int × Int
def qBg:List PSt:=[⟨[(1006400,.junk),(1,.view 2),(2,.view 2),(3,.ref 0 0 0),(6,.ref 1 0 0),(36,.view 2),(37,.int .i64),(38,.int .i64)],[(0,.box [.int .i64,.int .i64,.str,.view 4] false),(1,.box [.int .i64,.int .i64] false)],2,0⟩]
def qQd (x0 x1 x2:List AV) (x3 x4:Int) (x5 x6:Int) (x7:List UInt8) (x8:List AV) (x9 x10:Int):X × St:=(.ret,
 ⟨[(1,.view 2 x0),(2,.view 2 x1),(3,.ref 0 0 0),(6,.ref 1 0 0),(7,.int .i64 0)],[(0,.box [.int .i64 x5,.int .i64 x6,.str x7,.view 4 x8] false),
 (1,.box [.int .i64 (intOf (cellAt x1 x4 0)),.int .i64 (intOf (cellAt x1 x4 1))] false)],2,0⟩)
def qQe (x0 x1 x2:List AV) (x3 x4:Int) (x5 x6:Int) (x7:List UInt8) (x8:List AV) (x9 x10:Int):X × St:=(.exit 1,
 ⟨[(1,.view 2 x0),(2,.view 2 x1),(3,.ref 0 0 0),(6,.ref 1 0 0),(7,.junk)],[(0,.box [.int .i64 x5,.int .i64 x6,.str x7,.view 4 x8] false),(1,.box [.int .i64 x9,.int .i64 x10] false)],2,0⟩)
def q0Z:List (qdq -> X × St):=[(k11 qQd),(k11 qQe)]
def qkx (x0 x1 x2:List AV) (x3 x4:Int) (x5 x6:Int) (x7:List UInt8) (x8:List AV) (x9 x10:Int):DT (Rd qdq):=
 .br (decide (x4 < x3))
 (.br (qaD [.str,.int .i64] x2 x4)
 (.br (strOf (cellAt x2 x4 0) == x7)
 (.br (qaD [.int .i64,.int .i64] x1 x4) (.at (.done 0)) (.no))
 (.at (.next ((x0,x1,x2,x3,IntKind.i64.wrap (x4 + 1),x5,x6,x7,x8,x9,x10)))))
 (.no))
 (.at (.done 1))
def qi8:qdq -> DT (Rd qdq):=(fun v=>qkx v.1 v.2.1 v.2.2.1 v.2.2.2.1 v.2.2.2.2.1 v.2.2.2.2.2.1 v.2.2.2.2.2.2.1 v.2.2.2.2.2.2.2.1 v.2.2.2.2.2.2.2.2.1 v.2.2.2.2.2.2.2.2.2.1 v.2.2.2.2.2.2.2.2.2.2)
def qoX (v:qdq):Option (Nat × qdq):=qay (qap (fun v=>(qi8 v).ev) v)
theorem qsq (v):qoX v = qap (fun v=>(qi8 v).ev) v:=qaa _
def qBW:qbz:=LE (τ:=qdq) (hD qBg) (qoX) q0Z
theorem q0s:Go.Eng.Told IP (qae F64 0).1 (qae F64 0).2 (qBW):=lp (inferInstance:Inhabited qdq) (hs:=qBg) qi8 qvJ qsq
abbrev qeu:Type:=(Int × List AV × List AV × Int × Int × Int × Int) ⊕ (Int × List AV × List AV × Int × Int × Int × Int × List AV)
def qKC:List PSt:=[⟨[(1007700,.junk),(0,.int .i64),(1,.view 2),(4,.ref 0 0 0),(6,.nils 1),(16,.view 2),(17,.int .i64),(18,.int .i64)],[(0,.box [.int .i64,.int .i64] false)],1,0⟩,⟨[(1007700,.junk),(0,.int .i64),(1,.view 2),(4,.ref 0 0 0),(6,.own 1 0),(16,.view 2),(17,.int .i64),(18,.int .i64)],[(0,.box [.int .i64,.int .i64] false),(1,.arr 1 false)],2,0⟩]
def qTj (x0:Int) (x1 x2:List AV) (x3 x4:Int) (x5 x6:Int):X × St:=(.exit 0,
 ⟨[(0,.int .i64 x0),(1,.view 2 x1),(4,.ref 0 0 0),(6,.nils ⟨1,.nil⟩)],[(0,.box [.int .i64 x5,.int .i64 x6] false)],1,0⟩)
def qTk (x0:Int) (x1 x2:List AV) (x3 x4:Int) (x5 x6:Int) (x7:List AV):X × St:=(.exit 0,
 ⟨[(0,.int .i64 x0),(1,.view 2 x1),(4,.ref 0 0 0),(6,.own 1 0 none)],[(0,.box [.int .i64 x5,.int .i64 x6] false),(1,.arr 1 x7 false)],2,0⟩)
def q5b:List (qeu -> X × St):=[fun w=>(k7 qTj) ((sl w)),fun w=>(k8 qTk) ((sr w))]
def qxY (x0:Int) (x1 x2:List AV) (x3 x4:Int) (x5 x6:Int):DT (Rd qeu):=
 .br (decide (x4 < x3))
 (.br (qaD [.int .i64,.int .i64] x2 x4)
 (.at (.next ((.inr (x0,x1,x2,x3,IntKind.i64.wrap (x4 + 1),x5,x6,[.int .i64 (intOf (cellAt x2 x4 0))])))))
 (.no))
 (.at (.done 0))
def qqJ (x0:Int) (x1 x2:List AV) (x3 x4:Int) (x5 x6:Int) (x7:List AV):DT (Rd qeu):=
 .br (decide (x4 < x3))
 (.br (qaD [.int .i64,.int .i64] x2 x4)
 (.br (room (x7.length + 1) 8) (.at (.next ((.inr (x0,x1,x2,x3,IntKind.i64.wrap (x4 + 1),x5,x6,x7 ++ [AV.int IntKind.i64 (intOf (cellAt x2 x4 0))]))))) (.no))
 (.no))
 (.at (.done 1))
def qkO:qeu -> DT (Rd qeu):=(Sum.elim (fun v=>qxY v.1 v.2.1 v.2.2.1 v.2.2.2.1 v.2.2.2.2.1 v.2.2.2.2.2.1 v.2.2.2.2.2.2) (fun v=>qqJ v.1 v.2.1 v.2.2.1 v.2.2.2.1 v.2.2.2.2.1 v.2.2.2.2.2.1 v.2.2.2.2.2.2.1 v.2.2.2.2.2.2.2))
def qpa (v:qeu):Option (Nat × qeu):=qay (qap (fun v=>(qkO v).ev) v)
theorem qdU (v):qpa v = qap (fun v=>(qkO v).ev) v:=qaa _
def qLm:qbz:=LE (τ:=qeu) (hD qKC) (qpa) q5b
theorem q4x:Go.Eng.Told IP (qae F77 0).1 (qae F77 0).2 (qLm):=qar (inferInstance:Inhabited qeu) (hs:=qKC) (st:=qkO) (L:=[]) qvJ (qab (l:=[]) (by kernel_rfl) trivial) (qdU) (fun v=>match v with | (.inl v)=>by kernel_rfl | (.inr v)=>by kernel_rfl) (fun v=>match v with | (.inl v)=>by kernel_rfl | (.inr v)=>by kernel_rfl)
abbrev qfm:Type:=Int × List AV × Int × List AV × Int × Int × Int × Int
def qKD:List PSt:=[⟨[(1007701,.junk),(0,.int .i64),(1,.view 2),(4,.ref 0 0 0),(9,.int .i64),(37,.view 2),(38,.int .i64),(39,.int .i64)],[(0,.box [.int .i64,.int .i64] false)],1,0⟩]
def qTl (x0:Int) (x1:List AV) (x2:Int) (x3:List AV) (x4 x5:Int) (x6 x7:Int):X × St:=(.ret,
 ⟨[(0,.int .i64 x0),(1,.view 2 x1),(4,.ref 0 0 0),(5,.int .i64 1),(9,.int .i64 x2)],[(0,.box [.int .i64 0,.int .i64 0] false)],1,0⟩)
def qTm (x0:Int) (x1:List AV) (x2:Int) (x3:List AV) (x4 x5:Int) (x6 x7:Int):X × St:=(.exit 2,
 ⟨[(0,.int .i64 x0),(1,.view 2 x1),(4,.ref 0 0 0),(5,.junk),(9,.int .i64 x2)],[(0,.box [.int .i64 x6,.int .i64 x7] false)],1,0⟩)
def q5c:List (qfm -> X × St):=[(k8 qTl),(k8 qTm)]
def qqK (x0:Int) (x1:List AV) (x2:Int) (x3:List AV) (x4 x5:Int) (x6 x7:Int):DT (Rd qfm):=
 .br (decide (x5 < x4))
 (.br (qaD [.int .i64,.int .i64] x3 x5)
 (.bi (qew (intOf (cellAt x3 x5 0)) (intOf (cellAt x3 x5 1))) (fun y0=>
 .br (!y0) (.at (.done 0)) (.at (.next ((x0,x1,x2,x3,x4,IntKind.i64.wrap (x5 + 1),x6,x7)))))
 (.no))
 (.no))
 (.at (.done 1))
def qkP:qfm -> DT (Rd qfm):=(fun v=>qqK v.1 v.2.1 v.2.2.1 v.2.2.2.1 v.2.2.2.2.1 v.2.2.2.2.2.1 v.2.2.2.2.2.2.1 v.2.2.2.2.2.2.2)
def qpb (v:qfm):Option (Nat × qfm):=qay (qap (fun v=>(qkP v).ev) v)
theorem qgw (v):qpb v = qap (fun v=>(qkP v).ev) v:=qaa _
def qLn:qbz:=LE (τ:=qfm) (hD qKD) (qpb) q5c
theorem q4y:Go.Eng.Told IP (qae F77 1).1 (qae F77 1).2 (qLn):=lp (inferInstance:Inhabited qfm) (hs:=qKD) qkP qvJ qgw
abbrev qGp:Type:=Int
def qMx:PArgs:=⟨[.bool],[]⟩
def qOd:List PRes:=[⟨false,.int .i64,[]⟩]
def qmc (x0:Bool):DT qGp:=
 .br (x0) (.at (1)) (.at (0))
def qgm (x0:Bool):Option qGp:=qay (qmc x0).ev
theorem qDz (x0):qgm x0 = (qmc x0).ev:=qaa _
theorem qYh:FH IP 114 qMx qOd qgm:=fh q5O qmc qvJ
def T92:Tab:=(114,FE qMx qOd qgm) :: T91
theorem qU3:qai IP T92:=⟨qaj qYh,qvJ⟩
end
end Go.Proofs.H15p

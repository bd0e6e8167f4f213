/- Functions over plain data. Printed by a program of mine. -/
import Derived.Test.YtpoebijgpbaccaaGreatD53z_3
import Derived.KernelRfl
set_option linter.unusedVariables false
set_option linter.unusedSimpArgs false
set_option linter.unnecessarySimpa false
namespace Go.Proofs.H53z
open Go Go.Eng
set_option maxRecDepth 100000
noncomputable section
abbrev qDT:Type:=Int
def qJJ:PArgs:=⟨[.agg [.str,.int .i64,.int .i64,.int .i64,.str,.view 4,.int .i64,.int .i64,.str,.view 4]],[]⟩
def qK3:List PRes:=[⟨false,.int .i64,[]⟩]
def qle (x0:List UInt8) (x1 x2 x3:Int) (x4:List UInt8) (x5:List AV) (x6 x7:Int) (x8:List UInt8) (x9:List AV):DT qDT:=
 .bi (qdE x0) (fun y0=>
 .br (!y0)
 (.at (4))
 (.bi (br (decide (x1 < 1)) (some true) (some (decide (x1 > 4)))) (fun y1=>
 .br (y1)
 (.at (1))
 (.bi (qhd) (fun y2=>
 .bi (qha x2 x3 x4 x5 y2 5) (fun y3=>
 .br (y3 != 0)
 (.at (y3))
 (.bi (qhd) (fun y4=>
 .bi (qha x6 x7 x8 x9 y4 2) (fun y5=>
 .at (y5))
 (.no))
 (.no)))
 (.no))
 (.no)))
 (.no)))
 (.no)
def qhi (x0:List UInt8) (x1 x2 x3:Int) (x4:List UInt8) (x5:List AV) (x6 x7:Int) (x8:List UInt8) (x9:List AV):Option qDT:=qaC (qle x0 x1 x2 x3 x4 x5 x6 x7 x8 x9).ev
theorem qBC (x0 x1 x2 x3 x4 x5 x6 x7 x8 x9):qhi x0 x1 x2 x3 x4 x5 x6 x7 x8 x9 = (qle x0 x1 x2 x3 x4 x5 x6 x7 x8 x9).ev:=qaa _
theorem qUL:FH IP 49 qJJ qK3 (k10 qhi):=fh F49 (k10 qle) qRn
def T47:Tab:=(49,FE qJJ qK3 (k10 qhi)) :: T46
theorem qEg:qau IP T47:=⟨qay qUL,qRn⟩
abbrev qd3:Type:=Int × List UInt8 × List UInt8 × List UInt8 × Int × Int × Int × Int × List AV × Bool × Int × Int × Bool × List AV × Bool × Int × Int × Bool × List AV × List AV
def qGo:List PSt:=[⟨[(1001800,.junk),(3,.ref 0 0 0),(14,.int .i64)],[(0,.box [.str,.str,.str,.int .i64,.int .i64,.int .i64,.int .i64,.view 2,.bool,.int .i64,.int .i64,.bool,.view 2,.bool,.int .i64,.int .i64,.bool,.view 10,.view 6] false)],1,0⟩]
def qPA (x0:Int) (x1 x2 x3:List UInt8) (x4 x5:Int) (x6 x7:Int) (x8:List AV) (x9:Bool) (x10 x11:Int) (x12:Bool) (x13:List AV) (x14:Bool) (x15 x16:Int) (x17:Bool) (x18 x19:List AV):X × St:=(.ret,
 ⟨[(3,.ref 0 0 0),
 (6,
 .int .i64
 (gv
 (qhi (strOf (cellAt x18 x0 0)) (intOf (cellAt x18 x0 1)) (intOf (cellAt x18 x0 2)) (intOf (cellAt x18 x0 3)) (strOf (cellAt x18 x0 4))
 (qat (cellAt x18 x0 5)) (intOf (cellAt x18 x0 6)) (intOf (cellAt x18 x0 7)) (strOf (cellAt x18 x0 8)) (qat (cellAt x18 x0 9)))))],[(0,
 .box
 [.str x1,.str x2,.str x3,.int .i64 x4,.int .i64 x5,.int .i64 x6,.int .i64 x7,.view 2 x8,.bool x9,
 .int .i64 x10,.int .i64 x11,.bool x12,.view 2 x13,.bool x14,.int .i64 x15,.int .i64 x16,.bool x17,.view 10 x18,
 .view 6 x19]
 false)],1,0⟩)
def qPB (x0:Int) (x1 x2 x3:List UInt8) (x4 x5:Int) (x6 x7:Int) (x8:List AV) (x9:Bool) (x10 x11:Int) (x12:Bool) (x13:List AV) (x14:Bool) (x15 x16:Int) (x17:Bool) (x18 x19:List AV):X × St:=(.exit 0,
 ⟨[(3,.ref 0 0 0),(6,.junk)],[(0,
 .box
 [.str x1,.str x2,.str x3,.int .i64 x4,.int .i64 x5,.int .i64 x6,.int .i64 x7,.view 2 x8,.bool x9,
 .int .i64 x10,.int .i64 x11,.bool x12,.view 2 x13,.bool x14,.int .i64 x15,.int .i64 x16,.bool x17,.view 10 x18,
 .view 6 x19]
 false)],1,0⟩)
def q1M:List (qd3 -> X × St):=[(k20 qPA),(k20 qPB)]
def qnT (x0:Int) (x1 x2 x3:List UInt8) (x4 x5:Int) (x6 x7:Int) (x8:List AV) (x9:Bool) (x10 x11:Int) (x12:Bool) (x13:List AV) (x14:Bool) (x15 x16:Int) (x17:Bool) (x18 x19:List AV):DT (Rd qd3):=
 .br (decide (x0 < (x18.length:Int)))
 (.br (qaw [.str,.int .i64,.int .i64,.int .i64,.str,.slice 4,.int .i64,.int .i64,.str,.slice 4] x18 x0)
 (.bi (qhi (strOf (cellAt x18 x0 0)) (intOf (cellAt x18 x0 1)) (intOf (cellAt x18 x0 2)) (intOf (cellAt x18 x0 3)) (strOf (cellAt x18 x0 4)) (qat (cellAt x18 x0 5))
 (intOf (cellAt x18 x0 6)) (intOf (cellAt x18 x0 7)) (strOf (cellAt x18 x0 8)) (qat (cellAt x18 x0 9))) (fun y0=>
 .br (y0 != 0) (.at (.done 0)) (.at (.next ((IntKind.i64.wrap (x0 + 1),x1,x2,x3,x4,x5,x6,x7,x8,x9,x10,x11,x12,x13,x14,x15,x16,x17,x18,x19)))))
 (.no))
 (.no))
 (.at (.done 1))
def qjl:qd3 -> DT (Rd qd3):=(fun v=>qnT v.1 v.2.1 v.2.2.1 v.2.2.2.1 v.2.2.2.2.1 v.2.2.2.2.2.1 v.2.2.2.2.2.2.1 v.2.2.2.2.2.2.2.1 v.2.2.2.2.2.2.2.2.1 v.2.2.2.2.2.2.2.2.2.1 v.2.2.2.2.2.2.2.2.2.2.1 v.2.2.2.2.2.2.2.2.2.2.2.1 v.2.2.2.2.2.2.2.2.2.2.2.2.1 v.2.2.2.2.2.2.2.2.2.2.2.2.2.1 v.2.2.2.2.2.2.2.2.2.2.2.2.2.2.1 v.2.2.2.2.2.2.2.2.2.2.2.2.2.2.2.1 v.2.2.2.2.2.2.2.2.2.2.2.2.2.2.2.2.1 v.2.2.2.2.2.2.2.2.2.2.2.2.2.2.2.2.2.1 v.2.2.2.2.2.2.2.2.2.2.2.2.2.2.2.2.2.2.1 v.2.2.2.2.2.2.2.2.2.2.2.2.2.2.2.2.2.2.2)
def qtP (v:qd3):Option (Nat × qd3):=qaC (qah (fun v=>(qjl v).ev) v)
theorem qtQ (v):qtP v = qah (fun v=>(qjl v).ev) v:=qaa _
def qHA:qbi:=LE (τ:=qd3) (hD qGo) (qtP) q1M
theorem q0H:Go.Eng.Told IP (qab F18 0).1 (qab F18 0).2 (qHA):=lp (inferInstance:Inhabited qd3) (hs:=qGo) qjl qEg qtQ
abbrev qDH:Type:=Int
def qJw:PArgs:=⟨[.agg [.str,.int .i64,.int .i64,.int .i64,.str,.view 4]],[]⟩
def qKQ:List PRes:=[⟨false,.int .i64,[]⟩]
def qkY (x0:List UInt8) (x1 x2 x3:Int) (x4:List UInt8) (x5:List AV):DT qDH:=
 .bi (qdE x0) (fun y0=>
 .br (!y0)
 (.at (4))
 (.bi (br (decide (x1 < 1)) (some true) (some (decide (x1 > 3)))) (fun y1=>
 .br (y1)
 (.at (1))
 (.bi (qhd) (fun y2=>
 .bi (qha x2 x3 x4 x5 y2 2) (fun y3=>
 .at (y3))
 (.no))
 (.no)))
 (.no)))
 (.no)
def qhe (x0:List UInt8) (x1 x2 x3:Int) (x4:List UInt8) (x5:List AV):Option qDH:=qaC (qkY x0 x1 x2 x3 x4 x5).ev
theorem qBp (x0 x1 x2 x3 x4 x5):qhe x0 x1 x2 x3 x4 x5 = (qkY x0 x1 x2 x3 x4 x5).ev:=qaa _
theorem qUy:FH IP 50 qJw qKQ (k6 qhe):=fh F50 (k6 qkY) qEg
def T48:Tab:=(50,FE qJw qKQ (k6 qhe)) :: T47
theorem qEh:qau IP T48:=⟨qay qUy,qEg⟩
abbrev qeX:Type:=Int × List UInt8 × List UInt8 × List UInt8 × Int × Int × Int × Int × List AV × Bool × Int × Int × Bool × List AV × Bool × Int × Int × Bool × List AV × List AV
def qGp:List PSt:=[⟨[(1001801,.junk),(3,.ref 0 0 0),(16,.int .i64)],[(0,.box [.str,.str,.str,.int .i64,.int .i64,.int .i64,.int .i64,.view 2,.bool,.int .i64,.int .i64,.bool,.view 2,.bool,.int .i64,.int .i64,.bool,.view 10,.view 6] false)],1,0⟩]
def qPC (x0:Int) (x1 x2 x3:List UInt8) (x4 x5:Int) (x6 x7:Int) (x8:List AV) (x9:Bool) (x10 x11:Int) (x12:Bool) (x13:List AV) (x14:Bool) (x15 x16:Int) (x17:Bool) (x18 x19:List AV):X × St:=(.ret,
 ⟨[(6,
 .int .i64
 (gv
 (qhe (strOf (cellAt x19 x0 0)) (intOf (cellAt x19 x0 1)) (intOf (cellAt x19 x0 2)) (intOf (cellAt x19 x0 3)) (strOf (cellAt x19 x0 4))
 (qat (cellAt x19 x0 5)))))],[],0,0⟩)
def qPD (x0:Int) (x1 x2 x3:List UInt8) (x4 x5:Int) (x6 x7:Int) (x8:List AV) (x9:Bool) (x10 x11:Int) (x12:Bool) (x13:List AV) (x14:Bool) (x15 x16:Int) (x17:Bool) (x18 x19:List AV):X × St:=(.exit 2,⟨[(6,.junk)],[],0,0⟩)
def q1N:List (qeX -> X × St):=[(k20 qPC),(k20 qPD)]
def qnU (x0:Int) (x1 x2 x3:List UInt8) (x4 x5:Int) (x6 x7:Int) (x8:List AV) (x9:Bool) (x10 x11:Int) (x12:Bool) (x13:List AV) (x14:Bool) (x15 x16:Int) (x17:Bool) (x18 x19:List AV):DT (Rd qeX):=
 .br (decide (x0 < (x19.length:Int)))
 (.br (qaw [.str,.int .i64,.int .i64,.int .i64,.str,.slice 4] x19 x0)
 (.bi (qhe (strOf (cellAt x19 x0 0)) (intOf (cellAt x19 x0 1)) (intOf (cellAt x19 x0 2)) (intOf (cellAt x19 x0 3)) (strOf (cellAt x19 x0 4)) (qat (cellAt x19 x0 5))) (fun y0=>
 .br (y0 != 0) (.at (.done 0)) (.at (.next ((IntKind.i64.wrap (x0 + 1),x1,x2,x3,x4,x5,x6,x7,x8,x9,x10,x11,x12,x13,x14,x15,x16,x17,x18,x19)))))
 (.no))
 (.no))
 (.at (.done 1))
def qjm:qeX -> DT (Rd qeX):=(fun v=>qnU v.1 v.2.1 v.2.2.1 v.2.2.2.1 v.2.2.2.2.1 v.2.2.2.2.2.1 v.2.2.2.2.2.2.1 v.2.2.2.2.2.2.2.1 v.2.2.2.2.2.2.2.2.1 v.2.2.2.2.2.2.2.2.2.1 v.2.2.2.2.2.2.2.2.2.2.1 v.2.2.2.2.2.2.2.2.2.2.2.1 v.2.2.2.2.2.2.2.2.2.2.2.2.1 v.2.2.2.2.2.2.2.2.2.2.2.2.2.1 v.2.2.2.2.2.2.2.2.2.2.2.2.2.2.1 v.2.2.2.2.2.2.2.2.2.2.2.2.2.2.2.1 v.2.2.2.2.2.2.2.2.2.2.2.2.2.2.2.2.1 v.2.2.2.2.2.2.2.2.2.2.2.2.2.2.2.2.2.1 v.2.2.2.2.2.2.2.2.2.2.2.2.2.2.2.2.2.2.1 v.2.2.2.2.2.2.2.2.2.2.2.2.2.2.2.2.2.2.2)
def qtR (v:qeX):Option (Nat × qeX):=qaC (qah (fun v=>(qjm v).ev) v)
theorem qtS (v):qtR v = qah (fun v=>(qjm v).ev) v:=qaa _
def qHB:qbi:=LE (τ:=qeX) (hD qGp) (qtR) q1N
theorem q0I:Go.Eng.Told IP (qab F18 1).1 (qab F18 1).2 (qHB):=lp (inferInstance:Inhabited qeX) (hs:=qGp) qjm qEh qtS
abbrev qDc:Type:=Int
def qI1:PArgs:=⟨[.agg [.str,.str,.str,.int .i64,.int .i64,.int .i64,.int .i64,.view 2,.bool,.int .i64,.int .i64,.bool,.view 2,.bool,.int .i64,.int .i64,.bool,.view 10,.view 6],.view 2,.view 3],[]⟩
def qKl:List PRes:=[⟨false,.int .i64,[]⟩]
def qkt (x0 x1 x2:List UInt8) (x3 x4:Int) (x5 x6:Int) (x7:List AV) (x8:Bool) (x9 x10:Int) (x11:Bool) (x12:List AV) (x13:Bool) (x14 x15:Int) (x16:Bool) (x17 x18:List AV) (x19 x20:List AV):DT qDc:=
 .bi (qdE x0) (fun y0=>
 .br (!y0)
 (.at (4))
 (.bi (qiH x19 x1) (fun y1=>
 .br (!y1.2.2)
 (.at (14))
 (.bi (ql8 x20 x2) (fun y2=>
 .br (!y2.2.2.2)
 (.at (11))
 (.bi (br (x4 == 1) (some true) (some (x4 == 3))) (fun y3=>
 .bi (br y3 (some true) (some (x4 == 6))) (fun y4=>
 .bi (br y4 (some true) (some (x4 == 12))) (fun y5=>
 .bi (qbf x3) (fun y6=>
 .bi (br (!y6) (some true) (some !y5)) (fun y7=>
 .bi (br y7 (some true) (some (decide (x5 < 0)))) (fun y8=>
 .bi (br y8 (some true) (some (decide (x5 > 1000000000000)))) (fun y9=>
 .bi (br y9 (some true) (some (decide (x6 < 0)))) (fun y10=>
 .bi (br y10 (some true) (some (decide (x6 > 1000000)))) (fun y11=>
 .br (y11)
 (.at (1))
 (.bi (qoG x7 x8 x9 x10 x11) (fun y12=>
 .br (y12 != 0)
 (.at (y12))
 (.bi (qoG x12 x13 x14 x15 x16) (fun y13=>
 .br (y13 != 0)
 (.at (y13))
 (.bi (br (decide ((x17.length:Int) > 4)) (some true) (some (decide ((x18.length:Int) > 4)))) (fun y14=>
 .br (y14)
 (.at (5))
 (.bi (pj 0 (qtP (0,x0,x1,x2,x3,x4,x5,x6,x7,x8,x9,x10,x11,x12,x13,x14,x15,x16,x17,x18))) (fun y15=>
 .at (gv
 (qhi (strOf (cellAt y15.2.2.2.2.2.2.2.2.2.2.2.2.2.2.2.2.2.2.1 y15.1 0))
 (intOf (cellAt y15.2.2.2.2.2.2.2.2.2.2.2.2.2.2.2.2.2.2.1 y15.1 1))
 (intOf (cellAt y15.2.2.2.2.2.2.2.2.2.2.2.2.2.2.2.2.2.2.1 y15.1 2))
 (intOf (cellAt y15.2.2.2.2.2.2.2.2.2.2.2.2.2.2.2.2.2.2.1 y15.1 3))
 (strOf (cellAt y15.2.2.2.2.2.2.2.2.2.2.2.2.2.2.2.2.2.2.1 y15.1 4))
 (qat (cellAt y15.2.2.2.2.2.2.2.2.2.2.2.2.2.2.2.2.2.2.1 y15.1 5))
 (intOf (cellAt y15.2.2.2.2.2.2.2.2.2.2.2.2.2.2.2.2.2.2.1 y15.1 6))
 (intOf (cellAt y15.2.2.2.2.2.2.2.2.2.2.2.2.2.2.2.2.2.2.1 y15.1 7))
 (strOf (cellAt y15.2.2.2.2.2.2.2.2.2.2.2.2.2.2.2.2.2.2.1 y15.1 8))
 (qat (cellAt y15.2.2.2.2.2.2.2.2.2.2.2.2.2.2.2.2.2.2.1 y15.1 9)))))
 (.bi (pj 1 (qtP (0,x0,x1,x2,x3,x4,x5,x6,x7,x8,x9,x10,x11,x12,x13,x14,x15,x16,x17,x18))) (fun y15=>
 .bi (pj 0
 (qtR
 (0,y15.2.1,y15.2.2.1,y15.2.2.2.1,y15.2.2.2.2.1,y15.2.2.2.2.2.1,y15.2.2.2.2.2.2.1,
 y15.2.2.2.2.2.2.2.1,y15.2.2.2.2.2.2.2.2.1,y15.2.2.2.2.2.2.2.2.2.1,y15.2.2.2.2.2.2.2.2.2.2.1,
 y15.2.2.2.2.2.2.2.2.2.2.2.1,y15.2.2.2.2.2.2.2.2.2.2.2.2.1,y15.2.2.2.2.2.2.2.2.2.2.2.2.2.1,
 y15.2.2.2.2.2.2.2.2.2.2.2.2.2.2.1,y15.2.2.2.2.2.2.2.2.2.2.2.2.2.2.2.1,
 y15.2.2.2.2.2.2.2.2.2.2.2.2.2.2.2.2.1,y15.2.2.2.2.2.2.2.2.2.2.2.2.2.2.2.2.2.1,
 y15.2.2.2.2.2.2.2.2.2.2.2.2.2.2.2.2.2.2.1,y15.2.2.2.2.2.2.2.2.2.2.2.2.2.2.2.2.2.2.2))) (fun y16=>
 .at (gv
 (qhe (strOf (cellAt y16.2.2.2.2.2.2.2.2.2.2.2.2.2.2.2.2.2.2.2 y16.1 0))
 (intOf (cellAt y16.2.2.2.2.2.2.2.2.2.2.2.2.2.2.2.2.2.2.2 y16.1 1))
 (intOf (cellAt y16.2.2.2.2.2.2.2.2.2.2.2.2.2.2.2.2.2.2.2 y16.1 2))
 (intOf (cellAt y16.2.2.2.2.2.2.2.2.2.2.2.2.2.2.2.2.2.2.2 y16.1 3))
 (strOf (cellAt y16.2.2.2.2.2.2.2.2.2.2.2.2.2.2.2.2.2.2.2 y16.1 4))
 (qat (cellAt y16.2.2.2.2.2.2.2.2.2.2.2.2.2.2.2.2.2.2.2 y16.1 5)))))
 (.bi (pj 1
 (qtR
 (0,y15.2.1,y15.2.2.1,y15.2.2.2.1,y15.2.2.2.2.1,y15.2.2.2.2.2.1,y15.2.2.2.2.2.2.1,
 y15.2.2.2.2.2.2.2.1,y15.2.2.2.2.2.2.2.2.1,y15.2.2.2.2.2.2.2.2.2.1,y15.2.2.2.2.2.2.2.2.2.2.1,
 y15.2.2.2.2.2.2.2.2.2.2.2.1,y15.2.2.2.2.2.2.2.2.2.2.2.2.1,y15.2.2.2.2.2.2.2.2.2.2.2.2.2.1,
 y15.2.2.2.2.2.2.2.2.2.2.2.2.2.2.1,y15.2.2.2.2.2.2.2.2.2.2.2.2.2.2.2.1,
 y15.2.2.2.2.2.2.2.2.2.2.2.2.2.2.2.2.1,y15.2.2.2.2.2.2.2.2.2.2.2.2.2.2.2.2.2.1,
 y15.2.2.2.2.2.2.2.2.2.2.2.2.2.2.2.2.2.2.1,y15.2.2.2.2.2.2.2.2.2.2.2.2.2.2.2.2.2.2.2))) (fun y16=>
 .at (0))
 (.no)))
 (.no))))
 (.no)))
 (.no)))
 (.no)))
 (.no))
 (.no))
 (.no))
 (.no))
 (.no))
 (.no))
 (.no))
 (.no))
 (.no)))
 (.no)))
 (.no)))
 (.no)
def qlW (x0 x1 x2:List UInt8) (x3 x4:Int) (x5 x6:Int) (x7:List AV) (x8:Bool) (x9 x10:Int) (x11:Bool) (x12:List AV) (x13:Bool) (x14 x15:Int) (x16:Bool) (x17 x18:List AV) (x19 x20:List AV):Option qDc:=qaC (qkt x0 x1 x2 x3 x4 x5 x6 x7 x8 x9 x10 x11 x12 x13 x14 x15 x16 x17 x18 x19 x20).ev
theorem qAR (x0 x1 x2 x3 x4 x5 x6 x7 x8 x9 x10 x11 x12 x13 x14 x15 x16 x17 x18 x19 x20):qlW x0 x1 x2 x3 x4 x5 x6 x7 x8 x9 x10 x11 x12 x13 x14 x15 x16 x17 x18 x19 x20 = (qkt x0 x1 x2 x3 x4 x5 x6 x7 x8 x9 x10 x11 x12 x13 x14 x15 x16 x17 x18 x19 x20).ev:=qaa _
theorem qT3:FH IP 18 qI1 qKl (k21 qlW):=qam (F:=F18) (L:=[(1001800,qHA),(1001801,qHB)]) (t:=(k21 qkt)) qEh (qae (l:=[qab F18 0,qab F18 1]) (by kernel_rfl) ⟨qal (by kernel_rfl) q0H,qal (by kernel_rfl) q0I,trivial⟩) (by kernel_rfl) (fun v=>by kernel_rfl) (fun _=>qaa _)
def T49:Tab:=(18,FE qI1 qKl (k21 qlW)) :: T48
theorem qsx:qau IP T49:=⟨qay qT3,qEh⟩
abbrev qfj:Type:=Int × List AV × List AV × List AV × Int × Int × Int × Int × Int × Int × Int × Int × Int × Int × Int × Int × Int × Int × List AV × List AV × List AV × List AV × List AV
def qGL:List PSt:=[⟨[(1000601,.junk),(1,.ref 0 0 0),(4,.int .i64)],[(0,.box [.view 2,.view 3,.view 4,.int .i64,.int .i64,.int .i64,.int .i64,.int .i64,.int .i64,.int .i64,.int .i64,.int .i64,.int .i64,.int .i64,.int .i64,.int .i64,.int .i64,.view 19,.view 7,.view 10,.view 6,.view 7] false)],1,0⟩]
def qQs (x0:Int) (x1 x2 x3:List AV) (x4 x5:Int) (x6 x7:Int) (x8 x9:Int) (x10 x11:Int) (x12 x13:Int) (x14 x15:Int) (x16 x17:Int) (x18 x19:List AV) (x20 x21 x22:List AV):X × St:=(.ret,
 ⟨[(1,.ref 0 0 0),(2,.bool false)],[(0,
 .box
 [.view 2 x1,.view 3 x2,.view 4 x3,.int .i64 x4,.int .i64 x5,.int .i64 x6,.int .i64 x7,.int .i64 x8,
 .int .i64 x9,.int .i64 x10,.int .i64 x11,.int .i64 x12,.int .i64 x13,.int .i64 x14,.int .i64 x15,
 .int .i64 x16,.int .i64 x17,.view 19 x18,.view 7 x19,.view 10 x20,.view 6 x21,.view 7 x22]
 false)],1,0⟩)
def qQt (x0:Int) (x1 x2 x3:List AV) (x4 x5:Int) (x6 x7:Int) (x8 x9:Int) (x10 x11:Int) (x12 x13:Int) (x14 x15:Int) (x16 x17:Int) (x18 x19:List AV) (x20 x21 x22:List AV):X × St:=(.exit 2,
 ⟨[(1,.ref 0 0 0),(2,.junk)],[(0,
 .box
 [.view 2 x1,.view 3 x2,.view 4 x3,.int .i64 x4,.int .i64 x5,.int .i64 x6,.int .i64 x7,.int .i64 x8,
 .int .i64 x9,.int .i64 x10,.int .i64 x11,.int .i64 x12,.int .i64 x13,.int .i64 x14,.int .i64 x15,
 .int .i64 x16,.int .i64 x17,.view 19 x18,.view 7 x19,.view 10 x20,.view 6 x21,.view 7 x22]
 false)],1,0⟩)
def q2b:List (qfj -> X × St):=[(k23 qQs),(k23 qQt)]
def qvK (x0:Int) (x1 x2 x3:List AV) (x4 x5:Int) (x6 x7:Int) (x8 x9:Int) (x10 x11:Int) (x12 x13:Int) (x14 x15:Int) (x16 x17:Int) (x18 x19:List AV) (x20 x21 x22:List AV):DT (Rd qfj):=
 .br (decide (x0 < (x18.length:Int)))
 (.br (qaw
 [CS.str,CS.str,CS.str,CS.int IntKind.i64,CS.int IntKind.i64,CS.int IntKind.i64,CS.int IntKind.i64,CS.slice 2,CS.bool,CS.int IntKind.i64,CS.int IntKind.i64,CS.bool,
 CS.slice 2,CS.bool,CS.int IntKind.i64,CS.int IntKind.i64,CS.bool,CS.slice 10,CS.slice 6]
 x18 x0)
 (.bi (qlW (strOf (cellAt x18 x0 0)) (strOf (cellAt x18 x0 1)) (strOf (cellAt x18 x0 2)) (intOf (cellAt x18 x0 3)) (intOf (cellAt x18 x0 4)) (intOf (cellAt x18 x0 5))
 (intOf (cellAt x18 x0 6)) (qat (cellAt x18 x0 7)) (qbg (cellAt x18 x0 8)) (intOf (cellAt x18 x0 9)) (intOf (cellAt x18 x0 10)) (qbg (cellAt x18 x0 11))
 (qat (cellAt x18 x0 12)) (qbg (cellAt x18 x0 13)) (intOf (cellAt x18 x0 14)) (intOf (cellAt x18 x0 15)) (qbg (cellAt x18 x0 16)) (qat (cellAt x18 x0 17))
 (qat (cellAt x18 x0 18)) x1 x2) (fun y0=>
 .br (y0 != 0)
 (.at (.done 0))
 (.at (.next ((IntKind.i64.wrap (x0 + 1),x1,x2,x3,x4,x5,x6,x7,x8,x9,x10,x11,x12,x13,x14,x15,x16,x17,x18,x19,x20,x21,x22)))))
 (.no))
 (.no))
 (.at (.done 1))
def qry:qfj -> DT (Rd qfj):=(fun v=>qvK v.1 v.2.1 v.2.2.1 v.2.2.2.1 v.2.2.2.2.1 v.2.2.2.2.2.1 v.2.2.2.2.2.2.1 v.2.2.2.2.2.2.2.1 v.2.2.2.2.2.2.2.2.1 v.2.2.2.2.2.2.2.2.2.1 v.2.2.2.2.2.2.2.2.2.2.1 v.2.2.2.2.2.2.2.2.2.2.2.1 v.2.2.2.2.2.2.2.2.2.2.2.2.1 v.2.2.2.2.2.2.2.2.2.2.2.2.2.1 v.2.2.2.2.2.2.2.2.2.2.2.2.2.2.1 v.2.2.2.2.2.2.2.2.2.2.2.2.2.2.2.1 v.2.2.2.2.2.2.2.2.2.2.2.2.2.2.2.2.1 v.2.2.2.2.2.2.2.2.2.2.2.2.2.2.2.2.2.1 v.2.2.2.2.2.2.2.2.2.2.2.2.2.2.2.2.2.2.1 v.2.2.2.2.2.2.2.2.2.2.2.2.2.2.2.2.2.2.2.1 v.2.2.2.2.2.2.2.2.2.2.2.2.2.2.2.2.2.2.2.2.1 v.2.2.2.2.2.2.2.2.2.2.2.2.2.2.2.2.2.2.2.2.2.1 v.2.2.2.2.2.2.2.2.2.2.2.2.2.2.2.2.2.2.2.2.2.2)
def qut (v:qfj):Option (Nat × qfj):=qaC (qah (fun v=>(qry v).ev) v)
theorem quu (v):qut v = qah (fun v=>(qry v).ev) v:=qaa _
def qHX:qbi:=LE (τ:=qfj) (hD qGL) (qut) q2b
theorem q04:Go.Eng.Told IP (qab F6 1).1 (qab F6 1).2 (qHX):=lp (inferInstance:Inhabited qfj) (hs:=qGL) qry qsx quu
abbrev qeJ:Type:=Int × List UInt8 × Int
def qF8:List PSt:=[⟨[(1008300,.junk),(0,.int .i64),(3,.str),(4,.int .i64)],[],0,0⟩]
def qO5 (x0:Int) (x1:List UInt8) (x2:Int):X × St:=(.exit 0,⟨[(3,.str x1)],[],0,0⟩)
def q1w:List (qeJ -> X × St):=[(k3 qO5)]
def qvk (x0:Int) (x1:List UInt8) (x2:Int):DT (Rd qeJ):=
 .br (decide (x2 < 8))
 (.br (leB (IntKind.i64.wrap (x0.tmod 10 + 1)) 10 && leB (x0.tmod 10) (IntKind.i64.wrap (x0.tmod 10 + 1)).toNat)
 (.br (decide
 ((List.take ((IntKind.i64.wrap (x0.tmod 10 + 1)).toNat - (x0.tmod 10).toNat) (List.drop (x0.tmod 10).toNat ([48,49,50,51,52,53,54,55,56,57]:List UInt8))).length + x1.length <=
 4611686018427387904))
 (.at (.next ((IntKind.i64.wrap (x0.tdiv 10),List.take ((IntKind.i64.wrap (x0.tmod 10 + 1)).toNat - (x0.tmod 10).toNat) (List.drop (x0.tmod 10).toNat ([48,49,50,51,52,53,54,55,56,57]:List UInt8)) ++ x1,IntKind.i64.wrap (x2 + 1)))))
 (.no))
 (.no))
 (.at (.done 0))
def qq5:qeJ -> DT (Rd qeJ):=(fun v=>qvk v.1 v.2.1 v.2.2)
def qy5 (v:qeJ):Option (Nat × qeJ):=qaC (qah (fun v=>(qq5 v).ev) v)
theorem qtw (v):qy5 v = qah (fun v=>(qq5 v).ev) v:=qaa _
def qHk:qbi:=LE (τ:=qeJ) (hD qF8) (qy5) q1w
theorem q0r:Go.Eng.Told IP (qab F83 0).1 (qab F83 0).2 (qHk):=lp (inferInstance:Inhabited qeJ) (hs:=qF8) qq5 qsx qtw
abbrev qeR:Type:=List UInt8 × Int
def qGg:List PSt:=[⟨[(1011100,.junk),(0,.str),(3,.int .i64)],[],0,0⟩]
def qPk (x0:List UInt8) (x1:Int):X × St:=(.ret,⟨[(2,.bool false)],[],0,0⟩)
def qPl (x0:List UInt8) (x1:Int):X × St:=(.exit 0,⟨[(2,.junk)],[],0,0⟩)
def q1E:List (qeR -> X × St):=[(k2 qPk),(k2 qPl)]
def qvq (x0:List UInt8) (x1:Int):DT (Rd qeR):=
 .br (decide (x1 < (x0.length:Int)))
 (.br (inB x0.length x1)
 (.bi (br (decide (qaK x0 x1 < 48)) (some true) (br (inB x0.length x1) (some (decide (qaK x0 x1 > 57))) none)) (fun y0=>
 .bi (br y0 (br (inB x0.length x1) (br (decide (qaK x0 x1 < 65)) (some true) (br (inB x0.length x1) (some (decide (qaK x0 x1 > 90))) none)) none) (some false)) (fun y1=>
 .br (y1) (.at (.done 0)) (.at (.next ((x0,IntKind.i64.wrap (x1 + 1))))))
 (.no))
 (.no))
 (.no))
 (.at (.done 1))
def qrc:qeR -> DT (Rd qeR):=(fun v=>qvq v.1 v.2)
def qtG (v:qeR):Option (Nat × qeR):=qaC (qah (fun v=>(qrc v).ev) v)
theorem qtH (v):qtG v = qah (fun v=>(qrc v).ev) v:=qaa _
def qHs:qbi:=LE (τ:=qeR) (hD qGg) (qtG) q1E
theorem q0z:Go.Eng.Told IP (qab qWU 0).1 (qab qWU 0).2 (qHs):=lp (inferInstance:Inhabited qeR) (hs:=qGg) qrc qsx qtH
abbrev qC7:Type:=Bool
def qIW:PArgs:=⟨[.str],[]⟩
def qKg:List PRes:=[⟨false,.bool,[]⟩]
def qko (x0:List UInt8):DT qC7:=
 .bi (pj 0 (qtG (x0,0))) (fun y0=>
 .at (false))
 (.bi (pj 1 (qtG (x0,0))) (fun y0=>
 .at (true))
 (.no))
def qlR (x0:List UInt8):Option qC7:=qaC (qko x0).ev
theorem qAL (x0):qlR x0 = (qko x0).ev:=qaa _
theorem qTU:FH IP 111 qIW qKg qlR:=qam (F:=qWU) (L:=[(1011100,qHs)]) (t:=qko) qsx (qae (l:=[qab qWU 0]) (by kernel_rfl) ⟨qal (by kernel_rfl) q0z,trivial⟩) (by kernel_rfl) (fun v=>by kernel_rfl) (fun _=>qaa _)
def T50:Tab:=(111,FE qIW qKg qlR) :: T49
theorem qEi:qau IP T50:=⟨qay qTU,qsx⟩
abbrev qdf:Type:=List UInt8 × Int × Int
def qyB:List PSt:=[⟨[(1011200,.junk),(0,.str),(3,.int .i64),(4,.int .i64)],[],0,0⟩]
def qMc (x0:List UInt8) (x1 x2:Int):X × St:=(.exit 0,⟨[(3,.int .i64 x1)],[],0,0⟩)
def qWq:List (qdf -> X × St):=[(k3 qMc)]
def qpA (x0:List UInt8) (x1 x2:Int):DT (Rd qdf):=
 .br (decide (x2 < (x0.length:Int)))
 (.br (inB x0.length x2)
 (.br (decide (qaK x0 x2 <= 57))
 (.br (inB x0.length x2)
 (.at (.next ((x0,(IntKind.i64.wrap (IntKind.i64.wrap (10 * x1) + IntKind.i64.wrap (IntKind.u8.wrap (qaK x0 x2 - 48)))).tmod 97,IntKind.i64.wrap (x2 + 1)))))
 (.no))
 (.br (inB x0.length x2)
 (.at (.next ((x0,(IntKind.i64.wrap (IntKind.i64.wrap (IntKind.i64.wrap (100 * x1) + IntKind.i64.wrap (IntKind.u8.wrap (qaK x0 x2 - 65))) + 10)).tmod 97,IntKind.i64.wrap (x2 + 1)))))
 (.no)))
 (.no))
 (.at (.done 0))
def qj1:qdf -> DT (Rd qdf):=(fun v=>qpA v.1 v.2.1 v.2.2)
def qqu (v:qdf):Option (Nat × qdf):=qaC (qah (fun v=>(qj1 v).ev) v)
theorem qoY (v):qqu v = qah (fun v=>(qj1 v).ev) v:=qaa _
def qzi:qbi:=LE (τ:=qdf) (hD qyB) (qqu) qWq
theorem qVV:Go.Eng.Told IP (qab qWV 0).1 (qab qWV 0).2 (qzi):=lp (inferInstance:Inhabited qdf) (hs:=qyB) qj1 qEi qoY
abbrev qDB:Type:=Int
def qJq:PArgs:=⟨[.str],[]⟩
def qKK:List PRes:=[⟨false,.int .i64,[]⟩]
def qkS (x0:List UInt8):DT qDB:=
 .bi (pj 0 (qqu (x0,0,0))) (fun y0=>
 .at (y0.2.1))
 (.no)
def qmb (x0:List UInt8):Option qDB:=qaC (qkS x0).ev
theorem qBi (x0):qmb x0 = (qkS x0).ev:=qaa _
theorem qUs:FH IP 112 qJq qKK qmb:=qam (F:=qWV) (L:=[(1011200,qzi)]) (t:=qkS) qEi (qae (l:=[qab qWV 0]) (by kernel_rfl) ⟨qal (by kernel_rfl) qVV,trivial⟩) (by kernel_rfl) (fun v=>by kernel_rfl) (fun _=>qaa _)
def T51:Tab:=(112,FE qJq qKK qmb) :: T50
theorem qRo:qau IP T51:=⟨qay qUs,qEi⟩
abbrev qDA:Type:=List UInt8 × Int
def qJp:PArgs:=⟨[.str],[]⟩
def qKJ:List PRes:=[⟨false,.tup [.str,.int .i64],[]⟩]
def qkR (x0:List UInt8):DT qDA:=
 .bi (br (decide ((x0.length:Int) < 1)) (some true) (some (decide ((x0.length:Int) > 46)))) (fun y0=>
 .br (y0)
 (.at (([],5)))
 (.bi (qlR x0) (fun y1=>
 .br (!y1)
 (.at (([],2)))
 (.br (decide (x0.length + 2 <= 4611686018427387904))
 (.bi (qmb (x0 ++ [48,48])) (fun y2=>
 .br (leB (IntKind.i64.wrap (IntKind.i64.wrap ((IntKind.i64.wrap (98 - y2)).tdiv 10) + 1)) 10 &&
 leB (IntKind.i64.wrap ((IntKind.i64.wrap (98 - y2)).tdiv 10)) (IntKind.i64.wrap (IntKind.i64.wrap ((IntKind.i64.wrap (98 - y2)).tdiv 10) + 1)).toNat)
 (.br (decide
 (x0.length +
 (List.take ((IntKind.i64.wrap (IntKind.i64.wrap ((IntKind.i64.wrap (98 - y2)).tdiv 10) + 1)).toNat - (IntKind.i64.wrap ((IntKind.i64.wrap (98 - y2)).tdiv 10)).toNat)
 (List.drop (IntKind.i64.wrap ((IntKind.i64.wrap (98 - y2)).tdiv 10)).toNat ([48,49,50,51,52,53,54,55,56,57]:List UInt8))).length <=
 4611686018427387904))
 (.br (leB (IntKind.i64.wrap ((IntKind.i64.wrap (98 - y2)).tmod 10 + 1)) 10 &&
 leB ((IntKind.i64.wrap (98 - y2)).tmod 10) (IntKind.i64.wrap ((IntKind.i64.wrap (98 - y2)).tmod 10 + 1)).toNat)
 (.br (decide
 ((x0 ++
 List.take ((IntKind.i64.wrap (IntKind.i64.wrap ((IntKind.i64.wrap (98 - y2)).tdiv 10) + 1)).toNat - (IntKind.i64.wrap ((IntKind.i64.wrap (98 - y2)).tdiv 10)).toNat)
 (List.drop (IntKind.i64.wrap ((IntKind.i64.wrap (98 - y2)).tdiv 10)).toNat ([48,49,50,51,52,53,54,55,56,57]:List UInt8))).length +
 (List.take ((IntKind.i64.wrap ((IntKind.i64.wrap (98 - y2)).tmod 10 + 1)).toNat - ((IntKind.i64.wrap (98 - y2)).tmod 10).toNat)
 (List.drop ((IntKind.i64.wrap (98 - y2)).tmod 10).toNat ([48,49,50,51,52,53,54,55,56,57]:List UInt8))).length <=
 4611686018427387904))
 (.at ((x0 ++
 List.take ((IntKind.i64.wrap (IntKind.i64.wrap ((IntKind.i64.wrap (98 - y2)).tdiv 10) + 1)).toNat - (IntKind.i64.wrap ((IntKind.i64.wrap (98 - y2)).tdiv 10)).toNat)
 (List.drop (IntKind.i64.wrap ((IntKind.i64.wrap (98 - y2)).tdiv 10)).toNat ([48,49,50,51,52,53,54,55,56,57]:List UInt8)) ++
 List.take ((IntKind.i64.wrap ((IntKind.i64.wrap (98 - y2)).tmod 10 + 1)).toNat - ((IntKind.i64.wrap (98 - y2)).tmod 10).toNat)
 (List.drop ((IntKind.i64.wrap (98 - y2)).tmod 10).toNat ([48,49,50,51,52,53,54,55,56,57]:List UInt8)),0)))
 (.no))
 (.no))
 (.no))
 (.no))
 (.no))
 (.no)))
 (.no)))
 (.no)
def qma (x0:List UInt8):Option qDA:=qaC (qkR x0).ev
theorem qBh (x0):qma x0 = (qkR x0).ev:=qaa _
theorem qUr:FH IP 103 qJp qKJ qma:=fh q2X qkR qRo
def T52:Tab:=(103,FE qJp qKJ qma) :: T51
theorem qRp:qau IP T52:=⟨qay qUr,qRo⟩
abbrev qCY:Type:=List UInt8
def qIM:PArgs:=⟨[.int .i64],[]⟩
def qJ7:List PRes:=[⟨false,.str,[]⟩]
def qkg (x0:Int):DT qCY:=
 .bi (br (decide (x0 < 1000)) (some true) (some (decide (x0 > 99999999)))) (fun y0=>
 .br (y0)
 (.at ([]))
 (.bi (pj 0 (qy5 (x0,[],0))) (fun y1=>
 .br (decide (2 + y1.2.1.length <= 4611686018427387904))
 (.bi (qma ([67,66] ++ y1.2.1)) (fun y2=>
 .at (y2.1))
 (.no))
 (.no))
 (.no)))
 (.no)
def qlM (x0:Int):Option qCY:=qaC (qkg x0).ev
theorem qAC (x0):qlM x0 = (qkg x0).ev:=qaa _
theorem qTL:FH IP 83 qIM qJ7 qlM:=qam (F:=F83) (L:=[(1008300,qHk)]) (t:=qkg) qRp (qae (l:=[qab F83 0]) (by kernel_rfl) ⟨qal (by kernel_rfl) q0r,trivial⟩) (by kernel_rfl) (fun v=>by kernel_rfl) (fun _=>qaa _)
def T53:Tab:=(83,FE qIM qJ7 qlM) :: T52
theorem qRq:qau IP T53:=⟨qay qTL,qRp⟩
abbrev qCZ:Type:=Bool
def qIN:PArgs:=⟨[.agg [.int .i64,.int .i64,.int .i64,.int .i64,.str,.str,.str]],[]⟩
def qJ8:List PRes:=[⟨false,.bool,[]⟩]
def qkh (x0 x1:Int) (x2 x3:Int) (x4 x5 x6:List UInt8):DT qCZ:=
 .br (decide (x0 >= 1000))
 (.br (decide (x0 <= 99999999))
 (.bi (qbf x1) (fun y0=>
 .br (y0)
 (.bi (qlM x0) (fun y1=>
 .at (x6 == y1))
 (.no))
 (.at (false)))
 (.no))
 (.at (false)))
 (.at (false))
def qlN (x0 x1:Int) (x2 x3:Int) (x4 x5 x6:List UInt8):Option qCZ:=qaC (qkh x0 x1 x2 x3 x4 x5 x6).ev
theorem qAD (x0 x1 x2 x3 x4 x5 x6):qlN x0 x1 x2 x3 x4 x5 x6 = (qkh x0 x1 x2 x3 x4 x5 x6).ev:=qaa _
theorem qTM:FH IP 51 qIN qJ8 (k7 qlN):=fh F51 (k7 qkh) qRq
def T54:Tab:=(51,FE qIN qJ8 (k7 qlN)) :: T53
theorem qEj:qau IP T54:=⟨qay qTM,qRq⟩
abbrev qdp:Type:=List AV × List UInt8 × Int × Int × Int × List UInt8 × List UInt8 × List UInt8 × Int × Int × Int × Int × Bool × Int × Int × Bool × Bool × Int × Int × Bool
def qyQ:List PSt:=[⟨[(1008400,.junk),(0,.view 19),(1,.str),(2,.int .i64),(6,.ref 0 0 0),(8,.int .i64),(9,.int .i64)],[(0,.box [.str,.str,.str,.int .i64,.int .i64,.int .i64,.int .i64,.nils 2,.bool,.int .i64,.int .i64,.bool,.nils 2,.bool,.int .i64,.int .i64,.bool,.nils 10,.nils 6] false)],1,0⟩]
def qML (x0:List AV) (x1:List UInt8) (x2 x3 x4:Int) (x5 x6 x7:List UInt8) (x8 x9:Int) (x10 x11:Int) (x12:Bool) (x13 x14:Int) (x15 x16:Bool) (x17 x18:Int) (x19:Bool):X × St:=(.exit 0,
 ⟨[(0,.view 19 x0),(6,.ref 0 0 0),(8,.int .i64 x3)],[(0,
 .box
 [.str x5,.str x6,.str x7,.int .i64 x8,.int .i64 x9,.int .i64 x10,.int .i64 x11,.nils ⟨2,.nil⟩,
 .bool x12,.int .i64 x13,.int .i64 x14,.bool x15,.nils ⟨2,.nil⟩,.bool x16,.int .i64 x17,
 .int .i64 x18,.bool x19,.nils ⟨10,.nil⟩,.nils ⟨6,.nil⟩]
 false)],1,0⟩)
def qWF:List (qdp -> X × St):=[(k20 qML)]
def qes (x0:List AV) (x1:List UInt8) (x2 x3 x4:Int) (x5 x6 x7:List UInt8) (x8 x9:Int) (x10 x11:Int) (x12:Bool) (x13 x14:Int) (x15 x16:Bool) (x17 x18:Int) (x19:Bool):DT (Rd qdp):=
 .br (decide (x4 < (x0.length:Int)))
 (.br (qaw
 [CS.str,CS.str,CS.str,CS.int IntKind.i64,CS.int IntKind.i64,CS.int IntKind.i64,CS.int IntKind.i64,CS.slice 2,CS.bool,CS.int IntKind.i64,CS.int IntKind.i64,CS.bool,
 CS.slice 2,CS.bool,CS.int IntKind.i64,CS.int IntKind.i64,CS.bool,CS.slice 10,CS.slice 6]
 x0 x4)
 (.br (strOf (cellAt x0 x4 0) == x1)
 (.br (qaw
 [CS.str,CS.str,CS.str,CS.int IntKind.i64,CS.int IntKind.i64,CS.int IntKind.i64,CS.int IntKind.i64,CS.slice 2,CS.bool,CS.int IntKind.i64,CS.int IntKind.i64,CS.bool,
 CS.slice 2,CS.bool,CS.int IntKind.i64,CS.int IntKind.i64,CS.bool,CS.slice 10,CS.slice 6]
 x0 x4)
 (.br (decide (intOf (cellAt x0 x4 3) <= x2))
 (.br (decide (x3 < 0))
 (.at (.next ((x0,x1,x2,x4,IntKind.i64.wrap (x4 + 1),x5,x6,x7,x8,x9,x10,x11,x12,x13,x14,x15,x16,x17,x18,x19))))
 (.br (qaw
 [CS.str,CS.str,CS.str,CS.int IntKind.i64,CS.int IntKind.i64,CS.int IntKind.i64,CS.int IntKind.i64,CS.slice 2,CS.bool,CS.int IntKind.i64,CS.int IntKind.i64,CS.bool,
 CS.slice 2,CS.bool,CS.int IntKind.i64,CS.int IntKind.i64,CS.bool,CS.slice 10,CS.slice 6]
 x0 x4)
 (.br (qaw
 [CS.str,CS.str,CS.str,CS.int IntKind.i64,CS.int IntKind.i64,CS.int IntKind.i64,CS.int IntKind.i64,CS.slice 2,CS.bool,CS.int IntKind.i64,CS.int IntKind.i64,CS.bool,
 CS.slice 2,CS.bool,CS.int IntKind.i64,CS.int IntKind.i64,CS.bool,CS.slice 10,CS.slice 6]
 x0 x3)
 (.br (decide (intOf (cellAt x0 x4 3) > intOf (cellAt x0 x3 3)))
 (.at (.next ((x0,x1,x2,x4,IntKind.i64.wrap (x4 + 1),x5,x6,x7,x8,x9,x10,x11,x12,x13,x14,x15,x16,x17,x18,x19))))
 (.at (.next ((x0,x1,x2,x3,IntKind.i64.wrap (x4 + 1),x5,x6,x7,x8,x9,x10,x11,x12,x13,x14,x15,x16,x17,x18,x19)))))
 (.no))
 (.no)))
 (.at (.next ((x0,x1,x2,x3,IntKind.i64.wrap (x4 + 1),x5,x6,x7,x8,x9,x10,x11,x12,x13,x14,x15,x16,x17,x18,x19)))))
 (.no))
 (.at (.next ((x0,x1,x2,x3,IntKind.i64.wrap (x4 + 1),x5,x6,x7,x8,x9,x10,x11,x12,x13,x14,x15,x16,x17,x18,x19)))))
 (.no))
 (.at (.done 0))
def qdZ:qdp -> DT (Rd qdp):=(fun v=>qes v.1 v.2.1 v.2.2.1 v.2.2.2.1 v.2.2.2.2.1 v.2.2.2.2.2.1 v.2.2.2.2.2.2.1 v.2.2.2.2.2.2.2.1 v.2.2.2.2.2.2.2.2.1 v.2.2.2.2.2.2.2.2.2.1 v.2.2.2.2.2.2.2.2.2.2.1 v.2.2.2.2.2.2.2.2.2.2.2.1 v.2.2.2.2.2.2.2.2.2.2.2.2.1 v.2.2.2.2.2.2.2.2.2.2.2.2.2.1 v.2.2.2.2.2.2.2.2.2.2.2.2.2.2.1 v.2.2.2.2.2.2.2.2.2.2.2.2.2.2.2.1 v.2.2.2.2.2.2.2.2.2.2.2.2.2.2.2.2.1 v.2.2.2.2.2.2.2.2.2.2.2.2.2.2.2.2.2.1 v.2.2.2.2.2.2.2.2.2.2.2.2.2.2.2.2.2.2.1 v.2.2.2.2.2.2.2.2.2.2.2.2.2.2.2.2.2.2.2)
def qmR (v:qdp):Option (Nat × qdp):=qaC (qah (fun v=>(qdZ v).ev) v)
theorem qiV (v):qmR v = qah (fun v=>(qdZ v).ev) v:=qaa _
def qzx:qbi:=LE (τ:=qdp) (hD qyQ) (qmR) qWF
theorem qWa:Go.Eng.Told IP (qab F84 0).1 (qab F84 0).2 (qzx):=lp (inferInstance:Inhabited qdp) (hs:=qyQ) qdZ qEj qiV
abbrev qln:Type:=List UInt8 × List UInt8 × List UInt8 × Int × Int × Int × Int × List AV × Bool × Int × Int × Bool × List AV × Bool × Int × Int × Bool × List AV × List AV × Bool
def qJN:PArgs:=⟨[.view 19,.str,.int .i64],[]⟩
def qK7:List PRes:=[⟨false,.tup [.agg [.str,.str,.str,.int .i64,.int .i64,.int .i64,.int .i64,.view 2,.bool,.int .i64,.int .i64,.bool,.view 2,.bool,.int .i64,.int .i64,.bool,.view 10,.view 6],.bool],[]⟩]
def qio (x0:List AV) (x1:List UInt8) (x2:Int):DT qln:=
 .bi (pj 0 (qmR (x0,x1,x2,-1,0,[],[],[],0,0,0,0,false,0,0,false,false,0,0,false))) (fun y0=>
 .br (decide (y0.2.2.2.1 < 0))
 (.at (([],[],[],0,0,0,0,[],false,0,0,false,[],false,0,0,false,[],[],false)))
 (.br (qaw
 [CS.str,CS.str,CS.str,CS.int IntKind.i64,CS.int IntKind.i64,CS.int IntKind.i64,CS.int IntKind.i64,CS.slice 2,CS.bool,CS.int IntKind.i64,CS.int IntKind.i64,CS.bool,
 CS.slice 2,CS.bool,CS.int IntKind.i64,CS.int IntKind.i64,CS.bool,CS.slice 10,CS.slice 6]
 y0.1 y0.2.2.2.1)
 (.at ((strOf (cellAt y0.1 y0.2.2.2.1 0),strOf (cellAt y0.1 y0.2.2.2.1 1),strOf (cellAt y0.1 y0.2.2.2.1 2),intOf (cellAt y0.1 y0.2.2.2.1 3),intOf (cellAt y0.1 y0.2.2.2.1 4),intOf (cellAt y0.1 y0.2.2.2.1 5),intOf (cellAt y0.1 y0.2.2.2.1 6),qat (cellAt y0.1 y0.2.2.2.1 7),qbg (cellAt y0.1 y0.2.2.2.1 8),intOf (cellAt y0.1 y0.2.2.2.1 9),intOf (cellAt y0.1 y0.2.2.2.1 10),qbg (cellAt y0.1 y0.2.2.2.1 11),qat (cellAt y0.1 y0.2.2.2.1 12),qbg (cellAt y0.1 y0.2.2.2.1 13),intOf (cellAt y0.1 y0.2.2.2.1 14),intOf (cellAt y0.1 y0.2.2.2.1 15),qbg (cellAt y0.1 y0.2.2.2.1 16),qat (cellAt y0.1 y0.2.2.2.1 17),qat (cellAt y0.1 y0.2.2.2.1 18),true)))
 (.no)))
 (.no)
def qhl (x0:List AV) (x1:List UInt8) (x2:Int):Option qln:=qaC (qio x0 x1 x2).ev
theorem qoB (x0 x1 x2):qhl x0 x1 x2 = (qio x0 x1 x2).ev:=qaa _
theorem qUQ:FH IP 84 qJN qK7 (k3 qhl):=qam (F:=F84) (L:=[(1008400,qzx)]) (t:=(k3 qio)) qEj (qae (l:=[qab F84 0]) (by kernel_rfl) ⟨qal (by kernel_rfl) qWa,trivial⟩) (by kernel_rfl) (fun v=>by kernel_rfl) (fun _=>qaa _)
def T55:Tab:=(84,FE qJN qK7 (k3 qhl)) :: T54
theorem qRr:qau IP T55:=⟨qay qUQ,qEj⟩
abbrev qDq:Type:=Int
def qJf:PArgs:=⟨[.agg [.view 2,.view 3,.view 4,.int .i64,.int .i64,.int .i64,.int .i64,.int .i64,.int .i64,.int .i64,.int .i64,.int .i64,.int .i64,.int .i64,.int .i64,.int .i64,.int .i64,.view 19,.view 7,.view 10,.view 6,.view 7],.agg [.int .i64,.int .i64,.int .i64,.int .i64,.str,.str,.str]],[]⟩
def qKz:List PRes:=[⟨false,.int .i64,[]⟩]
def qkH (x0 x1 x2:List AV) (x3 x4:Int) (x5 x6:Int) (x7 x8:Int) (x9 x10:Int) (x11 x12:Int) (x13 x14:Int) (x15 x16:Int) (x17 x18:List AV) (x19 x20 x21:List AV) (x22 x23:Int) (x24 x25:Int) (x26 x27 x28:List UInt8):DT qDq:=
 .bi (qdE x26) (fun y0=>
 .br (!y0)
 (.at (4))
 (.bi (qhl x17 x27 x23) (fun y1=>
 .br (!y1.2.2.2.2.2.2.2.2.2.2.2.2.2.2.2.2.2.2.2) (.at (11)) (.at (0)))
 (.no)))
 (.no)
def qc8 (x0 x1 x2:List AV) (x3 x4:Int) (x5 x6:Int) (x7 x8:Int) (x9 x10:Int) (x11 x12:Int) (x13 x14:Int) (x15 x16:Int) (x17 x18:List AV) (x19 x20 x21:List AV) (x22 x23:Int) (x24 x25:Int) (x26 x27 x28:List UInt8):Option qDq:=qaC (qkH x0 x1 x2 x3 x4 x5 x6 x7 x8 x9 x10 x11 x12 x13 x14 x15 x16 x17 x18 x19 x20 x21 x22 x23 x24 x25 x26 x27 x28).ev
theorem qA6 (x0 x1 x2 x3 x4 x5 x6 x7 x8 x9 x10 x11 x12 x13 x14 x15 x16 x17 x18 x19 x20 x21 x22 x23 x24 x25 x26 x27 x28):qc8 x0 x1 x2 x3 x4 x5 x6 x7 x8 x9 x10 x11 x12 x13 x14 x15 x16 x17 x18 x19 x20 x21 x22 x23 x24 x25 x26 x27 x28 = (qkH x0 x1 x2 x3 x4 x5 x6 x7 x8 x9 x10 x11 x12 x13 x14 x15 x16 x17 x18 x19 x20 x21 x22 x23 x24 x25 x26 x27 x28).ev:=qaa _
theorem qUh:FH IP 52 qJf qKz (k29 qc8):=fh F52 (k29 qkH) qRr
def T56:Tab:=(52,FE qJf qKz (k29 qc8)) :: T55
theorem qEk:qau IP T56:=⟨qay qUh,qRr⟩
abbrev qfe:Type:=Int × List AV × List AV × List AV × Int × Int × Int × Int × Int × Int × Int × Int × Int × Int × Int × Int × Int × Int × List AV × List AV × List AV × List AV × List AV
def qGG:List PSt:=[⟨[(1001900,.junk),(1,.ref 0 0 0),(3,.int .i64)],[(0,.box [.view 2,.view 3,.view 4,.int .i64,.int .i64,.int .i64,.int .i64,.int .i64,.int .i64,.int .i64,.int .i64,.int .i64,.int .i64,.int .i64,.int .i64,.int .i64,.int .i64,.view 19,.view 7,.view 10,.view 6,.view 7] false)],1,0⟩]
def qQg (x0:Int) (x1 x2 x3:List AV) (x4 x5:Int) (x6 x7:Int) (x8 x9:Int) (x10 x11:Int) (x12 x13:Int) (x14 x15:Int) (x16 x17:Int) (x18 x19:List AV) (x20 x21 x22:List AV):X × St:=(.ret,⟨[(2,.int .i64 1)],[],0,0⟩)
def qQh (x0:Int) (x1 x2 x3:List AV) (x4 x5:Int) (x6 x7:Int) (x8 x9:Int) (x10 x11:Int) (x12 x13:Int) (x14 x15:Int) (x16 x17:Int) (x18 x19:List AV) (x20 x21 x22:List AV):X × St:=(.ret,⟨[(2,.int .i64 10)],[],0,0⟩)
def qQi (x0:Int) (x1 x2 x3:List AV) (x4 x5:Int) (x6 x7:Int) (x8 x9:Int) (x10 x11:Int) (x12 x13:Int) (x14 x15:Int) (x16 x17:Int) (x18 x19:List AV) (x20 x21 x22:List AV):X × St:=(.ret,
 ⟨[(2,
 .int .i64
 (gv
 (qc8 x1 x2 x3 x4 x5 x6 x7 x8 x9 x10 x11 x12 x13 x14 x15 x16 x17 x18 x19 x20 x21 x22 (intOf (cellAt x19 x0 0)) (intOf (cellAt x19 x0 1))
 (intOf (cellAt x19 x0 2)) (intOf (cellAt x19 x0 3)) (strOf (cellAt x19 x0 4)) (strOf (cellAt x19 x0 5)) (strOf (cellAt x19 x0 6)))))],[],0,0⟩)
def qQj (x0:Int) (x1 x2 x3:List AV) (x4 x5:Int) (x6 x7:Int) (x8 x9:Int) (x10 x11:Int) (x12 x13:Int) (x14 x15:Int) (x16 x17:Int) (x18 x19:List AV) (x20 x21 x22:List AV):X × St:=(.exit 0,⟨[(2,.junk)],[],0,0⟩)
def q14:List (qfe -> X × St):=[(k23 qQg),(k23 qQh),(k23 qQi),(k23 qQj)]
def qvF (x0:Int) (x1 x2 x3:List AV) (x4 x5:Int) (x6 x7:Int) (x8 x9:Int) (x10 x11:Int) (x12 x13:Int) (x14 x15:Int) (x16 x17:Int) (x18 x19:List AV) (x20 x21 x22:List AV):DT (Rd qfe):=
 .br (decide (x0 < (x19.length:Int)))
 (.br (qaw [.int .i64,.int .i64,.int .i64,.int .i64,.str,.str,.str] x19 x0)
 (.bi (br (intOf (cellAt x19 x0 2) == 0) (some true)
 (br (sm (qbf (intOf (cellAt x19 x0 2))))
 (br (gv (qbf (intOf (cellAt x19 x0 2)))) (some (decide (intOf (cellAt x19 x0 2) >= intOf (cellAt x19 x0 1)))) (some false)) none)) (fun y0=>
 .bi (qlN (intOf (cellAt x19 x0 0)) (intOf (cellAt x19 x0 1)) (intOf (cellAt x19 x0 2)) (intOf (cellAt x19 x0 3)) (strOf (cellAt x19 x0 4)) (strOf (cellAt x19 x0 5))
 (strOf (cellAt x19 x0 6))) (fun y1=>
 .bi (br (!y1) (some true) (some !y0)) (fun y2=>
 .bi (br y2 (some true) (some (decide (intOf (cellAt x19 x0 3) < 0)))) (fun y3=>
 .bi (br y3 (some true) (some (decide (intOf (cellAt x19 x0 3) > 1000000000000)))) (fun y4=>
 .br (y4)
 (.at (.done 0))
 (.br (decide (x0 > 0))
 (.br (qaw [.int .i64,.int .i64,.int .i64,.int .i64,.str,.str,.str] x19 (IntKind.i64.wrap (x0 - 1)))
 (.br (decide (intOf (cellAt x19 x0 0) <= intOf (cellAt x19 (IntKind.i64.wrap (x0 - 1)) 0)))
 (.at (.done 1))
 (.bi (qc8 x1 x2 x3 x4 x5 x6 x7 x8 x9 x10 x11 x12 x13 x14 x15 x16 x17 x18 x19 x20 x21 x22 (intOf (cellAt x19 x0 0)) (intOf (cellAt x19 x0 1)) (intOf (cellAt x19 x0 2))
 (intOf (cellAt x19 x0 3)) (strOf (cellAt x19 x0 4)) (strOf (cellAt x19 x0 5)) (strOf (cellAt x19 x0 6))) (fun y5=>
 .br (y5 != 0)
 (.at (.done 2))
 (.at (.next ((IntKind.i64.wrap (x0 + 1),x1,x2,x3,x4,x5,x6,x7,x8,x9,x10,x11,x12,x13,x14,x15,x16,x17,x18,x19,x20,x21,x22)))))
 (.no)))
 (.no))
 (.bi (qc8 x1 x2 x3 x4 x5 x6 x7 x8 x9 x10 x11 x12 x13 x14 x15 x16 x17 x18 x19 x20 x21 x22 (intOf (cellAt x19 x0 0)) (intOf (cellAt x19 x0 1)) (intOf (cellAt x19 x0 2))
 (intOf (cellAt x19 x0 3)) (strOf (cellAt x19 x0 4)) (strOf (cellAt x19 x0 5)) (strOf (cellAt x19 x0 6))) (fun y5=>
 .br (y5 != 0)
 (.at (.done 2))
 (.at (.next ((IntKind.i64.wrap (x0 + 1),x1,x2,x3,x4,x5,x6,x7,x8,x9,x10,x11,x12,x13,x14,x15,x16,x17,x18,x19,x20,x21,x22)))))
 (.no))))
 (.no))
 (.no))
 (.no))
 (.no))
 (.no))
 (.no))
 (.at (.done 3))
def qrt:qfe -> DT (Rd qfe):=(fun v=>qvF v.1 v.2.1 v.2.2.1 v.2.2.2.1 v.2.2.2.2.1 v.2.2.2.2.2.1 v.2.2.2.2.2.2.1 v.2.2.2.2.2.2.2.1 v.2.2.2.2.2.2.2.2.1 v.2.2.2.2.2.2.2.2.2.1 v.2.2.2.2.2.2.2.2.2.2.1 v.2.2.2.2.2.2.2.2.2.2.2.1 v.2.2.2.2.2.2.2.2.2.2.2.2.1 v.2.2.2.2.2.2.2.2.2.2.2.2.2.1 v.2.2.2.2.2.2.2.2.2.2.2.2.2.2.1 v.2.2.2.2.2.2.2.2.2.2.2.2.2.2.2.1 v.2.2.2.2.2.2.2.2.2.2.2.2.2.2.2.2.1 v.2.2.2.2.2.2.2.2.2.2.2.2.2.2.2.2.2.1 v.2.2.2.2.2.2.2.2.2.2.2.2.2.2.2.2.2.2.1 v.2.2.2.2.2.2.2.2.2.2.2.2.2.2.2.2.2.2.2.1 v.2.2.2.2.2.2.2.2.2.2.2.2.2.2.2.2.2.2.2.2.1 v.2.2.2.2.2.2.2.2.2.2.2.2.2.2.2.2.2.2.2.2.2.1 v.2.2.2.2.2.2.2.2.2.2.2.2.2.2.2.2.2.2.2.2.2.2)
def qm4 (v:qfe):Option (Nat × qfe):=qaC (qah (fun v=>(qrt v).ev) v)
theorem quj (v):qm4 v = qah (fun v=>(qrt v).ev) v:=qaa _
def qHS:qbi:=LE (τ:=qfe) (hD qGG) (qm4) q14
theorem q0Z:Go.Eng.Told IP (qab F19 0).1 (qab F19 0).2 (qHS):=lp (inferInstance:Inhabited qfe) (hs:=qGG) qrt qEk quj
end
end Go.Proofs.H53z
namespace Go.Proofs.H53z
open Go Go.Eng
set_option maxRecDepth 100000
noncomputable section
abbrev qDp:Type:=Int
def qJe:PArgs:=⟨[.agg [.view 2,.view 3,.view 4,.int .i64,.int .i64,.int .i64,.int .i64,.int .i64,.int .i64,.int .i64,.int .i64,.int .i64,.int .i64,.int .i64,.int .i64,.int .i64,.int .i64,.view 19,.view 7,.view 10,.view 6,.view 7]],[]⟩
def qKy:List PRes:=[⟨false,.int .i64,[]⟩]
def qkG (x0 x1 x2:List AV) (x3 x4:Int) (x5 x6:Int) (x7 x8:Int) (x9 x10:Int) (x11 x12:Int) (x13 x14:Int) (x15 x16:Int) (x17 x18:List AV) (x19 x20 x21:List AV):DT qDp:=
 .br (decide ((x18.length:Int) > 64))
 (.at (5))
 (.bi (pj 0 (qm4 (0,x0,x1,x2,x3,x4,x5,x6,x7,x8,x9,x10,x11,x12,x13,x14,x15,x16,x17,x18,x19,x20,x21))) (fun y0=>
 .at (1))
 (.bi (pj 1 (qm4 (0,x0,x1,x2,x3,x4,x5,x6,x7,x8,x9,x10,x11,x12,x13,x14,x15,x16,x17,x18,x19,x20,x21))) (fun y0=>
 .at (10))
 (.bi (pj 2 (qm4 (0,x0,x1,x2,x3,x4,x5,x6,x7,x8,x9,x10,x11,x12,x13,x14,x15,x16,x17,x18,x19,x20,x21))) (fun y0=>
 .at (gv
 (qc8 y0.2.1 y0.2.2.1 y0.2.2.2.1 y0.2.2.2.2.1 y0.2.2.2.2.2.1 y0.2.2.2.2.2.2.1 y0.2.2.2.2.2.2.2.1
 y0.2.2.2.2.2.2.2.2.1 y0.2.2.2.2.2.2.2.2.2.1 y0.2.2.2.2.2.2.2.2.2.2.1
 y0.2.2.2.2.2.2.2.2.2.2.2.1 y0.2.2.2.2.2.2.2.2.2.2.2.2.1 y0.2.2.2.2.2.2.2.2.2.2.2.2.2.1
 y0.2.2.2.2.2.2.2.2.2.2.2.2.2.2.1 y0.2.2.2.2.2.2.2.2.2.2.2.2.2.2.2.1
 y0.2.2.2.2.2.2.2.2.2.2.2.2.2.2.2.2.1 y0.2.2.2.2.2.2.2.2.2.2.2.2.2.2.2.2.2.1
 y0.2.2.2.2.2.2.2.2.2.2.2.2.2.2.2.2.2.2.1 y0.2.2.2.2.2.2.2.2.2.2.2.2.2.2.2.2.2.2.2.1
 y0.2.2.2.2.2.2.2.2.2.2.2.2.2.2.2.2.2.2.2.2.1
 y0.2.2.2.2.2.2.2.2.2.2.2.2.2.2.2.2.2.2.2.2.2.1
 y0.2.2.2.2.2.2.2.2.2.2.2.2.2.2.2.2.2.2.2.2.2.2
 (intOf (cellAt y0.2.2.2.2.2.2.2.2.2.2.2.2.2.2.2.2.2.2.2.1 y0.1 0))
 (intOf (cellAt y0.2.2.2.2.2.2.2.2.2.2.2.2.2.2.2.2.2.2.2.1 y0.1 1))
 (intOf (cellAt y0.2.2.2.2.2.2.2.2.2.2.2.2.2.2.2.2.2.2.2.1 y0.1 2))
 (intOf (cellAt y0.2.2.2.2.2.2.2.2.2.2.2.2.2.2.2.2.2.2.2.1 y0.1 3))
 (strOf (cellAt y0.2.2.2.2.2.2.2.2.2.2.2.2.2.2.2.2.2.2.2.1 y0.1 4))
 (strOf (cellAt y0.2.2.2.2.2.2.2.2.2.2.2.2.2.2.2.2.2.2.2.1 y0.1 5))
 (strOf (cellAt y0.2.2.2.2.2.2.2.2.2.2.2.2.2.2.2.2.2.2.2.1 y0.1 6)))))
 (.bi (pj 3 (qm4 (0,x0,x1,x2,x3,x4,x5,x6,x7,x8,x9,x10,x11,x12,x13,x14,x15,x16,x17,x18,x19,x20,x21))) (fun y0=>
 .at (0))
 (.no)))))
def ql2 (x0 x1 x2:List AV) (x3 x4:Int) (x5 x6:Int) (x7 x8:Int) (x9 x10:Int) (x11 x12:Int) (x13 x14:Int) (x15 x16:Int) (x17 x18:List AV) (x19 x20 x21:List AV):Option qDp:=qaC (qkG x0 x1 x2 x3 x4 x5 x6 x7 x8 x9 x10 x11 x12 x13 x14 x15 x16 x17 x18 x19 x20 x21).ev
theorem qA5 (x0 x1 x2 x3 x4 x5 x6 x7 x8 x9 x10 x11 x12 x13 x14 x15 x16 x17 x18 x19 x20 x21):ql2 x0 x1 x2 x3 x4 x5 x6 x7 x8 x9 x10 x11 x12 x13 x14 x15 x16 x17 x18 x19 x20 x21 = (qkG x0 x1 x2 x3 x4 x5 x6 x7 x8 x9 x10 x11 x12 x13 x14 x15 x16 x17 x18 x19 x20 x21).ev:=qaa _
theorem qUg:FH IP 19 qJe qKy (k22 ql2):=qam (F:=F19) (L:=[(1001900,qHS)]) (t:=(k22 qkG)) qEk (qae (l:=[qab F19 0]) (by kernel_rfl) ⟨qal (by kernel_rfl) q0Z,trivial⟩) (by kernel_rfl) (fun v=>by kernel_rfl) (fun _=>qaa _)
def T57:Tab:=(19,FE qJe qKy (k22 ql2)) :: T56
theorem qEl:qau IP T57:=⟨qay qUg,qEk⟩
abbrev qeC:Type:=List UInt8 × Int × Int
def qFY:List PSt:=[⟨[(1008600,.junk),(0,.str),(2,.int .u8),(7,.int .i64)],[],0,0⟩]
def qOM (x0:List UInt8) (x1 x2:Int):X × St:=(.ret,⟨[(6,.bool false)],[],0,0⟩)
def qON (x0:List UInt8) (x1 x2:Int):X × St:=(.exit 0,⟨[(6,.junk)],[],0,0⟩)
def q1m:List (qeC -> X × St):=[(k3 qOM),(k3 qON)]
def qvd (x0:List UInt8) (x1 x2:Int):DT (Rd qeC):=
 .br (decide (x2 < (x0.length:Int)))
 (.br (inB x0.length x2)
 (.bi (br (decide (qaK x0 x2 < x1)) (some true) (br (inB x0.length x2) (some (decide (qaK x0 x2 > 126))) none)) (fun y0=>
 .br (y0) (.at (.done 0)) (.at (.next ((x0,x1,IntKind.i64.wrap (x2 + 1))))))
 (.no))
 (.no))
 (.at (.done 1))
def qq0:qeC -> DT (Rd qeC):=(fun v=>qvd v.1 v.2.1 v.2.2)
def qtj (v:qeC):Option (Nat × qeC):=qaC (qah (fun v=>(qq0 v).ev) v)
theorem qtk (v):qtj v = qah (fun v=>(qq0 v).ev) v:=qaa _
def qHa:qbi:=LE (τ:=qeC) (hD qFY) (qtj) q1m
theorem q0h:Go.Eng.Told IP (qab F86 0).1 (qab F86 0).2 (qHa):=lp (inferInstance:Inhabited qeC) (hs:=qFY) qq0 qEl qtk
abbrev qQW:Type:=Bool
def qSI:PArgs:=⟨[.str,.int .i64,.int .u8],[]⟩
def qTc:List PRes:=[⟨false,.bool,[]⟩]
def qr7 (x0:List UInt8) (x1 x2:Int):DT qQW:=
 .br (decide ((x0.length:Int) > x1))
 (.at (false))
 (.bi (pj 0 (qtj (x0,x2,0))) (fun y0=>
 .at (false))
 (.bi (pj 1 (qtj (x0,x2,0))) (fun y0=>
 .at (true))
 (.no)))
def qmq (x0:List UInt8) (x1 x2:Int):Option qQW:=qaC (qr7 x0 x1 x2).ev
theorem qFB (x0 x1 x2):qmq x0 x1 x2 = (qr7 x0 x1 x2).ev:=qaa _
theorem qYp:FH IP 86 qSI qTc (k3 qmq):=qam (F:=F86) (L:=[(1008600,qHa)]) (t:=(k3 qr7)) qEl (qae (l:=[qab F86 0]) (by kernel_rfl) ⟨qal (by kernel_rfl) q0h,trivial⟩) (by kernel_rfl) (fun v=>by kernel_rfl) (fun _=>qaa _)
def T58:Tab:=(86,FE qSI qTc (k3 qmq)) :: T57
theorem qRs:qau IP T58:=⟨qay qYp,qEl⟩
abbrev qDR:Type:=Bool
def qJH:PArgs:=⟨[.str],[]⟩
def qK1:List PRes:=[⟨false,.bool,[]⟩]
def qlc (x0:List UInt8):DT qDR:=
 .bi (br (decide ((x0.length:Int) >= 1)) (br (sm (qmq x0 48 33)) (some (gv (qmq x0 48 33))) none) (some false)) (fun y0=>
 .at (y0))
 (.no)
def qiN (x0:List UInt8):Option qDR:=qaC (qlc x0).ev
theorem qBA (x0):qiN x0 = (qlc x0).ev:=qaa _
theorem qUJ:FH IP 85 qJH qK1 qiN:=fh F85 qlc qRs
def T59:Tab:=(85,FE qJH qK1 qiN) :: T58
theorem qEm:qau IP T59:=⟨qay qUJ,qRs⟩
abbrev qdk:Type:=List UInt8 × Int
def qyH:List PSt:=[⟨[(1010400,.junk),(0,.str),(3,.int .i64)],[],0,0⟩]
def qMq (x0:List UInt8) (x1:Int):X × St:=(.ret,⟨[(2,.bool false)],[],0,0⟩)
def qMr (x0:List UInt8) (x1:Int):X × St:=(.exit 0,⟨[(2,.junk)],[],0,0⟩)
def qWw:List (qdk -> X × St):=[(k2 qMq),(k2 qMr)]
def qpF (x0:List UInt8) (x1:Int):DT (Rd qdk):=
 .br (decide (x1 < (x0.length:Int)))
 (.br (inB x0.length x1)
 (.bi (br (decide (qaK x0 x1 < 65)) (some true) (br (inB x0.length x1) (some (decide (qaK x0 x1 > 90))) none)) (fun y0=>
 .br (y0) (.at (.done 0)) (.at (.next ((x0,IntKind.i64.wrap (x1 + 1))))))
 (.no))
 (.no))
 (.at (.done 1))
def qj4:qdk -> DT (Rd qdk):=(fun v=>qpF v.1 v.2)
def qmL (v:qdk):Option (Nat × qdk):=qaC (qah (fun v=>(qj4 v).ev) v)
theorem qo4 (v):qmL v = qah (fun v=>(qj4 v).ev) v:=qaa _
def qzo:qbi:=LE (τ:=qdk) (hD qyH) (qmL) qWw
theorem qV1:Go.Eng.Told IP (qab qWQ 0).1 (qab qWQ 0).2 (qzo):=lp (inferInstance:Inhabited qdk) (hs:=qyH) qj4 qEm qo4
abbrev qDM:Type:=Bool
def qJB:PArgs:=⟨[.str],[]⟩
def qKV:List PRes:=[⟨false,.bool,[]⟩]
def qk6 (x0:List UInt8):DT qDM:=
 .br ((x0.length:Int) != 3)
 (.at (false))
 (.bi (pj 0 (qmL (x0,0))) (fun y0=>
 .at (false))
 (.bi (pj 1 (qmL (x0,0))) (fun y0=>
 .at (true))
 (.no)))
def qmh (x0:List UInt8):Option qDM:=qaC (qk6 x0).ev
theorem qBu (x0):qmh x0 = (qk6 x0).ev:=qaa _
theorem qUD:FH IP 104 qJB qKV qmh:=qam (F:=qWQ) (L:=[(1010400,qzo)]) (t:=qk6) qEm (qae (l:=[qab qWQ 0]) (by kernel_rfl) ⟨qal (by kernel_rfl) qV1,trivial⟩) (by kernel_rfl) (fun v=>by kernel_rfl) (fun _=>qaa _)
def T60:Tab:=(104,FE qJB qKV qmh) :: T59
theorem qRt:qau IP T60:=⟨qay qUD,qEm⟩
abbrev qDU:Type:=Int
def qJK:PArgs:=⟨[.agg [.int .i64,.int .i64,.str]],[]⟩
def qK4:List PRes:=[⟨false,.int .i64,[]⟩]
def qlf (x0 x1:Int) (x2:List UInt8):DT qDU:=
 .bi (br (decide (x0 < 1)) (some true) (some (x1 == 0))) (fun y0=>
 .bi (br y0 (some true) (some (decide (x1 < -1000000000000)))) (fun y1=>
 .bi (br y1 (some true) (some (decide (x1 > 1000000000000)))) (fun y2=>
 .br (y2)
 (.at (1))
 (.bi (qmh x2) (fun y3=>
 .br (!y3) (.at (14)) (.at (0)))
 (.no)))
 (.no))
 (.no))
 (.no)
def qhj (x0 x1:Int) (x2:List UInt8):Option qDU:=qaC (qlf x0 x1 x2).ev
theorem qBD (x0 x1 x2):qhj x0 x1 x2 = (qlf x0 x1 x2).ev:=qaa _
theorem qUM:FH IP 87 qJK qK4 (k3 qhj):=fh F87 (k3 qlf) qRt
def T61:Tab:=(87,FE qJK qK4 (k3 qhj)) :: T60
theorem qsy:qau IP T61:=⟨qay qUM,qRt⟩
abbrev qe5:Type:=Int × Int × Int × Int × Int × Int × Int × List UInt8 × List UInt8 × List AV × Int
def qGx:List PSt:=[⟨[(1005300,.junk),(1,.ref 0 0 0),(3,.int .i64)],[(0,.box [.int .i64,.int .i64,.int .i64,.int .i64,.int .i64,.int .i64,.str,.str,.view 3,.int .u64] false)],1,0⟩]
def qPW (x0 x1:Int) (x2 x3:Int) (x4 x5 x6:Int) (x7 x8:List UInt8) (x9:List AV) (x10:Int):X × St:=(.ret,
 ⟨[(1,.ref 0 0 0),(2,.int .i64 (gv (qhj (intOf (cellAt x9 x0 0)) (intOf (cellAt x9 x0 1)) (strOf (cellAt x9 x0 2)))))],[(0,
 .box
 [.int .i64 x1,.int .i64 x2,.int .i64 x3,.int .i64 x4,.int .i64 x5,.int .i64 x6,.str x7,.str x8,
 .view 3 x9,.int .u64 x10]
 false)],1,0⟩)
def qPX (x0 x1:Int) (x2 x3:Int) (x4 x5 x6:Int) (x7 x8:List UInt8) (x9:List AV) (x10:Int):X × St:=(.exit 0,
 ⟨[(1,.ref 0 0 0),(2,.junk)],[(0,
 .box
 [.int .i64 x1,.int .i64 x2,.int .i64 x3,.int .i64 x4,.int .i64 x5,.int .i64 x6,.str x7,.str x8,
 .view 3 x9,.int .u64 x10]
 false)],1,0⟩)
def q1V:List (qe5 -> X × St):=[(k11 qPW),(k11 qPX)]
def qvy (x0 x1:Int) (x2 x3:Int) (x4 x5 x6:Int) (x7 x8:List UInt8) (x9:List AV) (x10:Int):DT (Rd qe5):=
 .br (decide (x0 < (x9.length:Int)))
 (.br (qaw [.int .i64,.int .i64,.str] x9 x0)
 (.bi (qhj (intOf (cellAt x9 x0 0)) (intOf (cellAt x9 x0 1)) (strOf (cellAt x9 x0 2))) (fun y0=>
 .br (y0 != 0) (.at (.done 0)) (.at (.next ((IntKind.i64.wrap (x0 + 1),x1,x2,x3,x4,x5,x6,x7,x8,x9,x10)))))
 (.no))
 (.no))
 (.at (.done 1))
def qrk:qe5 -> DT (Rd qe5):=(fun v=>qvy v.1 v.2.1 v.2.2.1 v.2.2.2.1 v.2.2.2.2.1 v.2.2.2.2.2.1 v.2.2.2.2.2.2.1 v.2.2.2.2.2.2.2.1 v.2.2.2.2.2.2.2.2.1 v.2.2.2.2.2.2.2.2.2.1 v.2.2.2.2.2.2.2.2.2.2)
def qt5 (v:qe5):Option (Nat × qe5):=qaC (qah (fun v=>(qrk v).ev) v)
theorem qt6 (v):qt5 v = qah (fun v=>(qrk v).ev) v:=qaa _
def qHJ:qbi:=LE (τ:=qe5) (hD qGx) (qt5) q1V
theorem q0Q:Go.Eng.Told IP (qab F53 0).1 (qab F53 0).2 (qHJ):=lp (inferInstance:Inhabited qe5) (hs:=qGx) qrk qsy qt6
abbrev qcU:Type:=(List AV × Int × Int) ⊕ (List AV × Int × Int × List AV)
def qyJ:List PSt:=[⟨[(1008801,.junk),(0,.view 3),(3,.nils 2),(4,.int .i64),(5,.nils 2),(6,.int .i64)],[],0,0⟩,⟨[(1008801,.junk),(0,.view 3),(3,.own 0 0),(4,.int .i64),(5,.nils 2),(6,.int .i64)],[(0,.arr 2 false)],1,0⟩]
def qMu (x0:List AV) (x1 x2:Int):X × St:=(.exit 2,
 ⟨[(0,.view 3 x0),(3,.nils ⟨2,.nil⟩),(4,.int .i64 x1),(5,.nils ⟨2,.nil⟩),(6,.int .i64 x2)],[],0,0⟩)
def qMv (x0:List AV) (x1 x2:Int) (x3:List AV):X × St:=(.exit 2,
 ⟨[(0,.view 3 x0),(3,.own 0 0 none),(4,.int .i64 x1),(5,.nils ⟨2,.nil⟩),(6,.int .i64 x2)],[(0,.arr 2 x3 false)],1,0⟩)
def qWy:List (qcU -> X × St):=[fun w=>(k3 qMu) ((sl w)),fun w=>(k4 qMv) ((sr w))]
def qCt (x0:List AV) (x1 x2:Int):DT (Rd qcU):=
 .br (decide (x2 < 0)) (.no) (.at (.done 0))
def qpI (x0:List AV) (x1 x2:Int) (x3:List AV):DT (Rd qcU):=
 .br (decide (x2 < (x3.length:Int)))
 (.br (inB x3.length x2)
 (.br (okP [.str] x3 x2.toNat 0)
 (.br (qaw [.int .i64,.int .i64,.str] x0 x1)
 (.br (qba (strOf (qb2 x3 x2.toNat 0)) (strOf (cellAt x0 x1 2))) (.at (.next ((.inr (x0,x1,IntKind.i64.wrap (x2 + 1),x3))))) (.at (.done 1)))
 (.no))
 (.no))
 (.no))
 (.at (.done 1))
def qig:qcU -> DT (Rd qcU):=(Sum.elim (fun v=>qCt v.1 v.2.1 v.2.2) (fun v=>qpI v.1 v.2.1 v.2.2.1 v.2.2.2))
def qge (v:qcU):Option (Nat × qcU):=qaC (qah (fun v=>(qig v).ev) v)
theorem qiU (v):qge v = qah (fun v=>(qig v).ev) v:=qaa _
def qzq:qbi:=LE (τ:=qcU) (hD qyJ) (qge) qWy
theorem qV3:Go.Eng.Told IP (qab F88 1).1 (qab F88 1).2 (qzq):=qaj (inferInstance:Inhabited qcU) (hs:=qyJ) (st:=qig) (L:=[]) qsy (qae (l:=[]) (by kernel_rfl) trivial) (qiU) (fun v=>match v with | (.inl v)=>by kernel_rfl | (.inr v)=>by kernel_rfl) (fun v=>match v with | (.inl v)=>by kernel_rfl | (.inr v)=>by kernel_rfl)
abbrev qcv:Type:=(List AV × Int) ⊕ (List AV × Int × List AV)
def qyI:List PSt:=[⟨[(1008800,.junk),(0,.view 3),(3,.nils 2),(4,.int .i64)],[],0,0⟩,⟨[(1008800,.junk),(0,.view 3),(3,.own 0 0),(4,.int .i64)],[(0,.arr 2 false)],1,0⟩]
def qMs (x0:List AV) (x1:Int):X × St:=(.exit 0,⟨[(3,.nils ⟨2,.nil⟩)],[],0,0⟩)
def qMt (x0:List AV) (x1:Int) (x2:List AV):X × St:=(.exit 0,⟨[(3,.own 0 0 none)],[(0,.arr 2 x2 false)],1,0⟩)
def qWx:List (qcv -> X × St):=[fun w=>(k2 qMs) ((sl w)),fun w=>(k3 qMt) ((sr w))]
def qpG (x0:List AV) (x1:Int):DT (Rd qcv):=
 .br (decide (x1 < (x0.length:Int)))
 (.bi (pj 0 (qge (Sum.inl (x0,x1,0)))) (fun y0=>
 .br (leB (sl y0).2.2 0 && true)
 (.br (qaw [.int .i64,.int .i64,.str] (sl y0).1 (sl y0).2.1)
 (.br (decide ((sl y0).2.2 < 0))
 (.no)
 (.br (qaw [.int .i64,.int .i64,.str] (sl y0).1 (sl y0).2.1)
 (.br (leB (sl y0).2.2 0)
 (.at (.next ((.inr ((sl y0).1,IntKind.i64.wrap ((sl y0).2.1 + 1),[AV.agg [AV.str (strOf (cellAt (sl y0).1 (sl y0).2.1 2)),.int .i64 (intOf (cellAt (sl y0).1 (sl y0).2.1 1))]])))))
 (.no))
 (.no)))
 (.no))
 (.no))
 (.bi (pj 1 (qge (Sum.inl (x0,x1,0)))) (fun y0=>
 .br (leB (sr y0).2.2.1 (sr y0).2.2.2.length && true && decide (0 + (sr y0).2.2.1.toNat <= (sr y0).2.2.2.length))
 (.br (decide ((List.take ((sr y0).2.2.1.toNat - 0) (sr y0).2.2.2).length = 0) && decide (0 + ((sr y0).2.2.1.toNat - 0) <= (sr y0).2.2.2.length))
 (.br (qaw [.int .i64,.int .i64,.str] (sr y0).1 (sr y0).2.1)
 (.br (decide ((sr y0).2.2.1 < ((sr y0).2.2.2.length:Int)))
 (.br (inB (sr y0).2.2.2.length (sr y0).2.2.1)
 (.br (okP [.str] (sr y0).2.2.2 (sr y0).2.2.1.toNat 0)
 (.br (qaw [.int .i64,.int .i64,.str] (sr y0).1 (sr y0).2.1)
 (.br (strOf (qb2 (sr y0).2.2.2 (sr y0).2.2.1.toNat 0) == strOf (cellAt (sr y0).1 (sr y0).2.1 2))
 (.br (inB (sr y0).2.2.2.length (sr y0).2.2.1)
 (.br (okP [.int .i64] (sr y0).2.2.2 (sr y0).2.2.1.toNat 1)
 (.br (qaw [.int .i64,.int .i64,.str] (sr y0).1 (sr y0).2.1)
 (.br (leB (IntKind.i64.wrap ((sr y0).2.2.1 + 1)) (sr y0).2.2.2.length && true)
 (.br (decide ((qaF (sr y0).2.2.2 (0 + (IntKind.i64.wrap ((sr y0).2.2.1 + 1)).toNat)).length = 0) && decide (2 = 2))
 (.at (.next ((.inr ((sr y0).1,IntKind.i64.wrap ((sr y0).2.1 + 1),[AV.agg
 [AV.str (strOf (cellAt (sr y0).1 (sr y0).2.1 2)),
 .int .i64 (IntKind.i64.wrap (intOf (cellAt (sr y0).1 (sr y0).2.1 1) + intOf (qb2 (sr y0).2.2.2 (sr y0).2.2.1.toNat 1)))]])))))
 (.br (decide ((qaF (sr y0).2.2.2 (0 + (IntKind.i64.wrap ((sr y0).2.2.1 + 1)).toNat)).length ≠ 0) &&
 room (1 + (qaF (sr y0).2.2.2 (0 + (IntKind.i64.wrap ((sr y0).2.2.1 + 1)).toNat)).length) 24)
 (.at (.next ((.inr ((sr y0).1,IntKind.i64.wrap ((sr y0).2.1 + 1),AV.agg
 [AV.str (strOf (cellAt (sr y0).1 (sr y0).2.1 2)),
 .int .i64 (IntKind.i64.wrap (intOf (cellAt (sr y0).1 (sr y0).2.1 1) + intOf (qb2 (sr y0).2.2.2 (sr y0).2.2.1.toNat 1)))] ::
 qaF (sr y0).2.2.2 (0 + (IntKind.i64.wrap ((sr y0).2.2.1 + 1)).toNat))))))
 (.no)))
 (.no))
 (.no))
 (.no))
 (.no))
 (.br (qaw [.int .i64,.int .i64,.str] (sr y0).1 (sr y0).2.1)
 (.br (leB (sr y0).2.2.1 (sr y0).2.2.2.length && true)
 (.br (decide ((qaF (sr y0).2.2.2 (0 + (sr y0).2.2.1.toNat)).length = 0) && decide (2 = 2))
 (.at (.next ((.inr ((sr y0).1,IntKind.i64.wrap ((sr y0).2.1 + 1),[AV.agg [AV.str (strOf (cellAt (sr y0).1 (sr y0).2.1 2)),.int .i64 (intOf (cellAt (sr y0).1 (sr y0).2.1 1))]])))))
 (.br (decide ((qaF (sr y0).2.2.2 (0 + (sr y0).2.2.1.toNat)).length ≠ 0) && room (1 + (qaF (sr y0).2.2.2 (0 + (sr y0).2.2.1.toNat)).length) 24)
 (.at (.next ((.inr ((sr y0).1,IntKind.i64.wrap ((sr y0).2.1 + 1),AV.agg [AV.str (strOf (cellAt (sr y0).1 (sr y0).2.1 2)),.int .i64 (intOf (cellAt (sr y0).1 (sr y0).2.1 1))] ::
 qaF (sr y0).2.2.2 (0 + (sr y0).2.2.1.toNat))))))
 (.no)))
 (.no))
 (.no)))
 (.no))
 (.no))
 (.no))
 (.br (qaw [.int .i64,.int .i64,.str] (sr y0).1 (sr y0).2.1)
 (.br (leB (sr y0).2.2.1 (sr y0).2.2.2.length && true)
 (.br (decide ((qaF (sr y0).2.2.2 (0 + (sr y0).2.2.1.toNat)).length = 0) && decide (2 = 2))
 (.at (.next ((.inr ((sr y0).1,IntKind.i64.wrap ((sr y0).2.1 + 1),[AV.agg [AV.str (strOf (cellAt (sr y0).1 (sr y0).2.1 2)),.int .i64 (intOf (cellAt (sr y0).1 (sr y0).2.1 1))]])))))
 (.br (decide ((qaF (sr y0).2.2.2 (0 + (sr y0).2.2.1.toNat)).length ≠ 0) && room (1 + (qaF (sr y0).2.2.2 (0 + (sr y0).2.2.1.toNat)).length) 24)
 (.at (.next ((.inr ((sr y0).1,IntKind.i64.wrap ((sr y0).2.1 + 1),AV.agg [AV.str (strOf (cellAt (sr y0).1 (sr y0).2.1 2)),.int .i64 (intOf (cellAt (sr y0).1 (sr y0).2.1 1))] ::
 qaF (sr y0).2.2.2 (0 + (sr y0).2.2.1.toNat))))))
 (.no)))
 (.no))
 (.no)))
 (.no))
 (.br (decide ((List.take ((sr y0).2.2.1.toNat - 0) (sr y0).2.2.2).length ≠ 0) &&
 (decide (0 + ((sr y0).2.2.1.toNat - 0) <= (sr y0).2.2.2.length) && room (List.take ((sr y0).2.2.1.toNat - 0) (sr y0).2.2.2).length 24))
 (.br (qaw [.int .i64,.int .i64,.str] (sr y0).1 (sr y0).2.1)
 (.br (decide ((sr y0).2.2.1 < ((sr y0).2.2.2.length:Int)))
 (.br (inB (sr y0).2.2.2.length (sr y0).2.2.1)
 (.br (okP [.str] (sr y0).2.2.2 (sr y0).2.2.1.toNat 0)
 (.br (qaw [.int .i64,.int .i64,.str] (sr y0).1 (sr y0).2.1)
 (.br (strOf (qb2 (sr y0).2.2.2 (sr y0).2.2.1.toNat 0) == strOf (cellAt (sr y0).1 (sr y0).2.1 2))
 (.br (inB (sr y0).2.2.2.length (sr y0).2.2.1)
 (.br (okP [.int .i64] (sr y0).2.2.2 (sr y0).2.2.1.toNat 1)
 (.br (qaw [.int .i64,.int .i64,.str] (sr y0).1 (sr y0).2.1)
 (.br (room ((List.take ((sr y0).2.2.1.toNat - 0) (sr y0).2.2.2).length + 1) 24)
 (.br (leB (IntKind.i64.wrap ((sr y0).2.2.1 + 1)) (sr y0).2.2.2.length && true)
 (.br (decide ((qaF (sr y0).2.2.2 (0 + (IntKind.i64.wrap ((sr y0).2.2.1 + 1)).toNat)).length = 0) && decide (2 = 2))
 (.at (.next ((.inr ((sr y0).1,IntKind.i64.wrap ((sr y0).2.1 + 1),List.take ((sr y0).2.2.1.toNat - 0) (sr y0).2.2.2 ++
 [AV.agg
 [AV.str (strOf (cellAt (sr y0).1 (sr y0).2.1 2)),
 .int .i64 (IntKind.i64.wrap (intOf (cellAt (sr y0).1 (sr y0).2.1 1) + intOf (qb2 (sr y0).2.2.2 (sr y0).2.2.1.toNat 1)))]])))))
 (.br (decide ((qaF (sr y0).2.2.2 (0 + (IntKind.i64.wrap ((sr y0).2.2.1 + 1)).toNat)).length ≠ 0) &&
 room
 ((List.take ((sr y0).2.2.1.toNat - 0) (sr y0).2.2.2 ++
 [AV.agg
 [AV.str (strOf (cellAt (sr y0).1 (sr y0).2.1 2)),
 .int .i64 (IntKind.i64.wrap (intOf (cellAt (sr y0).1 (sr y0).2.1 1) + intOf (qb2 (sr y0).2.2.2 (sr y0).2.2.1.toNat 1)))]]).length +
 (qaF (sr y0).2.2.2 (0 + (IntKind.i64.wrap ((sr y0).2.2.1 + 1)).toNat)).length)
 24)
 (.at (.next ((.inr ((sr y0).1,IntKind.i64.wrap ((sr y0).2.1 + 1),List.take ((sr y0).2.2.1.toNat - 0) (sr y0).2.2.2 ++
 [AV.agg
 [AV.str (strOf (cellAt (sr y0).1 (sr y0).2.1 2)),
 .int .i64 (IntKind.i64.wrap (intOf (cellAt (sr y0).1 (sr y0).2.1 1) + intOf (qb2 (sr y0).2.2.2 (sr y0).2.2.1.toNat 1)))]] ++
 qaF (sr y0).2.2.2 (0 + (IntKind.i64.wrap ((sr y0).2.2.1 + 1)).toNat))))))
 (.no)))
 (.no))
 (.no))
 (.no))
 (.no))
 (.no))
 (.br (qaw [.int .i64,.int .i64,.str] (sr y0).1 (sr y0).2.1)
 (.br (room ((List.take ((sr y0).2.2.1.toNat - 0) (sr y0).2.2.2).length + 1) 24)
 (.br (leB (sr y0).2.2.1 (sr y0).2.2.2.length && true)
 (.br (decide ((qaF (sr y0).2.2.2 (0 + (sr y0).2.2.1.toNat)).length = 0) && decide (2 = 2))
 (.at (.next ((.inr ((sr y0).1,IntKind.i64.wrap ((sr y0).2.1 + 1),List.take ((sr y0).2.2.1.toNat - 0) (sr y0).2.2.2 ++
 [AV.agg [AV.str (strOf (cellAt (sr y0).1 (sr y0).2.1 2)),.int .i64 (intOf (cellAt (sr y0).1 (sr y0).2.1 1))]])))))
 (.br (decide ((qaF (sr y0).2.2.2 (0 + (sr y0).2.2.1.toNat)).length ≠ 0) &&
 room
 ((List.take ((sr y0).2.2.1.toNat - 0) (sr y0).2.2.2 ++
 [AV.agg [AV.str (strOf (cellAt (sr y0).1 (sr y0).2.1 2)),.int .i64 (intOf (cellAt (sr y0).1 (sr y0).2.1 1))]]).length +
 (qaF (sr y0).2.2.2 (0 + (sr y0).2.2.1.toNat)).length)
 24)
 (.at (.next ((.inr ((sr y0).1,IntKind.i64.wrap ((sr y0).2.1 + 1),List.take ((sr y0).2.2.1.toNat - 0) (sr y0).2.2.2 ++
 [AV.agg [AV.str (strOf (cellAt (sr y0).1 (sr y0).2.1 2)),.int .i64 (intOf (cellAt (sr y0).1 (sr y0).2.1 1))]] ++
 qaF (sr y0).2.2.2 (0 + (sr y0).2.2.1.toNat))))))
 (.no)))
 (.no))
 (.no))
 (.no)))
 (.no))
 (.no))
 (.no))
 (.br (qaw [.int .i64,.int .i64,.str] (sr y0).1 (sr y0).2.1)
 (.br (room ((List.take ((sr y0).2.2.1.toNat - 0) (sr y0).2.2.2).length + 1) 24)
 (.br (leB (sr y0).2.2.1 (sr y0).2.2.2.length && true)
 (.br (decide ((qaF (sr y0).2.2.2 (0 + (sr y0).2.2.1.toNat)).length = 0) && decide (2 = 2))
 (.at (.next ((.inr ((sr y0).1,IntKind.i64.wrap ((sr y0).2.1 + 1),List.take ((sr y0).2.2.1.toNat - 0) (sr y0).2.2.2 ++
 [AV.agg [AV.str (strOf (cellAt (sr y0).1 (sr y0).2.1 2)),.int .i64 (intOf (cellAt (sr y0).1 (sr y0).2.1 1))]])))))
 (.br (decide ((qaF (sr y0).2.2.2 (0 + (sr y0).2.2.1.toNat)).length ≠ 0) &&
 room
 ((List.take ((sr y0).2.2.1.toNat - 0) (sr y0).2.2.2 ++
 [AV.agg [AV.str (strOf (cellAt (sr y0).1 (sr y0).2.1 2)),.int .i64 (intOf (cellAt (sr y0).1 (sr y0).2.1 1))]]).length +
 (qaF (sr y0).2.2.2 (0 + (sr y0).2.2.1.toNat)).length)
 24)
 (.at (.next ((.inr ((sr y0).1,IntKind.i64.wrap ((sr y0).2.1 + 1),List.take ((sr y0).2.2.1.toNat - 0) (sr y0).2.2.2 ++
 [AV.agg [AV.str (strOf (cellAt (sr y0).1 (sr y0).2.1 2)),.int .i64 (intOf (cellAt (sr y0).1 (sr y0).2.1 1))]] ++
 qaF (sr y0).2.2.2 (0 + (sr y0).2.2.1.toNat))))))
 (.no)))
 (.no))
 (.no))
 (.no)))
 (.no))
 (.no)))
 (.no))
 (.no)))
 (.at (.done 0))
def qpH (x0:List AV) (x1:Int) (x2:List AV):DT (Rd qcv):=
 .br (decide (x1 < (x0.length:Int)))
 (.bi (pj 0 (qge (Sum.inr (x0,x1,0,x2)))) (fun y0=>
 .br (leB (sl y0).2.2 0 && true)
 (.br (qaw [.int .i64,.int .i64,.str] (sl y0).1 (sl y0).2.1)
 (.br (decide ((sl y0).2.2 < 0))
 (.no)
 (.br (qaw [.int .i64,.int .i64,.str] (sl y0).1 (sl y0).2.1)
 (.br (leB (sl y0).2.2 0)
 (.at (.next ((.inr ((sl y0).1,IntKind.i64.wrap ((sl y0).2.1 + 1),[AV.agg [AV.str (strOf (cellAt (sl y0).1 (sl y0).2.1 2)),.int .i64 (intOf (cellAt (sl y0).1 (sl y0).2.1 1))]])))))
 (.no))
 (.no)))
 (.no))
 (.no))
 (.bi (pj 1 (qge (Sum.inr (x0,x1,0,x2)))) (fun y0=>
 .br (leB (sr y0).2.2.1 (sr y0).2.2.2.length && true && decide (0 + (sr y0).2.2.1.toNat <= (sr y0).2.2.2.length))
 (.br (decide ((List.take ((sr y0).2.2.1.toNat - 0) (sr y0).2.2.2).length = 0) && decide (0 + ((sr y0).2.2.1.toNat - 0) <= (sr y0).2.2.2.length))
 (.br (qaw [.int .i64,.int .i64,.str] (sr y0).1 (sr y0).2.1)
 (.br (decide ((sr y0).2.2.1 < ((sr y0).2.2.2.length:Int)))
 (.br (inB (sr y0).2.2.2.length (sr y0).2.2.1)
 (.br (okP [.str] (sr y0).2.2.2 (sr y0).2.2.1.toNat 0)
 (.br (qaw [.int .i64,.int .i64,.str] (sr y0).1 (sr y0).2.1)
 (.br (strOf (qb2 (sr y0).2.2.2 (sr y0).2.2.1.toNat 0) == strOf (cellAt (sr y0).1 (sr y0).2.1 2))
 (.br (inB (sr y0).2.2.2.length (sr y0).2.2.1)
 (.br (okP [.int .i64] (sr y0).2.2.2 (sr y0).2.2.1.toNat 1)
 (.br (qaw [.int .i64,.int .i64,.str] (sr y0).1 (sr y0).2.1)
 (.br (leB (IntKind.i64.wrap ((sr y0).2.2.1 + 1)) (sr y0).2.2.2.length && true)
 (.br (decide ((qaF (sr y0).2.2.2 (0 + (IntKind.i64.wrap ((sr y0).2.2.1 + 1)).toNat)).length = 0) && decide (2 = 2))
 (.at (.next ((.inr ((sr y0).1,IntKind.i64.wrap ((sr y0).2.1 + 1),[AV.agg
 [AV.str (strOf (cellAt (sr y0).1 (sr y0).2.1 2)),
 .int .i64 (IntKind.i64.wrap (intOf (cellAt (sr y0).1 (sr y0).2.1 1) + intOf (qb2 (sr y0).2.2.2 (sr y0).2.2.1.toNat 1)))]])))))
 (.br (decide ((qaF (sr y0).2.2.2 (0 + (IntKind.i64.wrap ((sr y0).2.2.1 + 1)).toNat)).length ≠ 0) &&
 room (1 + (qaF (sr y0).2.2.2 (0 + (IntKind.i64.wrap ((sr y0).2.2.1 + 1)).toNat)).length) 24)
 (.at (.next ((.inr ((sr y0).1,IntKind.i64.wrap ((sr y0).2.1 + 1),AV.agg
 [AV.str (strOf (cellAt (sr y0).1 (sr y0).2.1 2)),
 .int .i64 (IntKind.i64.wrap (intOf (cellAt (sr y0).1 (sr y0).2.1 1) + intOf (qb2 (sr y0).2.2.2 (sr y0).2.2.1.toNat 1)))] ::
 qaF (sr y0).2.2.2 (0 + (IntKind.i64.wrap ((sr y0).2.2.1 + 1)).toNat))))))
 (.no)))
 (.no))
 (.no))
 (.no))
 (.no))
 (.br (qaw [.int .i64,.int .i64,.str] (sr y0).1 (sr y0).2.1)
 (.br (leB (sr y0).2.2.1 (sr y0).2.2.2.length && true)
 (.br (decide ((qaF (sr y0).2.2.2 (0 + (sr y0).2.2.1.toNat)).length = 0) && decide (2 = 2))
 (.at (.next ((.inr ((sr y0).1,IntKind.i64.wrap ((sr y0).2.1 + 1),[AV.agg [AV.str (strOf (cellAt (sr y0).1 (sr y0).2.1 2)),.int .i64 (intOf (cellAt (sr y0).1 (sr y0).2.1 1))]])))))
 (.br (decide ((qaF (sr y0).2.2.2 (0 + (sr y0).2.2.1.toNat)).length ≠ 0) && room (1 + (qaF (sr y0).2.2.2 (0 + (sr y0).2.2.1.toNat)).length) 24)
 (.at (.next ((.inr ((sr y0).1,IntKind.i64.wrap ((sr y0).2.1 + 1),AV.agg [AV.str (strOf (cellAt (sr y0).1 (sr y0).2.1 2)),.int .i64 (intOf (cellAt (sr y0).1 (sr y0).2.1 1))] ::
 qaF (sr y0).2.2.2 (0 + (sr y0).2.2.1.toNat))))))
 (.no)))
 (.no))
 (.no)))
 (.no))
 (.no))
 (.no))
 (.br (qaw [.int .i64,.int .i64,.str] (sr y0).1 (sr y0).2.1)
 (.br (leB (sr y0).2.2.1 (sr y0).2.2.2.length && true)
 (.br (decide ((qaF (sr y0).2.2.2 (0 + (sr y0).2.2.1.toNat)).length = 0) && decide (2 = 2))
 (.at (.next ((.inr ((sr y0).1,IntKind.i64.wrap ((sr y0).2.1 + 1),[AV.agg [AV.str (strOf (cellAt (sr y0).1 (sr y0).2.1 2)),.int .i64 (intOf (cellAt (sr y0).1 (sr y0).2.1 1))]])))))
 (.br (decide ((qaF (sr y0).2.2.2 (0 + (sr y0).2.2.1.toNat)).length ≠ 0) && room (1 + (qaF (sr y0).2.2.2 (0 + (sr y0).2.2.1.toNat)).length) 24)
 (.at (.next ((.inr ((sr y0).1,IntKind.i64.wrap ((sr y0).2.1 + 1),AV.agg [AV.str (strOf (cellAt (sr y0).1 (sr y0).2.1 2)),.int .i64 (intOf (cellAt (sr y0).1 (sr y0).2.1 1))] ::
 qaF (sr y0).2.2.2 (0 + (sr y0).2.2.1.toNat))))))
 (.no)))
 (.no))
 (.no)))
 (.no))
 (.br (decide ((List.take ((sr y0).2.2.1.toNat - 0) (sr y0).2.2.2).length ≠ 0) &&
 (decide (0 + ((sr y0).2.2.1.toNat - 0) <= (sr y0).2.2.2.length) && room (List.take ((sr y0).2.2.1.toNat - 0) (sr y0).2.2.2).length 24))
 (.br (qaw [.int .i64,.int .i64,.str] (sr y0).1 (sr y0).2.1)
 (.br (decide ((sr y0).2.2.1 < ((sr y0).2.2.2.length:Int)))
 (.br (inB (sr y0).2.2.2.length (sr y0).2.2.1)
 (.br (okP [.str] (sr y0).2.2.2 (sr y0).2.2.1.toNat 0)
 (.br (qaw [.int .i64,.int .i64,.str] (sr y0).1 (sr y0).2.1)
 (.br (strOf (qb2 (sr y0).2.2.2 (sr y0).2.2.1.toNat 0) == strOf (cellAt (sr y0).1 (sr y0).2.1 2))
 (.br (inB (sr y0).2.2.2.length (sr y0).2.2.1)
 (.br (okP [.int .i64] (sr y0).2.2.2 (sr y0).2.2.1.toNat 1)
 (.br (qaw [.int .i64,.int .i64,.str] (sr y0).1 (sr y0).2.1)
 (.br (room ((List.take ((sr y0).2.2.1.toNat - 0) (sr y0).2.2.2).length + 1) 24)
 (.br (leB (IntKind.i64.wrap ((sr y0).2.2.1 + 1)) (sr y0).2.2.2.length && true)
 (.br (decide ((qaF (sr y0).2.2.2 (0 + (IntKind.i64.wrap ((sr y0).2.2.1 + 1)).toNat)).length = 0) && decide (2 = 2))
 (.at (.next ((.inr ((sr y0).1,IntKind.i64.wrap ((sr y0).2.1 + 1),List.take ((sr y0).2.2.1.toNat - 0) (sr y0).2.2.2 ++
 [AV.agg
 [AV.str (strOf (cellAt (sr y0).1 (sr y0).2.1 2)),
 .int .i64 (IntKind.i64.wrap (intOf (cellAt (sr y0).1 (sr y0).2.1 1) + intOf (qb2 (sr y0).2.2.2 (sr y0).2.2.1.toNat 1)))]])))))
 (.br (decide ((qaF (sr y0).2.2.2 (0 + (IntKind.i64.wrap ((sr y0).2.2.1 + 1)).toNat)).length ≠ 0) &&
 room
 ((List.take ((sr y0).2.2.1.toNat - 0) (sr y0).2.2.2 ++
 [AV.agg
 [AV.str (strOf (cellAt (sr y0).1 (sr y0).2.1 2)),
 .int .i64 (IntKind.i64.wrap (intOf (cellAt (sr y0).1 (sr y0).2.1 1) + intOf (qb2 (sr y0).2.2.2 (sr y0).2.2.1.toNat 1)))]]).length +
 (qaF (sr y0).2.2.2 (0 + (IntKind.i64.wrap ((sr y0).2.2.1 + 1)).toNat)).length)
 24)
 (.at (.next ((.inr ((sr y0).1,IntKind.i64.wrap ((sr y0).2.1 + 1),List.take ((sr y0).2.2.1.toNat - 0) (sr y0).2.2.2 ++
 [AV.agg
 [AV.str (strOf (cellAt (sr y0).1 (sr y0).2.1 2)),
 .int .i64 (IntKind.i64.wrap (intOf (cellAt (sr y0).1 (sr y0).2.1 1) + intOf (qb2 (sr y0).2.2.2 (sr y0).2.2.1.toNat 1)))]] ++
 qaF (sr y0).2.2.2 (0 + (IntKind.i64.wrap ((sr y0).2.2.1 + 1)).toNat))))))
 (.no)))
 (.no))
 (.no))
 (.no))
 (.no))
 (.no))
 (.br (qaw [.int .i64,.int .i64,.str] (sr y0).1 (sr y0).2.1)
 (.br (room ((List.take ((sr y0).2.2.1.toNat - 0) (sr y0).2.2.2).length + 1) 24)
 (.br (leB (sr y0).2.2.1 (sr y0).2.2.2.length && true)
 (.br (decide ((qaF (sr y0).2.2.2 (0 + (sr y0).2.2.1.toNat)).length = 0) && decide (2 = 2))
 (.at (.next ((.inr ((sr y0).1,IntKind.i64.wrap ((sr y0).2.1 + 1),List.take ((sr y0).2.2.1.toNat - 0) (sr y0).2.2.2 ++
 [AV.agg [AV.str (strOf (cellAt (sr y0).1 (sr y0).2.1 2)),.int .i64 (intOf (cellAt (sr y0).1 (sr y0).2.1 1))]])))))
 (.br (decide ((qaF (sr y0).2.2.2 (0 + (sr y0).2.2.1.toNat)).length ≠ 0) &&
 room
 ((List.take ((sr y0).2.2.1.toNat - 0) (sr y0).2.2.2 ++
 [AV.agg [AV.str (strOf (cellAt (sr y0).1 (sr y0).2.1 2)),.int .i64 (intOf (cellAt (sr y0).1 (sr y0).2.1 1))]]).length +
 (qaF (sr y0).2.2.2 (0 + (sr y0).2.2.1.toNat)).length)
 24)
 (.at (.next ((.inr ((sr y0).1,IntKind.i64.wrap ((sr y0).2.1 + 1),List.take ((sr y0).2.2.1.toNat - 0) (sr y0).2.2.2 ++
 [AV.agg [AV.str (strOf (cellAt (sr y0).1 (sr y0).2.1 2)),.int .i64 (intOf (cellAt (sr y0).1 (sr y0).2.1 1))]] ++
 qaF (sr y0).2.2.2 (0 + (sr y0).2.2.1.toNat))))))
 (.no)))
 (.no))
 (.no))
 (.no)))
 (.no))
 (.no))
 (.no))
 (.br (qaw [.int .i64,.int .i64,.str] (sr y0).1 (sr y0).2.1)
 (.br (room ((List.take ((sr y0).2.2.1.toNat - 0) (sr y0).2.2.2).length + 1) 24)
 (.br (leB (sr y0).2.2.1 (sr y0).2.2.2.length && true)
 (.br (decide ((qaF (sr y0).2.2.2 (0 + (sr y0).2.2.1.toNat)).length = 0) && decide (2 = 2))
 (.at (.next ((.inr ((sr y0).1,IntKind.i64.wrap ((sr y0).2.1 + 1),List.take ((sr y0).2.2.1.toNat - 0) (sr y0).2.2.2 ++
 [AV.agg [AV.str (strOf (cellAt (sr y0).1 (sr y0).2.1 2)),.int .i64 (intOf (cellAt (sr y0).1 (sr y0).2.1 1))]])))))
 (.br (decide ((qaF (sr y0).2.2.2 (0 + (sr y0).2.2.1.toNat)).length ≠ 0) &&
 room
 ((List.take ((sr y0).2.2.1.toNat - 0) (sr y0).2.2.2 ++
 [AV.agg [AV.str (strOf (cellAt (sr y0).1 (sr y0).2.1 2)),.int .i64 (intOf (cellAt (sr y0).1 (sr y0).2.1 1))]]).length +
 (qaF (sr y0).2.2.2 (0 + (sr y0).2.2.1.toNat)).length)
 24)
 (.at (.next ((.inr ((sr y0).1,IntKind.i64.wrap ((sr y0).2.1 + 1),List.take ((sr y0).2.2.1.toNat - 0) (sr y0).2.2.2 ++
 [AV.agg [AV.str (strOf (cellAt (sr y0).1 (sr y0).2.1 2)),.int .i64 (intOf (cellAt (sr y0).1 (sr y0).2.1 1))]] ++
 qaF (sr y0).2.2.2 (0 + (sr y0).2.2.1.toNat))))))
 (.no)))
 (.no))
 (.no))
 (.no)))
 (.no))
 (.no)))
 (.no))
 (.no)))
 (.at (.done 1))
def qif:qcv -> DT (Rd qcv):=(Sum.elim (fun v=>qpG v.1 v.2) (fun v=>qpH v.1 v.2.1 v.2.2))
def qmM (v:qcv):Option (Nat × qcv):=qaC (qah (fun v=>(qif v).ev) v)
theorem qo5 (v):qmM v = qah (fun v=>(qif v).ev) v:=qaa _
def qzp:qbi:=LE (τ:=qcv) (hD qyI) (qmM) qWx
theorem qV2:Go.Eng.Told IP (qab F88 0).1 (qab F88 0).2 (qzp):=qaj (inferInstance:Inhabited qcv) (hs:=qyI) (st:=qif) (L:=[(1008801,qzq)]) qsy (qae (l:=[qab F88 1]) (by kernel_rfl) ⟨qal (by kernel_rfl) qV3,trivial⟩) (qo5) (fun v=>match v with | (.inl v)=>by kernel_rfl | (.inr v)=>by kernel_rfl) (fun v=>match v with | (.inl v)=>by kernel_rfl | (.inr v)=>by kernel_rfl)
abbrev qDN:Type:=List AV
def qJC:PArgs:=⟨[.view 3],[]⟩
def qKW:List PRes:=[⟨false,.view 2,[]⟩]
def qk7 (x0:List AV):DT qDN:=
 .bi (pj 0 (qmM (Sum.inl (x0,0)))) (fun y0=>
 .at ([]))
 (.bi (pj 1 (qmM (Sum.inl (x0,0)))) (fun y0=>
 .at ((sr y0).2.2))
 (.no))
def qmi (x0:List AV):Option qDN:=qaC (qk7 x0).ev
theorem qBv (x0):qmi x0 = (qk7 x0).ev:=qaa _
theorem qUE:FH IP 88 qJC qKW qmi:=qam (F:=F88) (L:=[(1008800,qzp)]) (t:=qk7) qsy (qae (l:=[qab F88 0,qab F88 1]) (by kernel_rfl) ⟨qal (by kernel_rfl) qV2,qu9 (by kernel_rfl),trivial⟩) (by kernel_rfl) (fun v=>by kernel_rfl) (fun _=>qaa _)
def T62:Tab:=(88,FE qJC qKW qmi) :: T61
theorem qEn:qau IP T62:=⟨qay qUE,qsy⟩
abbrev qe6:Type:=List AV × Int
def qGy:List PSt:=[⟨[(1005301,.junk),(5,.view 2),(6,.int .i64)],[],0,0⟩]
def qPY (x0:List AV) (x1:Int):X × St:=(.ret,⟨[(2,.int .i64 15)],[],0,0⟩)
def qPZ (x0:List AV) (x1:Int):X × St:=(.exit 2,⟨[(2,.junk)],[],0,0⟩)
def q1W:List (qe6 -> X × St):=[(k2 qPY),(k2 qPZ)]
def qvz (x0:List AV) (x1:Int):DT (Rd qe6):=
 .br (decide (x1 < (x0.length:Int)))
 (.br (qaw [.str,.int .i64] x0 x1)
 (.br (intOf (cellAt x0 x1 1) != 0) (.at (.done 0)) (.at (.next ((x0,IntKind.i64.wrap (x1 + 1))))))
 (.no))
 (.at (.done 1))
def qrl:qe6 -> DT (Rd qe6):=(fun v=>qvz v.1 v.2)
def qt7 (v:qe6):Option (Nat × qe6):=qaC (qah (fun v=>(qrl v).ev) v)
theorem qt8 (v):qt7 v = qah (fun v=>(qrl v).ev) v:=qaa _
def qHK:qbi:=LE (τ:=qe6) (hD qGy) (qt7) q1W
theorem q0R:Go.Eng.Told IP (qab F53 1).1 (qab F53 1).2 (qHK):=lp (inferInstance:Inhabited qe6) (hs:=qGy) qrl qEn qt8
abbrev qDh:Type:=Int
def qI6:PArgs:=⟨[.agg [.int .i64,.int .i64,.int .i64,.int .i64,.int .i64,.int .i64,.str,.str,.view 3,.int .u64]],[]⟩
def qKq:List PRes:=[⟨false,.int .i64,[]⟩]
def qky (x0 x1:Int) (x2 x3:Int) (x4 x5:Int) (x6 x7:List UInt8) (x8:List AV) (x9:Int):DT qDh:=
 .bi (qiN x6) (fun y0=>
 .br (!y0)
 (.at (4))
 (.bi (qmq x7 64 32) (fun y1=>
 .bi (br (!y1) (some true) (br (sm (qbf x1)) (some !gv (qbf x1)) none)) (fun y2=>
 .bi (br y2 (some true) (br (sm (qbf x2)) (some !gv (qbf x2)) none)) (fun y3=>
 .bi (br y3 (some true) (some (decide (x3 < 1)))) (fun y4=>
 .bi (br y4 (some true) (some (decide (x3 > 14)))) (fun y5=>
 .bi (br y5 (some true) (some (decide (x4 < 0)))) (fun y6=>
 .bi (br y6 (some true) (some (decide (x4 > 3)))) (fun y7=>
 .bi (br y7 (some true) (br (x5 != 0) (br (sm (qbf x5)) (some !gv (qbf x5)) none) (some false))) (fun y8=>
 .br (y8)
 (.at (1))
 (.bi (br (decide ((x8.length:Int) < 2)) (some true) (some (decide ((x8.length:Int) > 12)))) (fun y9=>
 .br (y9)
 (.at (5))
 (.bi (pj 0 (qt5 (0,x0,x1,x2,x3,x4,x5,x6,x7,x8,x9))) (fun y10=>
 .at (gv
 (qhj (intOf (cellAt y10.2.2.2.2.2.2.2.2.2.1 y10.1 0)) (intOf (cellAt y10.2.2.2.2.2.2.2.2.2.1 y10.1 1))
 (strOf (cellAt y10.2.2.2.2.2.2.2.2.2.1 y10.1 2)))))
 (.bi (pj 1 (qt5 (0,x0,x1,x2,x3,x4,x5,x6,x7,x8,x9))) (fun y10=>
 .bi (qmi y10.2.2.2.2.2.2.2.2.2.1) (fun y11=>
 .bi (pj 0 (qt7 (y11,0))) (fun y12=>
 .at (15))
 (.bi (pj 1 (qt7 (y11,0))) (fun y12=>
 .at (0))
 (.no)))
 (.no))
 (.no))))
 (.no)))
 (.no))
 (.no))
 (.no))
 (.no))
 (.no))
 (.no))
 (.no))
 (.no)))
 (.no)
def qlY (x0 x1:Int) (x2 x3:Int) (x4 x5:Int) (x6 x7:List UInt8) (x8:List AV) (x9:Int):Option qDh:=qaC (qky x0 x1 x2 x3 x4 x5 x6 x7 x8 x9).ev
theorem qAW (x0 x1 x2 x3 x4 x5 x6 x7 x8 x9):qlY x0 x1 x2 x3 x4 x5 x6 x7 x8 x9 = (qky x0 x1 x2 x3 x4 x5 x6 x7 x8 x9).ev:=qaa _
theorem qT8:FH IP 53 qI6 qKq (k10 qlY):=qam (F:=F53) (L:=[(1005300,qHJ),(1005301,qHK)]) (t:=(k10 qky)) qEn (qae (l:=[qab F53 0,qab F53 1]) (by kernel_rfl) ⟨qal (by kernel_rfl) q0Q,qal (by kernel_rfl) q0R,trivial⟩) (by kernel_rfl) (fun v=>by kernel_rfl) (fun _=>qaa _)
def T63:Tab:=(53,FE qI6 qKq (k10 qlY)) :: T62
theorem qEo:qau IP T63:=⟨qay qT8,qEn⟩
abbrev qcu:Type:=(List AV × Bool × Int × Int × Int × List UInt8) ⊕ (List AV × Bool × List AV × Int × Int × Int × List UInt8)
def qyF:List PSt:=[⟨[(1011300,.junk),(0,.view 4),(5,.nils 1),(6,.ref 0 0 0),(7,.bool)],[(0,.box [.int .i64,.int .i64,.int .i64,.str] false)],1,0⟩,⟨[(1011300,.junk),(0,.view 4),(5,.own 0 0),(6,.ref 1 0 0),(7,.bool)],[(0,.arr 1 false),(1,.box [.int .i64,.int .i64,.int .i64,.str] false)],2,0⟩]
def qMj (x0:List AV) (x1:Bool) (x2 x3 x4:Int) (x5:List UInt8):X × St:=(.ret,⟨[(4,.own 0 0 none),(5,.own 0 0 none)],[(0,.arr 1 [.int .i64 x2] false)],1,0⟩)
def qMk (x0:List AV) (x1:Bool) (x2 x3 x4:Int) (x5:List UInt8):X × St:=(.exit 0,⟨[(4,.junk),(5,.nils ⟨1,.nil⟩)],[],0,0⟩)
def qMl (x0:List AV) (x1:Bool) (x2:List AV) (x3 x4 x5:Int) (x6:List UInt8):X × St:=(.ret,⟨[(4,.own 0 0 none),(5,.own 0 0 none)],[(0,.arr 1 [.int .i64 x3] false)],1,0⟩)
def qMm (x0:List AV) (x1:Bool) (x2:List AV) (x3 x4 x5:Int) (x6:List UInt8):X × St:=(.ret,⟨[(4,.own 0 0 none),(5,.own 0 0 none)],[(0,.arr 1 (.int .i64 x3 :: x2) false)],1,0⟩)
def qMn (x0:List AV) (x1:Bool) (x2:List AV) (x3 x4 x5:Int) (x6:List UInt8):X × St:=(.exit 0,⟨[(4,.junk),(5,.own 0 0 none)],[(0,.arr 1 x2 false)],1,0⟩)
def qWu:List (qcu -> X × St):=[fun w=>(k6 qMj) ((sl w)),fun w=>(k6 qMk) ((sl w)),fun w=>(k7 qMl) ((sr w)),fun w=>(k7 qMm) ((sr w)),fun w=>(k7 qMn) ((sr w))]
def qpC (x0:List AV) (x1:Bool) (x2 x3 x4:Int) (x5:List UInt8):DT (Rd qcu):=
 .bi (br x1 (some true) (some false)) (fun y0=>
 .br (y0)
 (.br (x3 == 0)
 (.at (.done 0))
 (.bi (qcN x0 x3) (fun y1=>
 .at (.next ((.inr (x0,y1.2.2.2.2,[.int .i64 x2],y1.1,y1.2.1,y1.2.2.1,y1.2.2.2.1)))))
 (.no)))
 (.at (.done 1)))
 (.no)
def qpD (x0:List AV) (x1:Bool) (x2:List AV) (x3 x4 x5:Int) (x6:List UInt8):DT (Rd qcu):=
 .bi (br x1 (some (decide ((x2.length:Int) < 40))) (some false)) (fun y0=>
 .br (y0)
 (.br (decide (x2.length = 0) && decide (1 = 1))
 (.br (x4 == 0)
 (.at (.done 2))
 (.bi (qcN x0 x4) (fun y1=>
 .at (.next ((.inr (x0,y1.2.2.2.2,[.int .i64 x3],y1.1,y1.2.1,y1.2.2.1,y1.2.2.2.1)))))
 (.no)))
 (.br (decide (x2.length ≠ 0) && room (1 + x2.length) 8)
 (.br (x4 == 0)
 (.at (.done 3))
 (.bi (qcN x0 x4) (fun y1=>
 .at (.next ((.inr (x0,y1.2.2.2.2,.int .i64 x3 :: x2,y1.1,y1.2.1,y1.2.2.1,y1.2.2.2.1)))))
 (.no)))
 (.no)))
 (.at (.done 4)))
 (.no)
def qie:qcu -> DT (Rd qcu):=(Sum.elim (fun v=>qpC v.1 v.2.1 v.2.2.1 v.2.2.2.1 v.2.2.2.2.1 v.2.2.2.2.2) (fun v=>qpD v.1 v.2.1 v.2.2.1 v.2.2.2.1 v.2.2.2.2.1 v.2.2.2.2.2.1 v.2.2.2.2.2.2))
def qgd (v:qcu):Option (Nat × qcu):=qaC (qah (fun v=>(qie v).ev) v)
theorem qo2 (v):qgd v = qah (fun v=>(qie v).ev) v:=qaa _
def qzm:qbi:=LE (τ:=qcu) (hD qyF) (qgd) qWu
theorem qVZ:Go.Eng.Told IP (qab qWW 0).1 (qab qWW 0).2 (qzm):=qaj (inferInstance:Inhabited qcu) (hs:=qyF) (st:=qie) (L:=[]) qEo (qae (l:=[]) (by kernel_rfl) trivial) (qo2) (fun v=>match v with | (.inl v)=>by kernel_rfl | (.inr v)=>by kernel_rfl) (fun v=>match v with | (.inl v)=>by kernel_rfl | (.inr v)=>by kernel_rfl)
abbrev qDJ:Type:=List AV
def qJy:PArgs:=⟨[.view 4,.int .i64],[]⟩
def qKS:List PRes:=[⟨false,.view 1,[]⟩]
def qk3 (x0:List AV) (x1:Int):DT qDJ:=
 .bi (qcN x0 x1) (fun y0=>
 .bi (pj 0 (qgd (Sum.inl (x0,y0.2.2.2.2,y0.1,y0.2.1,y0.2.2.1,y0.2.2.2.1)))) (fun y1=>
 .at ([.int .i64 (sl y1).2.2.1]))
 (.bi (pj 1 (qgd (Sum.inl (x0,y0.2.2.2.2,y0.1,y0.2.1,y0.2.2.1,y0.2.2.2.1)))) (fun y1=>
 .at ([]))
 (.bi (pj 2 (qgd (Sum.inl (x0,y0.2.2.2.2,y0.1,y0.2.1,y0.2.2.1,y0.2.2.2.1)))) (fun y1=>
 .at ([.int .i64 (sr y1).2.2.2.1]))
 (.bi (pj 3 (qgd (Sum.inl (x0,y0.2.2.2.2,y0.1,y0.2.1,y0.2.2.1,y0.2.2.2.1)))) (fun y1=>
 .at (AV.int IntKind.i64 (sr y1).2.2.2.1 :: (sr y1).2.2.1))
 (.bi (pj 4 (qgd (Sum.inl (x0,y0.2.2.2.2,y0.1,y0.2.1,y0.2.2.1,y0.2.2.2.1)))) (fun y1=>
 .at ((sr y1).2.2.1))
 (.no))))))
 (.no)
def qmg (x0:List AV) (x1:Int):Option qDJ:=qaC (qk3 x0 x1).ev
theorem qBr (x0 x1):qmg x0 x1 = (qk3 x0 x1).ev:=qaa _
theorem qUA:FH IP 113 qJy qKS (k2 qmg):=qam (F:=qWW) (L:=[(1011300,qzm)]) (t:=(k2 qk3)) qEo (qae (l:=[qab qWW 0]) (by kernel_rfl) ⟨qal (by kernel_rfl) qVZ,trivial⟩) (by kernel_rfl) (fun v=>by kernel_rfl) (fun _=>qaa _)
def T64:Tab:=(113,FE qJy qKS (k2 qmg)) :: T63
theorem qEp:qau IP T64:=⟨qay qUA,qEo⟩
abbrev qe4:Type:=Int × List AV × Int
def qGw:List PSt:=[⟨[(1010500,.junk),(2,.int .i64),(7,.view 1),(8,.int .i64)],[],0,0⟩]
def qPU (x0:Int) (x1:List AV) (x2:Int):X × St:=(.ret,⟨[(6,.bool true)],[],0,0⟩)
def qPV (x0:Int) (x1:List AV) (x2:Int):X × St:=(.exit 0,⟨[(6,.junk)],[],0,0⟩)
def q1U:List (qe4 -> X × St):=[(k3 qPU),(k3 qPV)]
def qvx (x0:Int) (x1:List AV) (x2:Int):DT (Rd qe4):=
 .br (decide (x2 < (x1.length:Int)))
 (.br (qaw [.int .i64] x1 x2)
 (.br (intOf (cellAt x1 x2 0) == x0) (.at (.done 0)) (.at (.next ((x0,x1,IntKind.i64.wrap (x2 + 1))))))
 (.no))
 (.at (.done 1))
def qrj:qe4 -> DT (Rd qe4):=(fun v=>qvx v.1 v.2.1 v.2.2)
def qt3 (v:qe4):Option (Nat × qe4):=qaC (qah (fun v=>(qrj v).ev) v)
theorem qt4 (v):qt3 v = qah (fun v=>(qrj v).ev) v:=qaa _
def qHI:qbi:=LE (τ:=qe4) (hD qGw) (qt3) q1U
theorem q0P:Go.Eng.Told IP (qab qWR 0).1 (qab qWR 0).2 (qHI):=lp (inferInstance:Inhabited qe4) (hs:=qGw) qrj qEp qt4
abbrev qDg:Type:=Bool
def qI5:PArgs:=⟨[.view 4,.int .i64,.int .i64],[]⟩
def qKp:List PRes:=[⟨false,.bool,[]⟩]
def qkx (x0:List AV) (x1 x2:Int):DT qDg:=
 .bi (qmg x0 x1) (fun y0=>
 .bi (pj 0 (qt3 (x2,y0,0))) (fun y1=>
 .at (true))
 (.bi (pj 1 (qt3 (x2,y0,0))) (fun y1=>
 .at (false))
 (.no)))
 (.no)
def qga (x0:List AV) (x1 x2:Int):Option qDg:=qaC (qkx x0 x1 x2).ev
theorem qAV (x0 x1 x2):qga x0 x1 x2 = (qkx x0 x1 x2).ev:=qaa _
theorem qT7:FH IP 105 qI5 qKp (k3 qga):=qam (F:=qWR) (L:=[(1010500,qHI)]) (t:=(k3 qkx)) qEp (qae (l:=[qab qWR 0]) (by kernel_rfl) ⟨qal (by kernel_rfl) q0P,trivial⟩) (by kernel_rfl) (fun v=>by kernel_rfl) (fun _=>qaa _)
def T65:Tab:=(105,FE qI5 qKp (k3 qga)) :: T64
theorem qx4:qau IP T65:=⟨qay qT7,qEp⟩
end
end Go.Proofs.H53z

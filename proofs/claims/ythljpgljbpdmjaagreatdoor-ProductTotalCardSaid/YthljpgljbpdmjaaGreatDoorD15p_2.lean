/- Functions over plain data. Printed by a program of mine. -/
import Derived.Test.YthljpgljbpdmjaaGreatDoorD15p_1
import Derived.KernelRfl
set_option linter.unusedVariables false
set_option linter.unusedSimpArgs false
set_option linter.unnecessarySimpa false
namespace Go.Proofs.H15p
open Go Go.Eng
set_option maxRecDepth 100000
noncomputable section
abbrev qdh:Type:=List AV × List AV × Int × Int
def qA3:List PSt:=[⟨[(1005400,.junk),(0,.view 2),(8,.view 2),(9,.int .i64),(10,.int .i64)],[],0,0⟩]
def qPN (x0 x1:List AV) (x2 x3:Int):X × St:=(.ret,⟨[(0,.view 2 x0),(2,.int .i64 1)],[],0,0⟩)
def qPO (x0 x1:List AV) (x2 x3:Int):X × St:=(.exit 0,⟨[(0,.view 2 x0),(2,.junk)],[],0,0⟩)
def q0M:List (qdh -> X × St):=[(k4 qPN),(k4 qPO)]
def qkm (x0 x1:List AV) (x2 x3:Int):DT (Rd qdh):=
 .br (decide (x3 < x2))
 (.br (qaD [.int .i64,.int .i64] x1 x3)
 (.bi (br (decide (intOf (cellAt x1 x3 0) < 0)) (some true) (some (decide (intOf (cellAt x1 x3 0) > 1000000000000)))) (fun y0=>
 .bi (br y0 (some true) (some (decide (intOf (cellAt x1 x3 1) < 0)))) (fun y1=>
 .bi (br y1 (some true) (some (decide (intOf (cellAt x1 x3 1) > 1000000)))) (fun y2=>
 .br (y2) (.at (.done 0)) (.at (.next ((x0,x1,x2,IntKind.i64.wrap (x3 + 1))))))
 (.no))
 (.no))
 (.no))
 (.no))
 (.at (.done 1))
def qg6:qdh -> DT (Rd qdh):=(fun v=>qkm v.1 v.2.1 v.2.2.1 v.2.2.2)
def qoS (v:qdh):Option (Nat × qdh):=qay (qap (fun v=>(qg6 v).ev) v)
theorem qsj (v):qoS v = qap (fun v=>(qg6 v).ev) v:=qaa _
def qBJ:qbz:=LE (τ:=qdh) (hD qA3) (qoS) q0M
theorem q0f:Go.Eng.Told IP (qae F54 0).1 (qae F54 0).2 (qBJ):=lp (inferInstance:Inhabited qdh) (hs:=qA3) qg6 qHG qsj
abbrev qFQ:Type:=Int
def qL0:PArgs:=⟨[.agg [.int .i64,.int .i64]],[]⟩
def qNG:List PRes:=[⟨false,.int .i64,[]⟩]
def qlI (x0 x1:Int):DT qFQ:=
 .at (x0)
def qjG (x0 x1:Int):Option qFQ:=qay (qlI x0 x1).ev
theorem qC7 (x0 x1):qjG x0 x1 = (qlI x0 x1).ev:=qaa _
theorem qXJ:FH IP 72 qL0 qNG (k2 qjG):=fh F72 (k2 qlI) qHG
def T12:Tab:=(72,FE qL0 qNG (k2 qjG)) :: T11
theorem qHN:qai IP T12:=⟨qaj qXJ,qHG⟩
abbrev qe1:Type:=List AV × Int
def qKa:List PSt:=[⟨[(1007100,.junk),(0,.view 2),(1,.fn (.func 72) []),(5,.int .i64)],[],0,0⟩]
def qSp (x0:List AV) (x1:Int):X × St:=(.ret,⟨[(4,.bool false)],[],0,0⟩)
def qSq (x0:List AV) (x1:Int):X × St:=(.exit 0,⟨[(4,.junk)],[],0,0⟩)
def q4J:List (qe1 -> X × St):=[(k2 qSp),(k2 qSq)]
def qp9 (x0:List AV) (x1:Int):DT (Rd qe1):=
 .br (decide (x1 < (x0.length:Int)))
 (.br (qaD [.int .i64,.int .i64] x0 x1)
 (.bi (qjG (intOf (cellAt x0 x1 0)) (intOf (cellAt x0 x1 1))) (fun y0=>
 .br (qaD [.int .i64,.int .i64] x0 (IntKind.i64.wrap (x1 - 1)))
 (.bi (qjG (intOf (cellAt x0 (IntKind.i64.wrap (x1 - 1)) 0)) (intOf (cellAt x0 (IntKind.i64.wrap (x1 - 1)) 1))) (fun y1=>
 .br (decide (y0 <= y1)) (.at (.done 0)) (.at (.next ((x0,IntKind.i64.wrap (x1 + 1))))))
 (.no))
 (.no))
 (.no))
 (.no))
 (.at (.done 1))
def qkH:qe1 -> DT (Rd qe1):=(fun v=>qp9 v.1 v.2)
def qwC (v:qe1):Option (Nat × qe1):=qay (qap (fun v=>(qkH v).ev) v)
theorem qwD (v):qwC v = qap (fun v=>(qkH v).ev) v:=qaa _
def qKU:qbz:=LE (τ:=qe1) (hD qKa) (qwC) q4J
theorem q35:Go.Eng.Told IP (qae F71 0).1 (qae F71 0).2 (qKU):=lp (inferInstance:Inhabited qe1) (hs:=qKa) qkH qHN qwD
abbrev qTB:Type:=Bool
def qVR:PArgs:=⟨[.view 2,.fn (.func 72) []],[]⟩
def qWC:List PRes:=[⟨false,.bool,[]⟩]
def quW (x0:List AV):DT qTB:=
 .bi (pj 0 (qwC (x0,1))) (fun y0=>
 .at (false))
 (.bi (pj 1 (qwC (x0,1))) (fun y0=>
 .at (true))
 (.no))
def qv6 (x0:List AV):Option qTB:=qay (quW x0).ev
theorem qJi (x0):qv6 x0 = (quW x0).ev:=qaa _
theorem q2j:FH IP 71 qVR qWC qv6:=qag (F:=F71) (L:=[(1007100,qKU)]) (t:=quW) qHN (qab (l:=[qae F71 0]) (by kernel_rfl) ⟨qas (by kernel_rfl) q35,trivial⟩) (by kernel_rfl) (fun v=>by kernel_rfl) (fun _=>qaa _)
def T13:Tab:=(71,FE qVR qWC qv6) :: T12
theorem qUg:qai IP T13:=⟨qaj q2j,qHN⟩
abbrev qGt:Type:=Int
def qMB:PArgs:=⟨[.view 2],[]⟩
def qOh:List PRes:=[⟨false,.int .i64,[]⟩]
def qmg (x0:List AV):DT qGt:=
 .br (decide ((x0.length:Int) > 6))
 (.at (5))
 (.bi (pj 0 (qoS (x0,x0,(x0.length:Int),0))) (fun y0=>
 .at (1))
 (.bi (pj 1 (qoS (x0,x0,(x0.length:Int),0))) (fun y0=>
 .bi (qv6 y0.1) (fun y1=>
 .br (!y1)
 (.at (10))
 (.bi (br (decide ((y0.1.length:Int) > 0)) (br (qaD [.int .i64,.int .i64] y0.1 0) (some (intOf (cellAt y0.1 0 0) != 0)) none) (some false)) (fun y2=>
 .br (y2) (.at (1)) (.at (0)))
 (.no)))
 (.no))
 (.no)))
def qn0 (x0:List AV):Option qGt:=qay (qmg x0).ev
theorem qDD (x0):qn0 x0 = (qmg x0).ev:=qaa _
theorem qYo:FH IP 54 qMB qOh qn0:=qag (F:=F54) (L:=[(1005400,qBJ)]) (t:=qmg) qUg (qab (l:=[qae F54 0]) (by kernel_rfl) ⟨qas (by kernel_rfl) q0f,trivial⟩) (by kernel_rfl) (fun v=>by kernel_rfl) (fun _=>qaa _)
def T14:Tab:=(54,FE qMB qOh qn0) :: T13
theorem qUh:qai IP T14:=⟨qaj qYo,qUg⟩
abbrev qTH:Type:=Int
def qVW:PArgs:=⟨[.agg [.view 2,.bool,.int .i64,.int .i64,.bool]],[]⟩
def qWI:List PRes:=[⟨false,.int .i64,[]⟩]
def qu1 (x0:List AV) (x1:Bool) (x2 x3:Int) (x4:Bool):DT qTH:=
 .bi (qn0 x0) (fun y0=>
 .br (y0 != 0)
 (.at (y0))
 (.bi (br (decide (x2 < 1)) (some true) (some (decide (x2 > 4)))) (fun y1=>
 .bi (br y1 (some true) (some (decide (x3 < 1)))) (fun y2=>
 .bi (br y2 (some true) (some (decide (x3 > 6)))) (fun y3=>
 .br (y3) (.at (1)) (.at (0)))
 (.no))
 (.no))
 (.no)))
 (.no)
def qhv (x0:List AV) (x1:Bool) (x2 x3:Int) (x4:Bool):Option qTH:=qay (qu1 x0 x1 x2 x3 x4).ev
theorem qJo (x0 x1 x2 x3 x4):qhv x0 x1 x2 x3 x4 = (qu1 x0 x1 x2 x3 x4).ev:=qaa _
theorem q2o:FH IP 28 qVW qWI (k5 qhv):=fh F28 (k5 qu1) qUh
def T15:Tab:=(28,FE qVW qWI (k5 qhv)) :: T14
theorem qIc:qai IP T15:=⟨qaj q2o,qUh⟩
abbrev qer:Type:=List AV × Bool × Int × Int × Bool × List AV × Bool × Int × Int × Bool × Int × List UInt8 × List UInt8 × List UInt8 × Int × Int × Int × Int × List AV × Bool × Int × Int × Bool × List AV × Bool × Int × Int × Bool × List AV × List AV
def qKj:List PSt:=[⟨[(1001200,.junk),(3,.ref 0 0 0),(28,.agg [.view 2,.bool,.int .i64,.int .i64,.bool,.view 2,.bool,.int .i64,.int .i64,.bool]),(29,.int .i64)],[(0,.box [.str,.str,.str,.int .i64,.int .i64,.int .i64,.int .i64,.view 2,.bool,.int .i64,.int .i64,.bool,.view 2,.bool,.int .i64,.int .i64,.bool,.view 10,.view 6] false)],1,0⟩]
def qSK (x0:List AV) (x1:Bool) (x2 x3:Int) (x4:Bool) (x5:List AV) (x6:Bool) (x7 x8:Int) (x9:Bool) (x10:Int) (x11 x12 x13:List UInt8) (x14 x15:Int) (x16 x17:Int) (x18:List AV) (x19:Bool) (x20 x21:Int) (x22:Bool) (x23:List AV) (x24:Bool) (x25 x26:Int) (x27:Bool) (x28 x29:List AV):X × St:=(.ret,
 ⟨[(3,.ref 0 0 0),(6,.int .i64 (gv (qhv x0 x1 x2 x3 x4)))],[(0,
 .box
 [.str x11,.str x12,.str x13,.int .i64 x14,.int .i64 x15,.int .i64 x16,.int .i64 x17,.view 2 x18,.bool x19,
 .int .i64 x20,.int .i64 x21,.bool x22,.view 2 x23,.bool x24,.int .i64 x25,.int .i64 x26,.bool x27,.view 10 x28,
 .view 6 x29]
 false)],1,0⟩)
def qSL (x0:List AV) (x1:Bool) (x2 x3:Int) (x4:Bool) (x5:List AV) (x6:Bool) (x7 x8:Int) (x9:Bool) (x10:Int) (x11 x12 x13:List UInt8) (x14 x15:Int) (x16 x17:Int) (x18:List AV) (x19:Bool) (x20 x21:Int) (x22:Bool) (x23:List AV) (x24:Bool) (x25 x26:Int) (x27:Bool) (x28 x29:List AV):X × St:=(.ret,
 ⟨[(3,.ref 0 0 0),(6,.int .i64 (gv (qhv x5 x6 x7 x8 x9)))],[(0,
 .box
 [.str x11,.str x12,.str x13,.int .i64 x14,.int .i64 x15,.int .i64 x16,.int .i64 x17,.view 2 x18,.bool x19,
 .int .i64 x20,.int .i64 x21,.bool x22,.view 2 x23,.bool x24,.int .i64 x25,.int .i64 x26,.bool x27,.view 10 x28,
 .view 6 x29]
 false)],1,0⟩)
def qSM (x0:List AV) (x1:Bool) (x2 x3:Int) (x4:Bool) (x5:List AV) (x6:Bool) (x7 x8:Int) (x9:Bool) (x10:Int) (x11 x12 x13:List UInt8) (x14 x15:Int) (x16 x17:Int) (x18:List AV) (x19:Bool) (x20 x21:Int) (x22:Bool) (x23:List AV) (x24:Bool) (x25 x26:Int) (x27:Bool) (x28 x29:List AV):X × St:=(.exit 0,
 ⟨[(3,.ref 0 0 0),(6,.junk)],[(0,
 .box
 [.str x11,.str x12,.str x13,.int .i64 x14,.int .i64 x15,.int .i64 x16,.int .i64 x17,.view 2 x18,.bool x19,
 .int .i64 x20,.int .i64 x21,.bool x22,.view 2 x23,.bool x24,.int .i64 x25,.int .i64 x26,.bool x27,.view 10 x28,
 .view 6 x29]
 false)],1,0⟩)
def q4S:List (qer -> X × St):=[(k30 qSK),(k30 qSL),(k30 qSM)]
def qqi (x0:List AV) (x1:Bool) (x2 x3:Int) (x4:Bool) (x5:List AV) (x6:Bool) (x7 x8:Int) (x9:Bool) (x10:Int) (x11 x12 x13:List UInt8) (x14 x15:Int) (x16 x17:Int) (x18:List AV) (x19:Bool) (x20 x21:Int) (x22:Bool) (x23:List AV) (x24:Bool) (x25 x26:Int) (x27:Bool) (x28 x29:List AV):DT (Rd qer):=
 .br (decide (x10 < 2))
 (.br (decide (x10 = Int.ofNat 0))
 (.bi (qhv x0 x1 x2 x3 x4) (fun y0=>
 .br (y0 != 0)
 (.at (.done 0))
 (.at (.next ((x0,x1,x2,x3,x4,x5,x6,x7,x8,x9,IntKind.i64.wrap (x10 + 1),x11,x12,x13,x14,x15,x16,x17,x18,x19,x20,x21,x22,x23,x24,x25,x26,x27,x28,x29)))))
 (.no))
 (.br (decide (x10 = Int.ofNat 1))
 (.bi (qhv x5 x6 x7 x8 x9) (fun y0=>
 .br (y0 != 0)
 (.at (.done 1))
 (.at (.next ((x0,x1,x2,x3,x4,x5,x6,x7,x8,x9,IntKind.i64.wrap (x10 + 1),x11,x12,x13,x14,x15,x16,x17,x18,x19,x20,x21,x22,x23,x24,x25,x26,x27,x28,x29)))))
 (.no))
 (.no)))
 (.at (.done 2))
def qgF:qer -> DT (Rd qer):=(fun v=>qqi v.1 v.2.1 v.2.2.1 v.2.2.2.1 v.2.2.2.2.1 v.2.2.2.2.2.1 v.2.2.2.2.2.2.1 v.2.2.2.2.2.2.2.1 v.2.2.2.2.2.2.2.2.1 v.2.2.2.2.2.2.2.2.2.1 v.2.2.2.2.2.2.2.2.2.2.1 v.2.2.2.2.2.2.2.2.2.2.2.1 v.2.2.2.2.2.2.2.2.2.2.2.2.1 v.2.2.2.2.2.2.2.2.2.2.2.2.2.1 v.2.2.2.2.2.2.2.2.2.2.2.2.2.2.1 v.2.2.2.2.2.2.2.2.2.2.2.2.2.2.2.1 v.2.2.2.2.2.2.2.2.2.2.2.2.2.2.2.2.1 v.2.2.2.2.2.2.2.2.2.2.2.2.2.2.2.2.2.1 v.2.2.2.2.2.2.2.2.2.2.2.2.2.2.2.2.2.2.1 v.2.2.2.2.2.2.2.2.2.2.2.2.2.2.2.2.2.2.2.1 v.2.2.2.2.2.2.2.2.2.2.2.2.2.2.2.2.2.2.2.2.1 v.2.2.2.2.2.2.2.2.2.2.2.2.2.2.2.2.2.2.2.2.2.1 v.2.2.2.2.2.2.2.2.2.2.2.2.2.2.2.2.2.2.2.2.2.2.1 v.2.2.2.2.2.2.2.2.2.2.2.2.2.2.2.2.2.2.2.2.2.2.2.1 v.2.2.2.2.2.2.2.2.2.2.2.2.2.2.2.2.2.2.2.2.2.2.2.2.1 v.2.2.2.2.2.2.2.2.2.2.2.2.2.2.2.2.2.2.2.2.2.2.2.2.2.1 v.2.2.2.2.2.2.2.2.2.2.2.2.2.2.2.2.2.2.2.2.2.2.2.2.2.2.1 v.2.2.2.2.2.2.2.2.2.2.2.2.2.2.2.2.2.2.2.2.2.2.2.2.2.2.2.1 v.2.2.2.2.2.2.2.2.2.2.2.2.2.2.2.2.2.2.2.2.2.2.2.2.2.2.2.2.1 v.2.2.2.2.2.2.2.2.2.2.2.2.2.2.2.2.2.2.2.2.2.2.2.2.2.2.2.2.2)
def qsD (v:qer):Option (Nat × qer):=qay (qap (fun v=>(qgF v).ev) v)
theorem qwM (v):qsD v = qap (fun v=>(qgF v).ev) v:=qaa _
def qK3:qbz:=LE (τ:=qer) (hD qKj) (qsD) q4S
theorem q4e:Go.Eng.Told IP (qae F12 0).1 (qae F12 0).2 (qK3):=lp (inferInstance:Inhabited qer) (hs:=qKj) qgF qIc qwM
abbrev qyl:Type:=Int
def qpn:PArgs:=⟨[.agg [.int .i64,.int .i64,.str,.view 4]],[]⟩
def qpD:List PRes:=[⟨false,.int .i64,[]⟩]
abbrev qcc:Type:=Int -> Int -> (List UInt8) -> (List AV) -> Option qyl
def qs8 (G_u164q:qcc):Prop:=FH IP 84 qpn qpD (k4 G_u164q)
def qQW (G_u164q:qcc):Tab:=(84,FE qpn qpD (k4 G_u164q)) :: T15
theorem qm9 (G_u164q:qcc) (hG:qs8 G_u164q):qai IP (qQW G_u164q):=⟨qaj (hG),qIc⟩
abbrev qfo:Type:=Int × List AV × Int × Int
def qKF:List PSt:=[⟨[(1008400,.junk),(3,.int .i64),(7,.view 4),(8,.int .i64),(9,.int .i64)],[],0,0⟩]
def qTp (x0:Int) (x1:List AV) (x2 x3:Int):X × St:=(.exit 0,⟨[(3,.int .i64 x0)],[],0,0⟩)
def q5e:List (qfo -> X × St):=[(k4 qTp)]
def qqO (G_u164q:qcc) (x0:Int) (x1:List AV) (x2 x3:Int):DT (Rd qfo):=
 .br (decide (x3 < x2))
 (.br (qaD [.int .i64,.int .i64,.str,.slice 4] x1 x3)
 (.bi (G_u164q (intOf (cellAt x1 x3 0)) (intOf (cellAt x1 x3 1)) (strOf (cellAt x1 x3 2)) (qaq (cellAt x1 x3 3))) (fun y0=>
 .at (.next ((IntKind.i64.wrap (x0 + y0),x1,x2,IntKind.i64.wrap (x3 + 1)))))
 (.no))
 (.no))
 (.at (.done 0))
def qqN (G_u164q:qcc):qfo -> DT (Rd qfo):=(fun v=>qqO G_u164q v.1 v.2.1 v.2.2.1 v.2.2.2)
def qBF (G_u164q:qcc) (v:qfo):Option (Nat × qfo):=qay (qap (fun v=>(qqN G_u164q v).ev) v)
theorem qxf (G_u164q v):qBF G_u164q v = qap (fun v=>(qqN G_u164q v).ev) v:=qaa _
def qLp (G_u164q:qcc):qbz:=LE (τ:=qfo) (hD qKF) (qBF G_u164q) q5e
theorem q4A (G_u164q:qcc) (hG:qs8 G_u164q):Go.Eng.Told IP (qae F84 0).1 (qae F84 0).2 (qLp G_u164q):=qar (inferInstance:Inhabited qfo) (hs:=qKF) (st:=qqN G_u164q) (L:=[]) (qm9 G_u164q hG) (qab (l:=[]) (by kernel_rfl) trivial) (qxf G_u164q) (fun v=>by kernel_rfl) (fun v=>by kernel_rfl)
def quI (G_u164q:qcc) (x0 x1:Int) (x2:List UInt8) (x3:List AV):DT qyl:=
 .bi (pj 0 (qBF G_u164q (1,x3,(x3.length:Int),0))) (fun y0=>
 .at (y0.1))
 (.no)
def qem:Nat -> qcc
 | 0=>fun _ _ _ _=>none
 | n + 1=>fun x0 x1 x2 x3=>(quI ((qem n)) x0 x1 x2 x3).ev
def qtF (x0 x1:Int) (x2:List UInt8) (x3:List AV):Option qyl:=qka fun n=>(qem n) x0 x1 x2 x3
theorem qrp:∀ n,qs8 ((qem n))
 | 0=>(fun v y h=>nomatch h)
 | n + 1=>have hG:=qrp n
 qag (F:=F84) (L:=[(1008400,qLp ((qem n)))]) (t:=(k4 (quI ((qem n))))) (qm9 ((qem n)) hG) (qab (l:=[qae F84 0]) (by kernel_rfl) ⟨qas (by kernel_rfl) (q4A ((qem n)) hG),trivial⟩) (by kernel_rfl) (fun v=>by kernel_rfl) (fun v=>rfl)
theorem qYj:FH IP 84 qpn qpD (k4 qtF):=qbK (p:=qpn) (rs:=qpD) (s:=fun n=>(k4 ((qem n)))) fun n=>(qrp n)
def T16:Tab:=(84,FE qpn qpD (k4 qtF)) :: T15
theorem qUi:qai IP T16:=⟨qaj qYj,qIc⟩
abbrev qym:Type:=Int
def qpo:PArgs:=⟨[.agg [.int .i64,.int .i64,.str,.view 4]],[]⟩
def qpE:List PRes:=[⟨false,.int .i64,[]⟩]
abbrev qcd:Type:=Int -> Int -> (List UInt8) -> (List AV) -> Option qym
def qs9 (G_u165q:qcd):Prop:=FH IP 85 qpo qpE (k4 G_u165q)
def qQX (G_u165q:qcd):Tab:=(85,FE qpo qpE (k4 G_u165q)) :: T16
theorem qna (G_u165q:qcd) (hG:qs9 G_u165q):qai IP (qQX G_u165q):=⟨qaj (hG),qUi⟩
abbrev qfp:Type:=Int × List AV × Int × Int
def qKG:List PSt:=[⟨[(1008500,.junk),(3,.int .i64),(7,.view 4),(8,.int .i64),(9,.int .i64)],[],0,0⟩]
def qTq (x0:Int) (x1:List AV) (x2 x3:Int):X × St:=(.exit 0,⟨[(3,.int .i64 x0)],[],0,0⟩)
def q5f:List (qfp -> X × St):=[(k4 qTq)]
def qqQ (G_u165q:qcd) (x0:Int) (x1:List AV) (x2 x3:Int):DT (Rd qfp):=
 .br (decide (x3 < x2))
 (.br (qaD [.int .i64,.int .i64,.str,.slice 4] x1 x3)
 (.bi (G_u165q (intOf (cellAt x1 x3 0)) (intOf (cellAt x1 x3 1)) (strOf (cellAt x1 x3 2)) (qaq (cellAt x1 x3 3))) (fun y0=>
 .at (.next ((if y0 > x0 then y0 else x0,x1,x2,IntKind.i64.wrap (x3 + 1)))))
 (.no))
 (.no))
 (.at (.done 0))
def qqP (G_u165q:qcd):qfp -> DT (Rd qfp):=(fun v=>qqQ G_u165q v.1 v.2.1 v.2.2.1 v.2.2.2)
def qBG (G_u165q:qcd) (v:qfp):Option (Nat × qfp):=qay (qap (fun v=>(qqP G_u165q v).ev) v)
theorem qxg (G_u165q v):qBG G_u165q v = qap (fun v=>(qqP G_u165q v).ev) v:=qaa _
def qLq (G_u165q:qcd):qbz:=LE (τ:=qfp) (hD qKG) (qBG G_u165q) q5f
theorem q4B (G_u165q:qcd) (hG:qs9 G_u165q):Go.Eng.Told IP (qae F85 0).1 (qae F85 0).2 (qLq G_u165q):=qar (inferInstance:Inhabited qfp) (hs:=qKG) (st:=qqP G_u165q) (L:=[]) (qna G_u165q hG) (qab (l:=[]) (by kernel_rfl) trivial) (qxg G_u165q) (fun v=>by kernel_rfl) (fun v=>by kernel_rfl)
def quJ (G_u165q:qcd) (x0 x1:Int) (x2:List UInt8) (x3:List AV):DT qym:=
 .bi (pj 0 (qBG G_u165q (0,x3,(x3.length:Int),0))) (fun y0=>
 .at (IntKind.i64.wrap (y0.1 + 1)))
 (.no)
def qen:Nat -> qcd
 | 0=>fun _ _ _ _=>none
 | n + 1=>fun x0 x1 x2 x3=>(quJ ((qen n)) x0 x1 x2 x3).ev
def qnX (x0 x1:Int) (x2:List UInt8) (x3:List AV):Option qym:=qka fun n=>(qen n) x0 x1 x2 x3
theorem qrq:∀ n,qs9 ((qen n))
 | 0=>(fun v y h=>nomatch h)
 | n + 1=>have hG:=qrq n
 qag (F:=F85) (L:=[(1008500,qLq ((qen n)))]) (t:=(k4 (quJ ((qen n))))) (qna ((qen n)) hG) (qab (l:=[qae F85 0]) (by kernel_rfl) ⟨qas (by kernel_rfl) (q4B ((qen n)) hG),trivial⟩) (by kernel_rfl) (fun v=>by kernel_rfl) (fun v=>rfl)
theorem qYk:FH IP 85 qpo qpE (k4 qnX):=qbK (p:=qpo) (rs:=qpE) (s:=fun n=>(k4 ((qen n)))) fun n=>(qrq n)
def T17:Tab:=(85,FE qpo qpE (k4 qnX)) :: T16
theorem qUj:qai IP T17:=⟨qaj qYk,qUi⟩
abbrev qTY:Type:=Int
def qWe:PArgs:=⟨[.int .i64],[]⟩
def qW0:List PRes:=[⟨false,.int .i64,[]⟩]
def qvh (x0:Int):DT qTY:=
 .br (x0 == 1)
 (.br (x0 == 1)
 (.at (0))
 (.br (x0 == 9)
 (.br (x0 == 9)
 (.at (1))
 (.br (x0 == 19)
 (.at (3))
 (.bi (br (decide (x0 >= 5)) (some (decide (x0 <= 18))) (some false)) (fun y0=>
 .br (y0) (.at (2)) (.at (-1)))
 (.no))))
 (.br (x0 == 16)
 (.at (1))
 (.br (x0 == 19)
 (.at (3))
 (.bi (br (decide (x0 >= 5)) (some (decide (x0 <= 18))) (some false)) (fun y0=>
 .br (y0) (.at (2)) (.at (-1)))
 (.no))))))
 (.br (x0 == 2)
 (.br (x0 == 2)
 (.at (0))
 (.br (x0 == 9)
 (.br (x0 == 9)
 (.at (1))
 (.br (x0 == 19)
 (.at (3))
 (.bi (br (decide (x0 >= 5)) (some (decide (x0 <= 18))) (some false)) (fun y0=>
 .br (y0) (.at (2)) (.at (-1)))
 (.no))))
 (.br (x0 == 16)
 (.at (1))
 (.br (x0 == 19)
 (.at (3))
 (.bi (br (decide (x0 >= 5)) (some (decide (x0 <= 18))) (some false)) (fun y0=>
 .br (y0) (.at (2)) (.at (-1)))
 (.no))))))
 (.br (x0 == 3)
 (.br (x0 == 3)
 (.at (0))
 (.br (x0 == 9)
 (.br (x0 == 9)
 (.at (1))
 (.br (x0 == 19)
 (.at (3))
 (.bi (br (decide (x0 >= 5)) (some (decide (x0 <= 18))) (some false)) (fun y0=>
 .br (y0) (.at (2)) (.at (-1)))
 (.no))))
 (.br (x0 == 16)
 (.at (1))
 (.br (x0 == 19)
 (.at (3))
 (.bi (br (decide (x0 >= 5)) (some (decide (x0 <= 18))) (some false)) (fun y0=>
 .br (y0) (.at (2)) (.at (-1)))
 (.no))))))
 (.br (x0 == 4)
 (.at (0))
 (.br (x0 == 9)
 (.br (x0 == 9)
 (.at (1))
 (.br (x0 == 19)
 (.at (3))
 (.bi (br (decide (x0 >= 5)) (some (decide (x0 <= 18))) (some false)) (fun y0=>
 .br (y0) (.at (2)) (.at (-1)))
 (.no))))
 (.br (x0 == 16)
 (.at (1))
 (.br (x0 == 19)
 (.at (3))
 (.bi (br (decide (x0 >= 5)) (some (decide (x0 <= 18))) (some false)) (fun y0=>
 .br (y0) (.at (2)) (.at (-1)))
 (.no))))))))
def qk4 (x0:Int):Option qTY:=qay (qvh x0).ev
theorem qJF (x0):qk4 x0 = (qvh x0).ev:=qaa _
theorem q2I:FH IP 110 qWe qW0 qk4:=fh q5K qvh qUj
def T18:Tab:=(110,FE qWe qW0 qk4) :: T17
theorem qUk:qai IP T18:=⟨qaj q2I,qUj⟩
abbrev qF5:Type:=Bool
def qMe:PArgs:=⟨[.agg [.int .i64,.int .i64,.str,.view 4]],[]⟩
def qNU:List PRes:=[⟨false,.bool,[]⟩]
def qlU (x0 x1:Int) (x2:List UInt8) (x3:List AV):DT qF5:=
 .br (x0 == 1)
 (.bi (qk4 x0) (fun y0=>
 .br (y0 == (x3.length:Int))
 (.br (decide (x1 >= 0))
 (.br (decide (x1 <= 9223372036854775807))
 (.br (x2 == []) (.at (true)) (.at (x0 == 4)))
 (.at (false)))
 (.at (false)))
 (.at (false)))
 (.no))
 (.br (x0 == 2)
 (.bi (qk4 x0) (fun y0=>
 .br (y0 == (x3.length:Int))
 (.br (decide (x1 >= 0))
 (.br (decide (x1 <= 1000000000000))
 (.br (x2 == []) (.at (true)) (.at (x0 == 4)))
 (.at (false)))
 (.at (false)))
 (.at (false)))
 (.no))
 (.br (x0 == 3)
 (.bi (qk4 x0) (fun y0=>
 .br (y0 == (x3.length:Int))
 (.br (decide (x1 >= 0))
 (.br (decide (x1 <= 1000000))
 (.br (x2 == []) (.at (true)) (.at (x0 == 4)))
 (.at (false)))
 (.at (false)))
 (.at (false)))
 (.no))
 (.bi (qk4 x0) (fun y0=>
 .br (y0 == (x3.length:Int))
 (.br (decide (x1 >= 0))
 (.br (decide (x1 <= 0))
 (.br (x2 == []) (.at (true)) (.at (x0 == 4)))
 (.at (false)))
 (.at (false)))
 (.at (false)))
 (.no))))
def qnM (x0 x1:Int) (x2:List UInt8) (x3:List AV):Option qF5:=qay (qlU x0 x1 x2 x3).ev
theorem qDj (x0 x1 x2 x3):qnM x0 x1 x2 x3 = (qlU x0 x1 x2 x3).ev:=qaa _
theorem qXY:FH IP 87 qMe qNU (k4 qnM):=fh F87 (k4 qlU) qUk
def T19:Tab:=(87,FE qMe qNU (k4 qnM)) :: T18
theorem qUl:qai IP T19:=⟨qaj qXY,qUk⟩
abbrev qyn:Type:=Bool
def qpp:PArgs:=⟨[.agg [.int .i64,.int .i64,.str,.view 4],.fn (.func 87) []],[]⟩
def qpF:List PRes:=[⟨false,.bool,[]⟩]
abbrev qbx:Type:=Int -> Int -> (List UInt8) -> (List AV) -> Option qyn
abbrev qXo:Type:=Bool
def qNw:PArgs:=⟨[.view 4,.fn (.func 109) [.ptr [.fn (.func 87) []]]],[]⟩
def qPc:List PRes:=[⟨false,.bool,[]⟩]
abbrev qd9:Type:=(List AV) -> Option qXo
abbrev qF9:Type:=Int
def qxz:PArgs:=⟨[.view 4,.fn (.func 109) [.ptr [.fn (.func 87) []]]],[]⟩
def qxE:List PRes:=[⟨false,.int .i64,[]⟩]
abbrev qcb:Type:=(List AV) -> Option qF9
abbrev qHn:Type:=Bool
def qxC:PArgs:=⟨[.agg [.int .i64,.int .i64,.str,.view 4],.ptr [.fn (.func 87) []]],[]⟩
def qxH:List PRes:=[⟨false,.bool,[]⟩]
abbrev qcj:Type:=Int -> Int -> (List UInt8) -> (List AV) -> Option qHn
def qta (G_u166q:qbx) (G_u9q:qd9) (G_u13q:qcb) (G_u97q:qcj):Prop:=FH IP 86 qpp qpF (k4 G_u166q) /\ FH IP 108 qNw qPc G_u9q /\ FH IP 133 qxz qxE G_u13q /\ FH IP 109 qxC qxH (k4 G_u97q)
def qQY (G_u166q:qbx) (G_u9q:qd9) (G_u13q:qcb) (G_u97q:qcj):Tab:=(86,FE qpp qpF (k4 G_u166q)) :: (108,FE qNw qPc G_u9q) :: (133,FE qxz qxE G_u13q) :: (109,FE qxC qxH (k4 G_u97q)) :: T19
theorem qdD (G_u166q:qbx) (G_u9q:qd9) (G_u13q:qcb) (G_u97q:qcj) (hG:qta G_u166q G_u9q G_u13q G_u97q):qai IP (qQY G_u166q G_u9q G_u13q G_u97q):=⟨qaj (hG.1),qaj (hG.2.1),qaj (hG.2.2.1),qaj (hG.2.2.2),qUl⟩
abbrev qeZ:Type:=List AV × Int × Int
def qJ8:List PSt:=[⟨[(1013300,.junk),(0,.view 4),(1,.fn (.func 109) [.ptr [.fn (.func 87) []]]),(7,.int .i64),(8,.int .i64)],[],0,0⟩]
def qSl (x0:List AV) (x1 x2:Int):X × St:=(.ret,⟨[(4,.int .i64 x2)],[],0,0⟩)
def qSm (x0:List AV) (x1 x2:Int):X × St:=(.exit 0,⟨[(4,.junk)],[],0,0⟩)
def q4H:List (qeZ -> X × St):=[(k3 qSl),(k3 qSm)]
def qp6 (G_u166q:qbx) (G_u9q:qd9) (G_u13q:qcb) (G_u97q:qcj) (x0:List AV) (x1 x2:Int):DT (Rd qeZ):=
 .br (decide (x2 < x1))
 (.br (qaD [.int .i64,.int .i64,.str,.slice 4] x0 x2)
 (.bi (G_u97q (intOf (cellAt x0 x2 0)) (intOf (cellAt x0 x2 1)) (strOf (cellAt x0 x2 2)) (qaq (cellAt x0 x2 3))) (fun y0=>
 .br (y0) (.at (.done 0)) (.at (.next ((x0,x1,IntKind.i64.wrap (x2 + 1))))))
 (.no))
 (.no))
 (.at (.done 1))
def qp5 (G_u166q:qbx) (G_u9q:qd9) (G_u13q:qcb) (G_u97q:qcj):qeZ -> DT (Rd qeZ):=(fun v=>qp6 G_u166q G_u9q G_u13q G_u97q v.1 v.2.1 v.2.2)
def qwy (G_u166q:qbx) (G_u9q:qd9) (G_u13q:qcb) (G_u97q:qcj) (v:qeZ):Option (Nat × qeZ):=qay (qap (fun v=>(qp5 G_u166q G_u9q G_u13q G_u97q v).ev) v)
theorem qwz (G_u166q G_u9q G_u13q G_u97q v):qwy G_u166q G_u9q G_u13q G_u97q v = qap (fun v=>(qp5 G_u166q G_u9q G_u13q G_u97q v).ev) v:=qaa _
def qKS (G_u166q:qbx) (G_u9q:qd9) (G_u13q:qcb) (G_u97q:qcj):qbz:=LE (τ:=qeZ) (hD qJ8) (qwy G_u166q G_u9q G_u13q G_u97q) q4H
theorem q33 (G_u166q:qbx) (G_u9q:qd9) (G_u13q:qcb) (G_u97q:qcj) (hG:qta G_u166q G_u9q G_u13q G_u97q):Go.Eng.Told IP (qae qQM 0).1 (qae qQM 0).2 (qKS G_u166q G_u9q G_u13q G_u97q):=qar (inferInstance:Inhabited qeZ) (hs:=qJ8) (st:=qp5 G_u166q G_u9q G_u13q G_u97q) (L:=[]) (qdD G_u166q G_u9q G_u13q G_u97q hG) (qab (l:=[]) (by kernel_rfl) trivial) (qwz G_u166q G_u9q G_u13q G_u97q) (fun v=>by kernel_rfl) (fun v=>by kernel_rfl)
def quK (G_u166q:qbx) (G_u9q:qd9) (G_u13q:qcb) (G_u97q:qcj) (x0 x1:Int) (x2:List UInt8) (x3:List AV):DT qyn:=
 .bi (qnM x0 x1 x2 x3) (fun y0=>
 .bi (br y0 (br (sm (G_u9q x3)) (some !gv (G_u9q x3)) none) (some false)) (fun y1=>
 .at (y1))
 (.no))
 (.no)
def qPE (G_u166q:qbx) (G_u9q:qd9) (G_u13q:qcb) (G_u97q:qcj) (x0:List AV):DT qXo:=
 .bi (G_u13q x0) (fun y0=>
 .at (decide (y0 >= 0)))
 (.no)
def qAy (G_u166q:qbx) (G_u9q:qd9) (G_u13q:qcb) (G_u97q:qcj) (x0:List AV):DT qF9:=
 .bi (pj 0
 (qwy G_u166q G_u9q G_u13q G_u97q (x0,(x0.length:Int),0))) (fun y0=>
 .at (y0.2.2))
 (.bi (pj 1
 (qwy G_u166q G_u9q G_u13q G_u97q (x0,(x0.length:Int),0))) (fun y0=>
 .at (-1))
 (.no))
def qAB (G_u166q:qbx) (G_u9q:qd9) (G_u13q:qcb) (G_u97q:qcj) (x0 x1:Int) (x2:List UInt8) (x3:List AV):DT qHn:=
 .bi (G_u166q x0 x1 x2 x3) (fun y0=>
 .at (!y0))
 (.no)
def qao:Nat -> qbx × qd9 × qcb × qcj
 | 0=>(fun _ _ _ _=>none,fun _=>none,fun _=>none,fun _ _ _ _=>none)
 | n + 1=>(fun x0 x1 x2 x3=>(quK ((qao n).1) ((qao n).2.1) ((qao n).2.2.1) ((qao n).2.2.2) x0 x1 x2 x3).ev,fun x0=>(qPE ((qao n).1) ((qao n).2.1) ((qao n).2.2.1) ((qao n).2.2.2) x0).ev,fun x0=>(qAy ((qao n).1) ((qao n).2.1) ((qao n).2.2.1) ((qao n).2.2.2) x0).ev,fun x0 x1 x2 x3=>(qAB ((qao n).1) ((qao n).2.1) ((qao n).2.2.1) ((qao n).2.2.2) x0 x1 x2 x3).ev)
def qtG (x0 x1:Int) (x2:List UInt8) (x3:List AV):Option qyn:=qka fun n=>(qao n).1 x0 x1 x2 x3
def q3a (x0:List AV):Option qXo:=qka fun n=>(qao n).2.1 x0
def qVm (x0:List AV):Option qF9:=qka fun n=>(qao n).2.2.1 x0
def qVo (x0 x1:Int) (x2:List UInt8) (x3:List AV):Option qHn:=qka fun n=>(qao n).2.2.2 x0 x1 x2 x3
theorem qeC:∀ n,qta ((qao n).1) ((qao n).2.1) ((qao n).2.2.1) ((qao n).2.2.2)
 | 0=>⟨(fun v y h=>nomatch h),(fun v y h=>nomatch h),(fun v y h=>nomatch h),(fun v y h=>nomatch h)⟩
 | n + 1=>have hG:=qeC n
 ⟨qag (F:=F86) (L:=[]) (t:=(k4 (quK ((qao n).1) ((qao n).2.1) ((qao n).2.2.1) ((qao n).2.2.2)))) (qdD ((qao n).1) ((qao n).2.1) ((qao n).2.2.1) ((qao n).2.2.2) hG) (qab (l:=[]) (by kernel_rfl) trivial) (by kernel_rfl) (fun v=>by kernel_rfl) (fun v=>rfl),qag (F:=q5h) (L:=[]) (t:=(qPE ((qao n).1) ((qao n).2.1) ((qao n).2.2.1) ((qao n).2.2.2))) (qdD ((qao n).1) ((qao n).2.1) ((qao n).2.2.1) ((qao n).2.2.2) hG) (qab (l:=[]) (by kernel_rfl) trivial) (by kernel_rfl) (fun v=>by kernel_rfl) (fun v=>rfl),qag (F:=qQM) (L:=[(1013300,qKS ((qao n).1) ((qao n).2.1) ((qao n).2.2.1) ((qao n).2.2.2))]) (t:=(qAy ((qao n).1) ((qao n).2.1) ((qao n).2.2.1) ((qao n).2.2.2))) (qdD ((qao n).1) ((qao n).2.1) ((qao n).2.2.1) ((qao n).2.2.2) hG) (qab (l:=[qae qQM 0]) (by kernel_rfl) ⟨qas (by kernel_rfl) (q33 ((qao n).1) ((qao n).2.1) ((qao n).2.2.1) ((qao n).2.2.2) hG),trivial⟩) (by kernel_rfl) (fun v=>by kernel_rfl) (fun v=>rfl),qag (F:=q5i) (L:=[]) (t:=(k4 (qAB ((qao n).1) ((qao n).2.1) ((qao n).2.2.1) ((qao n).2.2.2)))) (qdD ((qao n).1) ((qao n).2.1) ((qao n).2.2.1) ((qao n).2.2.2) hG) (qab (l:=[]) (by kernel_rfl) trivial) (by kernel_rfl) (fun v=>by kernel_rfl) (fun v=>rfl)⟩
theorem qYl:FH IP 86 qpp qpF (k4 qtG):=qbK (p:=qpp) (rs:=qpF) (s:=fun n=>(k4 ((qao n).1))) fun n=>(qeC n).1
theorem q69:FH IP 108 qNw qPc q3a:=qbK (p:=qNw) (rs:=qPc) (s:=fun n=>((qao n).2.1)) fun n=>(qeC n).2.1
theorem q2b:FH IP 133 qxz qxE qVm:=qbK (p:=qxz) (rs:=qxE) (s:=fun n=>((qao n).2.2.1)) fun n=>(qeC n).2.2.1
theorem q2Y:FH IP 109 qxC qxH (k4 qVo):=qbK (p:=qxC) (rs:=qxH) (s:=fun n=>(k4 ((qao n).2.2.2))) fun n=>(qeC n).2.2.2
def T20:Tab:=(86,FE qpp qpF (k4 qtG)) :: T19
theorem q1O:qai IP T20:=⟨qaj qYl,qUl⟩
def T21:Tab:=(108,FE qNw qPc q3a) :: T20
theorem q1P:qai IP T21:=⟨qaj q69,q1O⟩
def T22:Tab:=(133,FE qxz qxE qVm) :: T21
theorem q1Q:qai IP T22:=⟨qaj q2b,q1P⟩
def T23:Tab:=(109,FE qxC qxH (k4 qVo)) :: T22
theorem qUm:qai IP T23:=⟨qaj q2Y,q1Q⟩
abbrev qTT:Type:=Bool
def qV9:PArgs:=⟨[.int .i32],[]⟩
def qWV:List PRes:=[⟨false,.bool,[]⟩]
def qvc (x0:Int):DT qTT:=
 .at (x0 != 10)
def qrT (x0:Int):Option qTT:=qay (qvc x0).ev
theorem qJA (x0):qrT x0 = (qvc x0).ev:=qaa _
theorem q2C:FH IP 165 qV9 qWV qrT:=fh q6p qvc qUm
def T24:Tab:=(165,FE qV9 qWV qrT) :: T23
theorem qIm:qai IP T24:=⟨qaj q2C,qUm⟩
abbrev qfh:Type:=List UInt8 × Int
def qKx:List PSt:=[⟨[(1016400,.junk),(0,.str),(1,.fn (.func 165) []),(5,.int .i64)],[],0,0⟩]
def qS9 (x0:List UInt8) (x1:Int):X × St:=(.exit 0,⟨[(0,.str x0),(5,.int .i64 x1)],[],0,0⟩)
def q46:List (qfh -> X × St):=[(k2 qS9)]
def qqC (x0:List UInt8) (x1:Int):DT (Rd qfh):=
 .bi (br (decide (x1 < (x0.length:Int)))
 (br (inB x0.length x1) (br (sm (qrT (IntKind.i32.wrap (qaO x0 x1)))) (some (gv (qrT (IntKind.i32.wrap (qaO x0 x1))))) none) none) (some false)) (fun y0=>
 .br (y0) (.at (.next ((x0,IntKind.i64.wrap (x1 + 1))))) (.at (.done 0)))
 (.no)
def qqB:qfh -> DT (Rd qfh):=(fun v=>qqC v.1 v.2)
def qBC (v:qfh):Option (Nat × qfh):=qay (qap (fun v=>(qqB v).ev) v)
theorem qw6 (v):qBC v = qap (fun v=>(qqB v).ev) v:=qaa _
def qLh:qbz:=LE (τ:=qfh) (hD qKx) (qBC) q46
theorem q4s:Go.Eng.Told IP (qae qvD 0).1 (qae qvD 0).2 (qLh):=lp (inferInstance:Inhabited qfh) (hs:=qKx) qqB qIm qw6
abbrev qFV:Type:=List UInt8
def qL5:PArgs:=⟨[.str,.fn (.func 165) []],[]⟩
def qNL:List PRes:=[⟨false,.str,[]⟩]
def qlN (x0:List UInt8):DT qFV:=
 .bi (pj 0 (qBC (x0,0))) (fun y0=>
 .br (leB y0.2 y0.1.length && true) (.at (List.take y0.2.toNat y0.1)) (.no))
 (.no)
def qhN (x0:List UInt8):Option qFV:=qay (qlN x0).ev
theorem qDc (x0):qhN x0 = (qlN x0).ev:=qaa _
theorem qXO:FH IP 164 qL5 qNL qhN:=qag (F:=qvD) (L:=[(1016400,qLh)]) (t:=qlN) qIm (qab (l:=[qae qvD 0]) (by kernel_rfl) ⟨qas (by kernel_rfl) q4s,trivial⟩) (by kernel_rfl) (fun v=>by kernel_rfl) (fun _=>qaa _)
def T25:Tab:=(164,FE qL5 qNL qhN) :: T24
theorem qIn:qai IP T25:=⟨qaj qXO,qIm⟩
abbrev qfg:Type:=List UInt8 × Int
def qKw:List PSt:=[⟨[(1015100,.junk),(0,.str),(3,.int .i64)],[],0,0⟩]
def qS7 (x0:List UInt8) (x1:Int):X × St:=(.ret,⟨[(2,.int .i64 x1),(3,.int .i64 x1)],[],0,0⟩)
def qS8 (x0:List UInt8) (x1:Int):X × St:=(.exit 0,⟨[(2,.junk),(3,.int .i64 x1)],[],0,0⟩)
def q45:List (qfg -> X × St):=[(k2 qS7),(k2 qS8)]
def qqA (x0:List UInt8) (x1:Int):DT (Rd qfg):=
 .br (decide (x1 < (x0.length:Int)))
 (.br (inB x0.length x1)
 (.br (qaO x0 x1 == 32)
 (.br (qaO x0 x1 == 32)
 (.at (.next ((x0,IntKind.i64.wrap (x1 + 1)))))
 (.br (qaO x0 x1 == 35)
 (.br (leB x1 x0.length)
 (.bi (qhN (List.drop x1.toNat x0)) (fun y0=>
 .at (.next ((x0,IntKind.i64.wrap (x1 + (y0.length:Int))))))
 (.no))
 (.no))
 (.at (.done 0))))
 (.br (qaO x0 x1 == 9)
 (.br (qaO x0 x1 == 9)
 (.at (.next ((x0,IntKind.i64.wrap (x1 + 1)))))
 (.br (qaO x0 x1 == 35)
 (.br (leB x1 x0.length)
 (.bi (qhN (List.drop x1.toNat x0)) (fun y0=>
 .at (.next ((x0,IntKind.i64.wrap (x1 + (y0.length:Int))))))
 (.no))
 (.no))
 (.at (.done 0))))
 (.br (qaO x0 x1 == 10)
 (.at (.next ((x0,IntKind.i64.wrap (x1 + 1)))))
 (.br (qaO x0 x1 == 35)
 (.br (leB x1 x0.length)
 (.bi (qhN (List.drop x1.toNat x0)) (fun y0=>
 .at (.next ((x0,IntKind.i64.wrap (x1 + (y0.length:Int))))))
 (.no))
 (.no))
 (.at (.done 0))))))
 (.no))
 (.at (.done 1))
def qkM:qfg -> DT (Rd qfg):=(fun v=>qqA v.1 v.2)
def qw5 (v:qfg):Option (Nat × qfg):=qay (qap (fun v=>(qkM v).ev) v)
theorem qiQ (v):qw5 v = qap (fun v=>(qkM v).ev) v:=qaa _
def qLg:qbz:=LE (τ:=qfg) (hD qKw) (qw5) q45
theorem q4r:Go.Eng.Told IP (qae q1l 0).1 (qae q1l 0).2 (qLg):=lp (inferInstance:Inhabited qfg) (hs:=qKw) qkM qIn qiQ
abbrev qFR:Type:=Int
def qL1:PArgs:=⟨[.str],[]⟩
def qNH:List PRes:=[⟨false,.int .i64,[]⟩]
def qlJ (x0:List UInt8):DT qFR:=
 .bi (pj 0 (qw5 (x0,0))) (fun y0=>
 .at (y0.2))
 (.bi (pj 1 (qw5 (x0,0))) (fun y0=>
 .at (y0.2))
 (.no))
def qbv (x0:List UInt8):Option qFR:=qay (qlJ x0).ev
theorem qC8 (x0):qbv x0 = (qlJ x0).ev:=qaa _
theorem qXK:FH IP 151 qL1 qNH qbv:=qag (F:=q1l) (L:=[(1015100,qLg)]) (t:=qlJ) qIn (qab (l:=[qae q1l 0]) (by kernel_rfl) ⟨qas (by kernel_rfl) q4r,trivial⟩) (by kernel_rfl) (fun v=>by kernel_rfl) (fun _=>qaa _)
def T26:Tab:=(151,FE qL1 qNH qbv) :: T25
theorem qUn:qai IP T26:=⟨qaj qXK,qIn⟩
abbrev qFT:Type:=Bool
def qL3:PArgs:=⟨[.int .i32],[]⟩
def qNJ:List PRes:=[⟨false,.bool,[]⟩]
def qlL (x0:Int):DT qFT:=
 .bi (br (decide (x0 >= 97)) (some (decide (x0 <= 122))) (some false)) (fun y0=>
 .at (y0))
 (.no)
def qjH (x0:Int):Option qFT:=qay (qlL x0).ev
theorem qDa (x0):qjH x0 = (qlL x0).ev:=qaa _
theorem qXM:FH IP 169 qL3 qNJ qjH:=fh q6q qlL qUn
def T27:Tab:=(169,FE qL3 qNJ qjH) :: T26
theorem qUo:qai IP T27:=⟨qaj qXM,qUn⟩
abbrev qF8:Type:=Bool
def qMh:PArgs:=⟨[.int .i32],[]⟩
def qNX:List PRes:=[⟨false,.bool,[]⟩]
def qlX (x0:Int):DT qF8:=
 .bi (br (decide (x0 >= 48)) (some (decide (x0 <= 57))) (some false)) (fun y0=>
 .at (y0))
 (.no)
def qfC (x0:Int):Option qF8:=qay (qlX x0).ev
theorem qDm (x0):qfC x0 = (qlX x0).ev:=qaa _
theorem qX1:FH IP 172 qMh qNX qfC:=fh q6t qlX qUo
def T28:Tab:=(172,FE qMh qNX qfC) :: T27
theorem qUp:qai IP T28:=⟨qaj qX1,qUo⟩
abbrev qFS:Type:=Bool
def qL2:PArgs:=⟨[.int .i32],[]⟩
def qNI:List PRes:=[⟨false,.bool,[]⟩]
def qlK (x0:Int):DT qFS:=
 .bi (qjH x0) (fun y0=>
 .bi (br y0 (some true) (br (sm (qfC x0)) (some (gv (qfC x0))) none)) (fun y1=>
 .bi (br y1 (some true) (some (x0 == 95))) (fun y2=>
 .at (y2))
 (.no))
 (.no))
 (.no)
def qhM (x0:Int):Option qFS:=qay (qlK x0).ev
theorem qC9 (x0):qhM x0 = (qlK x0).ev:=qaa _
theorem qXL:FH IP 170 qL2 qNI qhM:=fh q6r qlK qUp
def T29:Tab:=(170,FE qL2 qNI qhM) :: T28
theorem qIo:qai IP T29:=⟨qaj qXL,qUp⟩
abbrev qe9:Type:=List UInt8 × Int
def qKm:List PSt:=[⟨[(1016400,.junk),(0,.str),(1,.fn (.func 170) []),(5,.int .i64)],[],0,0⟩]
def qSR (x0:List UInt8) (x1:Int):X × St:=(.exit 0,⟨[(0,.str x0),(5,.int .i64 x1)],[],0,0⟩)
def q4V:List (qe9 -> X × St):=[(k2 qSR)]
def qqm (x0:List UInt8) (x1:Int):DT (Rd qe9):=
 .bi (br (decide (x1 < (x0.length:Int)))
 (br (inB x0.length x1) (br (sm (qhM (IntKind.i32.wrap (qaO x0 x1)))) (some (gv (qhM (IntKind.i32.wrap (qaO x0 x1))))) none) none) (some false)) (fun y0=>
 .br (y0) (.at (.next ((x0,IntKind.i64.wrap (x1 + 1))))) (.at (.done 0)))
 (.no)
def qql:qe9 -> DT (Rd qe9):=(fun v=>qqm v.1 v.2)
def qBx (v:qe9):Option (Nat × qe9):=qay (qap (fun v=>(qql v).ev) v)
theorem qwR (v):qBx v = qap (fun v=>(qql v).ev) v:=qaa _
def qK6:qbz:=LE (τ:=qe9) (hD qKm) (qBx) q4V
theorem q4h:Go.Eng.Told IP (qae qvD 0).1 (qae qvD 0).2 (qK6):=lp (inferInstance:Inhabited qe9) (hs:=qKm) qql qIo qwR
abbrev qT3:Type:=List UInt8
def qWj:PArgs:=⟨[.str,.fn (.func 170) []],[]⟩
def qW5:List PRes:=[⟨false,.str,[]⟩]
def qvm (x0:List UInt8):DT qT3:=
 .bi (pj 0 (qBx (x0,0))) (fun y0=>
 .br (leB y0.2 y0.1.length && true) (.at (List.take y0.2.toNat y0.1)) (.no))
 (.no)
def qwk (x0:List UInt8):Option qT3:=qay (qvm x0).ev
theorem qJK (x0):qwk x0 = (qvm x0).ev:=qaa _
theorem q2N:FH IP 164 qWj qW5 qwk:=qag (F:=qvD) (L:=[(1016400,qK6)]) (t:=qvm) qIo (qab (l:=[qae qvD 0]) (by kernel_rfl) ⟨qas (by kernel_rfl) q4h,trivial⟩) (by kernel_rfl) (fun v=>by kernel_rfl) (fun _=>qaa _)
def T30:Tab:=(164,FE qWj qW5 qwk) :: T29
theorem qUq:qai IP T30:=⟨qaj q2N,qIo⟩
end
end Go.Proofs.H15p

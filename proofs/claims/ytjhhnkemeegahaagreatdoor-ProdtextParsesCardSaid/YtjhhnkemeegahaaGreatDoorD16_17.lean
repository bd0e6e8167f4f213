/- Functions over plain data. Printed by a program of mine. -/
import Derived.Test.YtjhhnkemeegahaaGreatDoorD16_13
set_option linter.all false
namespace Go.Proofs.H16
open Go Go.Eng
set_option maxRecDepth 100000
noncomputable section
def qqx(x0:List AV)(x1:Int):DT Int:=
 .br ((x0.length:Int)==0)
 (.at (0))
 (.br (qaG [.int .i64,.int .i64,.str] x0 (if IntKind.i64.wrap ((x0.length:Int)-1)<x1 then IntKind.i64.wrap ((x0.length:Int)-1)else x1))
 (.at (intOf (cellAt x0 (if IntKind.i64.wrap ((x0.length:Int)-1)<x1 then IntKind.i64.wrap ((x0.length:Int)-1)else x1) 1)))
 (.no))
def qnv(x0:List AV)(x1:Int):=qaC (qqx x0 x1).ev
theorem qLX(x0 x1):qnv x0 x1=(qqx x0 x1).ev:=qaa _
theorem zbS:FH IP 45 ⟨[.view 3,.int .i64],[]⟩ [⟨false,.int .i64,[]⟩] (k2 qnv):=fh F45 (k2 qqx) zr9
def zsa:=zr9.a zbS
def qqM(x0:List UInt8):DT (List UInt8×List UInt8×List UInt8×Int×Int×Int×Int×List AV×Bool×Int×Int×Bool×List AV×Bool×Int×Int×Bool×List AV×List AV×Int×Int):=
 .bi (qno x0) (fun y0=>
 .br (y0.2.2 != 0)
 (.at (([],[],[],0,0,0,0,[],false,0,0,false,[],false,0,0,false,[],[],y0.2)))
 (.bi (qBh y0.1 0 0) (fun y1=>
 .bi (br (y1.2.2.1==0) (some (decide (y1.2.1<(y0.1.length:Int)))) (some false)) (fun y2=>
 .br (y2)
 (.bi (qbN y1.1 y1.2.1 y1.2.2.1 y1.2.1 2) (fun y3=>
 .br (y3.2.2 != 0)
 (.bi (qnv y0.1 y3.2.1) (fun y4=>
 .at (([],[],[],0,0,0,0,[],false,0,0,false,[],false,0,0,false,[],[],y4,y3.2.2)))
 (.no))
 (.at ((y1.2.2.2.1,y1.f.1,y1.f.2.1,y1.f.2.2.1,y1.f.2.2.2.1,y1.h.1,y1.h.2.1,y1.h.2.2.1,y1.h.2.2.2.1,y1.h.f.1,y1.h.f.2.1,y1.h.f.2.2.1,y1.h.f.2.2.2.1,y1.i.1,y1.i.2.1,y1.i.2.2.1,y1.i.2.2.2.1,y1.i.f.1,y1.i.f.2,0,0))))
 (.no))
 (.br (y1.2.2.1 != 0)
 (.bi (qnv y0.1 y1.2.1) (fun y3=>
 .at (([],[],[],0,0,0,0,[],false,0,0,false,[],false,0,0,false,[],[],y3,y1.2.2.1)))
 (.no))
 (.at ((y1.2.2.2.1,y1.f.1,y1.f.2.1,y1.f.2.2.1,y1.f.2.2.2.1,y1.h.1,y1.h.2.1,y1.h.2.2.1,y1.h.2.2.2.1,y1.h.f.1,y1.h.f.2.1,y1.h.f.2.2.1,y1.h.f.2.2.2.1,y1.i.1,y1.i.2.1,y1.i.2.2.1,y1.i.2.2.2.1,y1.i.f.1,y1.i.f.2,0,0)))))
 (.no))
 (.no)))
 (.no)
def qsh(x0:List UInt8):=qaC (qqM x0).ev
theorem qMc(x0):qsh x0=(qqM x0).ev:=qaa _
theorem zck:FH IP 12 ⟨[.str],[]⟩ [⟨false,.tup [.agg [.str,.str,.str,.int .i64,.int .i64,.int .i64,.int .i64,.view 2,.bool,.int .i64,.int .i64,.bool,.view 2,.bool,.int .i64,.int .i64,.bool,.view 10,.view 6],.int .i64,.int .i64],[]⟩] qsh:=fh F12 qqM zsa
def zsb:=zsa.a zck
abbrev qh3:Type:=Int×List AV×Bool×Int×Int×Bool×List AV×Bool×Int×Int×Bool
def qTs:List PSt:=[⟨[(1004600,.junk),(2,.ref 0 0 0),(3,.ref 1 0 0),(5,.int .i64)],[(0,.box [.view 2,.bool,.int .i64,.int .i64,.bool] false),(1,.box [.view 2,.bool,.int .i64,.int .i64,.bool] false)],2,0⟩]
def q40(x0:Int)(x1:List AV)(x2:Bool)(x3 x4:Int)(x5:Bool)(x6:List AV)(x7:Bool)(x8 x9:Int)(x10:Bool):X×St:=(.ret,⟨[(4,.bool false)],[],0,0⟩)
def q41(x0:Int)(x1:List AV)(x2:Bool)(x3 x4:Int)(x5:Bool)(x6:List AV)(x7:Bool)(x8 x9:Int)(x10:Bool):X×St:=(.exit 0,⟨[(4,.junk)],[],0,0⟩)
def zlE:List (qh3->X×St):=[(k11 q40),(k11 q41)]
def qup(x0:Int)(x1:List AV)(x2:Bool)(x3 x4:Int)(x5:Bool)(x6:List AV)(x7:Bool)(x8 x9:Int)(x10:Bool):DT (Rd qh3):=
 .br (decide (x0<(x1.length:Int)))
 (.br (qaG [.int .i64,.int .i64] x1 x0)
 (.br (qaG [.int .i64,.int .i64] x6 x0)
 (.br (if true=true then !(intOf (cellAt x1 x0 0)==intOf (cellAt x6 x0 0)&&(intOf (cellAt x1 x0 1)==intOf (cellAt x6 x0 1)&&true))
 else intOf (cellAt x1 x0 0)==intOf (cellAt x6 x0 0)&&(intOf (cellAt x1 x0 1)==intOf (cellAt x6 x0 1)&&true))
 (.at (.done 0))
 (.at (.next ((IntKind.i64.wrap (x0+1),x1,x2,x3,x4,x5,x6,x7,x8,x9,x10)))))
 (.no))
 (.no))
 (.at (.done 1))
def qoC:qh3->DT (Rd qh3):=(fun v=>qup v.1 v.2.1 v.2.2.1 v.2.2.2.1 v.f.1 v.f.2.1 v.f.2.2.1 v.f.2.2.2.1 v.h.1 v.h.2.1 v.h.2.2)
def qBv(v:qh3):=lo qoC v
theorem qBw(v):qBv v=qae (fun v=>(qoC v).ev) v:=qaa _
def qUn:qbJ:=LE (τ:=qh3) (hD qTs) (qBv) zlE
theorem zkT:TL IP F46 0 qUn:=lp (ih qh3) (hs:=qTs) qoC zsb qBw
def qAn(x0:List AV)(x1:Bool)(x2 x3:Int)(x4:Bool)(x5:List AV)(x6:Bool)(x7 x8:Int)(x9:Bool):DT Bool:=
 .bi (br ((x0.length:Int) != (x5.length:Int)) (some true) (some (if true=true then !x1==x6 else x1==x6))) (fun y0=>
 .bi (br y0 (some true) (some (x2 != x7))) (fun y1=>
 .bi (br y1 (some true) (some (x3 != x8))) (fun y2=>
 .bi (br y2 (some true) (some (if true=true then !x4==x9 else x4==x9))) (fun y3=>
 .br (y3)
 (.at (false))
 (.bi (pj 0 (qBv (0,x0,x1,x2,x3,x4,x5,x6,x7,x8,x9))) (fun y4=>
 .at (false))
 (.bi (pj 1 (qBv (0,x0,x1,x2,x3,x4,x5,x6,x7,x8,x9))) (fun y4=>
 .at (true))
 (.no))))
 (.no))
 (.no))
 (.no))
 (.no)
def qsA(x0:List AV)(x1:Bool)(x2 x3:Int)(x4:Bool)(x5:List AV)(x6:Bool)(x7 x8:Int)(x9:Bool):=qaC (qAn x0 x1 x2 x3 x4 x5 x6 x7 x8 x9).ev
theorem qSS(x0 x1 x2 x3 x4 x5 x6 x7 x8 x9):qsA x0 x1 x2 x3 x4 x5 x6 x7 x8 x9=(qAn x0 x1 x2 x3 x4 x5 x6 x7 x8 x9).ev:=qaa _
theorem ziF:FH IP 46 ⟨[.agg [.view 2,.bool,.int .i64,.int .i64,.bool],.agg [.view 2,.bool,.int .i64,.int .i64,.bool]],[]⟩ [⟨false,.bool,[]⟩] (k10 qsA):=f1 F46 1004600 zkT (k10 qAn) zsb
def znw:=zsb.a ziF
abbrev qDl:Type:=Bool
def qtF:PArgs:=⟨[.agg [.int .i64,.int .i64,.str,.view 4],.agg [.int .i64,.int .i64,.str,.view 4]],[]⟩
def qt4:List PRes:=[⟨false,.bool,[]⟩]
abbrev qdp:Type:=Int->Int->(List UInt8)->(List AV)->Int->Int->(List UInt8)->(List AV)->Option qDl
def qxj(G_u272q:qdp):Prop:=FH IP 48 qtF qt4 (k8 G_u272q)
def q2A(G_u272q:qdp):Tab:=(48,FE qtF qt4 (k8 G_u272q))::znw.t
theorem qrq(G_u272q:qdp)(hG:qxj G_u272q):qan IP (q2A G_u272q):=⟨qam (hG),znw.ok⟩
abbrev qfl:Type:=Int×Int×Int×List UInt8×List AV×Int×Int×List UInt8×List AV
def qIv:List PSt:=[⟨[(1004800,.junk),(2,.ref 0 0 0),(3,.ref 1 0 0),(5,.int .i64)],[(0,.box [.int .i64,.int .i64,.str,.view 4] false),(1,.box [.int .i64,.int .i64,.str,.view 4] false)],2,0⟩]
def q1Z(x0 x1 x2:Int)(x3:List UInt8)(x4:List AV)(x5 x6:Int)(x7:List UInt8)(x8:List AV):X×St:=(.ret,⟨[(4,.bool false)],[],0,0⟩)
def q2a(x0 x1 x2:Int)(x3:List UInt8)(x4:List AV)(x5 x6:Int)(x7:List UInt8)(x8:List AV):X×St:=(.exit 0,⟨[(4,.junk)],[],0,0⟩)
def zgj:List (qfl->X×St):=[(k9 q1Z),(k9 q2a)]
def qoz(G_u272q:qdp)(x0 x1 x2:Int)(x3:List UInt8)(x4:List AV)(x5 x6:Int)(x7:List UInt8)(x8:List AV):DT (Rd qfl):=
 .br (decide (x0<(x4.length:Int)))
 (.br (qaG [.int .i64,.int .i64,.str,.slice 4] x4 x0)
 (.br (qaG [.int .i64,.int .i64,.str,.slice 4] x8 x0)
 (.bi (G_u272q (intOf (cellAt x4 x0 0)) (intOf (cellAt x4 x0 1)) (strOf (cellAt x4 x0 2)) (qap (cellAt x4 x0 3)) (intOf (cellAt x8 x0 0)) (intOf (cellAt x8 x0 1))
 (strOf (cellAt x8 x0 2)) (qap (cellAt x8 x0 3))) (fun y0=>
 .br (!y0) (.at (.done 0)) (.at (.next ((IntKind.i64.wrap (x0+1),x1,x2,x3,x4,x5,x6,x7,x8)))))
 (.no))
 (.no))
 (.no))
 (.at (.done 1))
def qkG(G_u272q:qdp):qfl->DT (Rd qfl):=(fun v=>qoz G_u272q v.1 v.2.1 v.2.2.1 v.2.2.2.1 v.f.1 v.f.2.1 v.f.2.2.1 v.f.2.2.2.1 v.h)
def qs3(G_u272q:qdp)(v:qfl):Option (Nat×qfl):=qaC (qae (fun v=>(qkG G_u272q v).ev) v)
theorem qwi(G_u272q v):qs3 G_u272q v=qae (fun v=>(qkG G_u272q v).ev) v:=qaa _
def qJH(G_u272q:qdp):qbJ:=LE (τ:=qfl) (hD qIv) (qs3 G_u272q) zgj
theorem zfe(G_u272q:qdp)(hG:qxj G_u272q):Go.Eng.Told IP (qad F48 0).1 (qad F48 0).2 (qJH G_u272q):=qas (inferInstance:Inhabited qfl) (hs:=qIv) (st:=qkG G_u272q) (L:=[]) (qrq G_u272q hG) (qac (l:=[]) (by kernel_rfl) trivial) (qwi G_u272q) (fun v=>by kernel_rfl) (fun v=>by kernel_rfl)
def qq0(G_u272q:qdp)(x0 x1:Int)(x2:List UInt8)(x3:List AV)(x4 x5:Int)(x6:List UInt8)(x7:List AV):DT qDl:=
 .bi (br (x0 != x4) (some true) (some (x1 != x5))) (fun y0=>
 .bi (br y0 (some true) (some !x2==x6)) (fun y1=>
 .bi (br y1 (some true) (some ((x3.length:Int) != (x7.length:Int)))) (fun y2=>
 .br (y2)
 (.at (false))
 (.bi (pj 0 (qs3 G_u272q (0,x0,x1,x2,x3,x4,x5,x6,x7))) (fun y3=>
 .at (false))
 (.bi (pj 1 (qs3 G_u272q (0,x0,x1,x2,x3,x4,x5,x6,x7))) (fun y3=>
 .at (true))
 (.no))))
 (.no))
 (.no))
 (.no)
def qej:Nat->qdp
 |0=>fun _ _ _ _ _ _ _ _=>none
 |n+1=>fun x0 x1 x2 x3 x4 x5 x6 x7=>(qq0 ((qej n)) x0 x1 x2 x3 x4 x5 x6 x7).ev
def qnA(x0 x1:Int)(x2:List UInt8)(x3:List AV)(x4 x5:Int)(x6:List UInt8)(x7:List AV):Option qDl:=qi4 fun n=>(qej n) x0 x1 x2 x3 x4 x5 x6 x7
theorem qvm:∀n,qxj ((qej n))
 |0=>(fun v y h=>nomatch h)
 |n+1=>have hG:=qvm n
 qag (F:=F48) (L:=[(1004800,qJH ((qej n)))]) (t:=(k8 (qq0 ((qej n))))) (qrq ((qej n)) hG) (qac (l:=[qad F48 0]) (by kernel_rfl) ⟨qar (by kernel_rfl) (zfe ((qej n)) hG),trivial⟩) (by kernel_rfl) (fun v=>by kernel_rfl) (fun v=>rfl)
theorem zcE:FH IP 48 qtF qt4 (k8 qnA):=qbH (p:=qtF) (rs:=qt4) (s:=fun n=>(k8 ((qej n)))) fun n=>(qvm n)
def zsc:=znw.a zcE
abbrev qeE:Type:=List AV×List AV×Int
def qHJ:List PSt:=[⟨[(1004700,.junk),(0,.view 10),(1,.view 10),(5,.int .i64)],[],0,0⟩]
def q0y(x0 x1:List AV)(x2:Int):X×St:=(.ret,⟨[(4,.bool false)],[],0,0⟩)
def q0z(x0 x1:List AV)(x2:Int):X×St:=(.exit 0,⟨[(4,.junk)],[],0,0⟩)
def zfx:List (qeE->X×St):=[(k3 q0y),(k3 q0z)]
def qoa(x0 x1:List AV)(x2:Int):DT (Rd qeE):=
 .br (decide (x2<(x0.length:Int)))
 (.br (qaG [.str,.int .i64,.int .i64,.int .i64,.str,.slice 4,.int .i64,.int .i64,.str,.slice 4] x0 x2)
 (.br (qaG [.str,.int .i64,.int .i64,.int .i64,.str,.slice 4,.int .i64,.int .i64,.str,.slice 4] x1 x2)
 (.br (!strOf (cellAt x0 x2 0)==strOf (cellAt x1 x2 0))
 (.at (.done 0))
 (.br (qaG [.str,.int .i64,.int .i64,.int .i64,.str,.slice 4,.int .i64,.int .i64,.str,.slice 4] x0 x2)
 (.br (qaG [.str,.int .i64,.int .i64,.int .i64,.str,.slice 4,.int .i64,.int .i64,.str,.slice 4] x1 x2)
 (.br (intOf (cellAt x0 x2 1) != intOf (cellAt x1 x2 1))
 (.at (.done 0))
 (.br (qaG [.str,.int .i64,.int .i64,.int .i64,.str,.slice 4,.int .i64,.int .i64,.str,.slice 4] x0 x2)
 (.br (qaG [.str,.int .i64,.int .i64,.int .i64,.str,.slice 4,.int .i64,.int .i64,.str,.slice 4] x1 x2)
 (.bi (qnA (intOf (cellAt x0 x2 2)) (intOf (cellAt x0 x2 3)) (strOf (cellAt x0 x2 4)) (qap (cellAt x0 x2 5)) (intOf (cellAt x1 x2 2)) (intOf (cellAt x1 x2 3))
 (strOf (cellAt x1 x2 4)) (qap (cellAt x1 x2 5))) (fun y0=>
 .br (!y0)
 (.at (.done 0))
 (.br (qaG [.str,.int .i64,.int .i64,.int .i64,.str,.slice 4,.int .i64,.int .i64,.str,.slice 4] x0 x2)
 (.br (qaG [.str,.int .i64,.int .i64,.int .i64,.str,.slice 4,.int .i64,.int .i64,.str,.slice 4] x1 x2)
 (.bi (qnA (intOf (cellAt x0 x2 6)) (intOf (cellAt x0 x2 7)) (strOf (cellAt x0 x2 8)) (qap (cellAt x0 x2 9)) (intOf (cellAt x1 x2 6)) (intOf (cellAt x1 x2 7))
 (strOf (cellAt x1 x2 8)) (qap (cellAt x1 x2 9))) (fun y1=>
 .br (!y1) (.at (.done 0)) (.at (.next ((x0,x1,IntKind.i64.wrap (x2+1))))))
 (.no))
 (.no))
 (.no)))
 (.no))
 (.no))
 (.no)))
 (.no))
 (.no)))
 (.no))
 (.no))
 (.at (.done 1))
def qku:qeE->DT (Rd qeE):=(fun v=>qoa v.1 v.2.1 v.2.2)
def qsR(v:qeE):=lo qku v
theorem qvS(v):qsR v=qae (fun v=>(qku v).ev) v:=qaa _
def qIW:qbJ:=LE (τ:=qeE) (hD qHJ) (qsR) zfx
theorem zet:TL IP F47 0 qIW:=lp (ih qeE) (hs:=qHJ) qku zsc qvS
def qp3(x0 x1:List AV):DT Bool:=
 .br ((x0.length:Int) != (x1.length:Int))
 (.at (false))
 (.bi (pj 0 (qsR (x0,x1,0))) (fun y0=>
 .at (false))
 (.bi (pj 1 (qsR (x0,x1,0))) (fun y0=>
 .at (true))
 (.no)))
def qnp(x0 x1:List AV):=qaC (qp3 x0 x1).ev
theorem qLr(x0 x1):qnp x0 x1=(qp3 x0 x1).ev:=qaa _
theorem zbe:FH IP 47 ⟨[.view 10,.view 10],[]⟩ [⟨false,.bool,[]⟩] (k2 qnp):=f1 F47 1004700 zet (k2 qp3) zsc
def zsd:=zsc.a zbe
abbrev qd4:Type:=Int×List UInt8×List UInt8×List UInt8×Int×Int×Int×Int×List AV×Bool×Int×Int×Bool×List AV×Bool×Int×Int×Bool×List AV×List AV×List UInt8×List UInt8×List UInt8×Int×Int×Int×Int×List AV×Bool×Int×Int×Bool×List AV×Bool×Int×Int×Bool×List AV×List AV
def qIw:List PSt:=[⟨[(1001300,.junk),(2,.ref 0 0 0),(3,.ref 1 0 0),(5,.int .i64)],[(0,.box [.str,.str,.str,.int .i64,.int .i64,.int .i64,.int .i64,.view 2,.bool,.int .i64,.int .i64,.bool,.view 2,.bool,.int .i64,.int .i64,.bool,.view 10,.view 6] false),(1,.box [.str,.str,.str,.int .i64,.int .i64,.int .i64,.int .i64,.view 2,.bool,.int .i64,.int .i64,.bool,.view 2,.bool,.int .i64,.int .i64,.bool,.view 10,.view 6] false)],2,0⟩]
def q2b(x0:Int)(x1 x2 x3:List UInt8)(x4 x5:Int)(x6 x7:Int)(x8:List AV)(x9:Bool)(x10 x11:Int)(x12:Bool)(x13:List AV)(x14:Bool)(x15 x16:Int)(x17:Bool)(x18 x19:List AV)(x20 x21 x22:List UInt8)(x23 x24:Int)(x25 x26:Int)(x27:List AV)(x28:Bool)(x29 x30:Int)(x31:Bool)(x32:List AV)(x33:Bool)(x34 x35:Int)(x36:Bool)(x37 x38:List AV):X×St:=(.ret,⟨[(4,.bool false)],[],0,0⟩)
def q2c(x0:Int)(x1 x2 x3:List UInt8)(x4 x5:Int)(x6 x7:Int)(x8:List AV)(x9:Bool)(x10 x11:Int)(x12:Bool)(x13:List AV)(x14:Bool)(x15 x16:Int)(x17:Bool)(x18 x19:List AV)(x20 x21 x22:List UInt8)(x23 x24:Int)(x25 x26:Int)(x27:List AV)(x28:Bool)(x29 x30:Int)(x31:Bool)(x32:List AV)(x33:Bool)(x34 x35:Int)(x36:Bool)(x37 x38:List AV):X×St:=(.exit 0,⟨[(4,.junk)],[],0,0⟩)
def zgk:List (qd4->X×St):=[(k39 q2b),(k39 q2c)]
def qoA(x0:Int)(x1 x2 x3:List UInt8)(x4 x5:Int)(x6 x7:Int)(x8:List AV)(x9:Bool)(x10 x11:Int)(x12:Bool)(x13:List AV)(x14:Bool)(x15 x16:Int)(x17:Bool)(x18 x19:List AV)(x20 x21 x22:List UInt8)(x23 x24:Int)(x25 x26:Int)(x27:List AV)(x28:Bool)(x29 x30:Int)(x31:Bool)(x32:List AV)(x33:Bool)(x34 x35:Int)(x36:Bool)(x37 x38:List AV):DT (Rd qd4):=
 .br (decide (x0<(x19.length:Int)))
 (.br (qaG [.str,.int .i64,.int .i64,.int .i64,.str,.slice 4] x19 x0)
 (.br (qaG [.str,.int .i64,.int .i64,.int .i64,.str,.slice 4] x38 x0)
 (.br (!strOf (cellAt x19 x0 0)==strOf (cellAt x38 x0 0))
 (.at (.done 0))
 (.br (qaG [.str,.int .i64,.int .i64,.int .i64,.str,.slice 4] x19 x0)
 (.br (qaG [.str,.int .i64,.int .i64,.int .i64,.str,.slice 4] x38 x0)
 (.br (intOf (cellAt x19 x0 1) != intOf (cellAt x38 x0 1))
 (.at (.done 0))
 (.br (qaG [.str,.int .i64,.int .i64,.int .i64,.str,.slice 4] x19 x0)
 (.br (qaG [.str,.int .i64,.int .i64,.int .i64,.str,.slice 4] x38 x0)
 (.bi (qnA (intOf (cellAt x19 x0 2)) (intOf (cellAt x19 x0 3)) (strOf (cellAt x19 x0 4)) (qap (cellAt x19 x0 5)) (intOf (cellAt x38 x0 2)) (intOf (cellAt x38 x0 3))
 (strOf (cellAt x38 x0 4)) (qap (cellAt x38 x0 5))) (fun y0=>
 .br (!y0)
 (.at (.done 0))
 (.at (.next ((IntKind.i64.wrap (x0+1),x1,x2,x3,x4,x5,x6,x7,x8,x9,x10,x11,x12,x13,x14,x15,x16,x17,x18,x19,x20,x21,x22,x23,x24,x25,x26,x27,x28,x29,x30,x31,x32,x33,x34,x35,x36,x37,x38)))))
 (.no))
 (.no))
 (.no)))
 (.no))
 (.no)))
 (.no))
 (.no))
 (.at (.done 1))
def qkH:qd4->DT (Rd qd4):=(fun v=>qoA v.1 v.2.1 v.2.2.1 v.2.2.2.1 v.f.1 v.f.2.1 v.f.2.2.1 v.f.2.2.2.1 v.h.1 v.h.2.1 v.h.2.2.1 v.h.2.2.2.1 v.h.f.1 v.h.f.2.1 v.h.f.2.2.1 v.h.f.2.2.2.1 v.i.1 v.i.2.1 v.i.2.2.1 v.i.2.2.2.1 v.i.f.1 v.i.f.2.1 v.i.f.2.2.1 v.i.f.2.2.2.1 v.i.h.1 v.i.h.2.1 v.i.h.2.2.1 v.i.h.2.2.2.1 v.i.h.f.1 v.i.h.f.2.1 v.i.h.f.2.2.1 v.i.h.f.2.2.2.1 v.i.i.1 v.i.i.2.1 v.i.i.2.2.1 v.i.i.2.2.2.1 v.i.i.f.1 v.i.i.f.2.1 v.i.i.f.2.2)
def qnS(v:qd4):=lo qkH v
theorem qwj(v):qnS v=qae (fun v=>(qkH v).ev) v:=qaa _
def qJI:qbJ:=LE (τ:=qd4) (hD qIw) (qnS) zgk
theorem zff:TL IP F13 0 qJI:=lp (ih qd4) (hs:=qIw) qkH zsd qwj
def qq2(x0 x1 x2:List UInt8)(x3 x4:Int)(x5 x6:Int)(x7:List AV)(x8:Bool)(x9 x10:Int)(x11:Bool)(x12:List AV)(x13:Bool)(x14 x15:Int)(x16:Bool)(x17 x18:List AV)(x19 x20 x21:List UInt8)(x22 x23:Int)(x24 x25:Int)(x26:List AV)(x27:Bool)(x28 x29:Int)(x30:Bool)(x31:List AV)(x32:Bool)(x33 x34:Int)(x35:Bool)(x36 x37:List AV):DT Bool:=
 .bi (br (!x0==x19) (some true) (some !x1==x20)) (fun y0=>
 .bi (br y0 (some true) (some !x2==x21)) (fun y1=>
 .bi (br y1 (some true) (some (x3 != x22))) (fun y2=>
 .bi (br y2 (some true) (some (x4 != x23))) (fun y3=>
 .bi (br y3 (some true) (some (x5 != x24))) (fun y4=>
 .bi (br y4 (some true) (some (x6 != x25))) (fun y5=>
 .br (y5)
 (.at (false))
 (.bi (qsA x7 x8 x9 x10 x11 x26 x27 x28 x29 x30) (fun y6=>
 .bi (br (!y6) (some true) (br (sm (qsA x12 x13 x14 x15 x16 x31 x32 x33 x34 x35)) (some !gv (qsA x12 x13 x14 x15 x16 x31 x32 x33 x34 x35)) none)) (fun y7=>
 .bi (br y7 (some true) (br (sm (qnp x17 x36)) (some !gv (qnp x17 x36)) none)) (fun y8=>
 .bi (br y8 (some true) (some ((x18.length:Int) != (x37.length:Int)))) (fun y9=>
 .br (y9)
 (.at (false))
 (.bi (pj 0
 (qnS
 (0,x0,x1,x2,x3,x4,x5,x6,x7,x8,x9,x10,x11,x12,x13,x14,x15,x16,x17,x18,x19,x20,x21,x22,x23,x24,x25,x26,x27,x28,x29,x30,x31,x32,x33,x34,x35,
 x36,x37))) (fun y10=>
 .at (false))
 (.bi (pj 1
 (qnS
 (0,x0,x1,x2,x3,x4,x5,x6,x7,x8,x9,x10,x11,x12,x13,x14,x15,x16,x17,x18,x19,x20,x21,x22,x23,x24,x25,x26,x27,x28,x29,x30,x31,x32,x33,x34,x35,
 x36,x37))) (fun y10=>
 .at (true))
 (.no))))
 (.no))
 (.no))
 (.no))
 (.no)))
 (.no))
 (.no))
 (.no))
 (.no))
 (.no))
 (.no)
def qg6(x0 x1 x2:List UInt8)(x3 x4:Int)(x5 x6:Int)(x7:List AV)(x8:Bool)(x9 x10:Int)(x11:Bool)(x12:List AV)(x13:Bool)(x14 x15:Int)(x16:Bool)(x17 x18:List AV)(x19 x20 x21:List UInt8)(x22 x23:Int)(x24 x25:Int)(x26:List AV)(x27:Bool)(x28 x29:Int)(x30:Bool)(x31:List AV)(x32:Bool)(x33 x34:Int)(x35:Bool)(x36 x37:List AV):=qaC (qq2 x0 x1 x2 x3 x4 x5 x6 x7 x8 x9 x10 x11 x12 x13 x14 x15 x16 x17 x18 x19 x20 x21 x22 x23 x24 x25 x26 x27 x28 x29 x30 x31 x32 x33 x34 x35 x36 x37).ev
theorem qMr(x0 x1 x2 x3 x4 x5 x6 x7 x8 x9 x10 x11 x12 x13 x14 x15 x16 x17 x18 x19 x20 x21 x22 x23 x24 x25 x26 x27 x28 x29 x30 x31 x32 x33 x34 x35 x36 x37):qg6 x0 x1 x2 x3 x4 x5 x6 x7 x8 x9 x10 x11 x12 x13 x14 x15 x16 x17 x18 x19 x20 x21 x22 x23 x24 x25 x26 x27 x28 x29 x30 x31 x32 x33 x34 x35 x36 x37=(qq2 x0 x1 x2 x3 x4 x5 x6 x7 x8 x9 x10 x11 x12 x13 x14 x15 x16 x17 x18 x19 x20 x21 x22 x23 x24 x25 x26 x27 x28 x29 x30 x31 x32 x33 x34 x35 x36 x37).ev:=qaa _
theorem zcI:FH IP 13 ⟨[.agg [.str,.str,.str,.int .i64,.int .i64,.int .i64,.int .i64,.view 2,.bool,.int .i64,.int .i64,.bool,.view 2,.bool,.int .i64,.int .i64,.bool,.view 10,.view 6],.agg [.str,.str,.str,.int .i64,.int .i64,.int .i64,.int .i64,.view 2,.bool,.int .i64,.int .i64,.bool,.view 2,.bool,.int .i64,.int .i64,.bool,.view 10,.view 6]],[]⟩ [⟨false,.bool,[]⟩] (k38 qg6):=f1 F13 1001300 zff (k38 qq2) zsd
def zse:=zsd.a zcI
def qAc(x0:List UInt8):DT Bool:=
 .br (decide ((x0.length:Int)>3000))
 (.bi (qbZ) (fun y0=>
 .at (y0))
 (.no))
 (.bi (qje x0) (fun y0=>
 .bi (qsh x0) (fun y1=>
 .bi (br (y0.i.2.2.2.1==y1.i.2.2.2.1)
 (some (y0.i.f==y1.i.f))
 (some false)) (fun y2=>
 .bi (br y2
 (br
 (sm
 (qg6 y0.1 y0.2.1 y0.2.2.1 y0.2.2.2.1 y0.f.1 y0.f.2.1 y0.f.2.2.1
 y0.f.2.2.2.1 y0.h.1 y0.h.2.1 y0.h.2.2.1
 y0.h.2.2.2.1 y0.h.f.1 y0.h.f.2.1
 y0.h.f.2.2.1 y0.h.f.2.2.2.1
 y0.i.1 y0.i.2.1
 y0.i.2.2.1 y1.1 y1.2.1 y1.2.2.1 y1.2.2.2.1 y1.f.1
 y1.f.2.1 y1.f.2.2.1 y1.f.2.2.2.1 y1.h.1
 y1.h.2.1 y1.h.2.2.1 y1.h.2.2.2.1
 y1.h.f.1 y1.h.f.2.1
 y1.h.f.2.2.1 y1.h.f.2.2.2.1
 y1.i.1 y1.i.2.1
 y1.i.2.2.1))
 (some
 (gv
 (qg6 y0.1 y0.2.1 y0.2.2.1 y0.2.2.2.1 y0.f.1 y0.f.2.1 y0.f.2.2.1
 y0.f.2.2.2.1 y0.h.1 y0.h.2.1 y0.h.2.2.1
 y0.h.2.2.2.1 y0.h.f.1 y0.h.f.2.1
 y0.h.f.2.2.1 y0.h.f.2.2.2.1
 y0.i.1 y0.i.2.1
 y0.i.2.2.1 y1.1 y1.2.1 y1.2.2.1 y1.2.2.2.1 y1.f.1
 y1.f.2.1 y1.f.2.2.1 y1.f.2.2.2.1 y1.h.1
 y1.h.2.1 y1.h.2.2.1 y1.h.2.2.2.1
 y1.h.f.1 y1.h.f.2.1
 y1.h.f.2.2.1 y1.h.f.2.2.2.1
 y1.i.1 y1.i.2.1
 y1.i.2.2.1)))
 none)
 (some false)) (fun y3=>
 .bi (br y3 (br (sm qbZ) (some (gv qbZ)) none) (some false)) (fun y4=>
 .at (y4))
 (.no))
 (.no))
 (.no))
 (.no))
 (.no))
def qHB(x0:List UInt8):=qaC (qAc x0).ev
theorem qSH(x0):qHB x0=(qAc x0).ev:=qaa _
theorem q7k:FH IP 4 ⟨[.str],[]⟩ [⟨false,.bool,[]⟩] qHB:=fh F4 qAc zse
def zsf:=zse.a q7k
def qqo(x0 x1:Int)(x2:List UInt8):DT Bool:=
 .bi (qjf x2) (fun y0=>
 .br (y0.2.2==0)
 (.br ((y0.1.length:Int)==1)
 (.br (qaG [.int .i64,.int .i64,.str] y0.1 0)
 (.br (intOf (cellAt y0.1 0 0)==x0)
 (.br (qaG [.int .i64,.int .i64,.str] y0.1 0) (.at (strOf (cellAt y0.1 0 2)==x2)) (.no))
 (.at (false)))
 (.no))
 (.at (false)))
 (.at (false)))
 (.no)
def qxP(x0 x1:Int)(x2:List UInt8):=qaC (qqo x0 x1 x2).ev
theorem qLO(x0 x1 x2):qxP x0 x1 x2=(qqo x0 x1 x2).ev:=qaa _
theorem qRF:FH IP 66 ⟨[.agg [.int .i64,.int .i64,.str]],[]⟩ [⟨false,.bool,[]⟩] (k3 qxP):=fh F66 (k3 qqo) zsf
def zsi:=zsf.a qRF
def qpJ(x0:List UInt8)(x1:List AV)(x2:Int):DT (Bool×List AV×Int):=
 .br (decide (x2>=(x1.length:Int)))
 (.at ((false,x1,x2)))
 (.br (qaG [.int .i64,.int .i64,.str] x1 x2)
 (.br (!strOf (cellAt x1 x2 2)==x0)
 (.at ((false,x1,x2)))
 (.bi (qg1 x0) (fun y0=>
 .br (y0)
 (.br (qaG [.int .i64,.int .i64,.str] x1 x2) (.at ((intOf (cellAt x1 x2 0)==5,x1,x2))) (.no))
 (.br (qaG [.int .i64,.int .i64,.str] x1 x2) (.at ((intOf (cellAt x1 x2 0)==4,x1,x2))) (.no)))
 (.no)))
 (.no))
def qrF(x0:List UInt8)(x1:List AV)(x2:Int):=qaC (qpJ x0 x1 x2).ev
theorem qK7(x0 x1 x2):qrF x0 x1 x2=(qpJ x0 x1 x2).ev:=qaa _
theorem zaS:FH IP 266 ⟨[.ref 0 0 0,.str],[(0,.box [.view 3,.int .i64] false)]⟩ [⟨false,.bool,[(0,.box [.view 3,.int .i64] false)]⟩] (k3 qrF):=fh zmK (k3 qpJ) zsi
def zsj:=zsi.a zaS
def qAd(x0:List UInt8)(x1:List AV)(x2:Int):DT (Bool×List AV×Int):=
 .bi (qrF x0 x1 x2) (fun y0=>
 .br (!y0.1) (.at ((false,y0.2))) (.at ((true,y0.2.1,IntKind.i64.wrap (y0.2.2+1)))))
 (.no)
def qcS(x0:List UInt8)(x1:List AV)(x2:Int):=qaC (qAd x0 x1 x2).ev
theorem qSJ(x0 x1 x2):qcS x0 x1 x2=(qAd x0 x1 x2).ev:=qaa _
theorem zir:FH IP 241 ⟨[.ref 0 0 0,.str],[(0,.box [.view 3,.int .i64] false)]⟩ [⟨false,.bool,[(0,.box [.view 3,.int .i64] false)]⟩] (k3 qcS):=fh zmE (k3 qAd) zsj
def zsk:=zsj.a zir
def qAr(x0:List AV)(x1:Int):DT (Int×List AV×Int):=
 .at ((x1,x0,x1))
def qhm(x0:List AV)(x1:Int):=qaC (qAr x0 x1).ev
theorem qSW(x0 x1):qhm x0 x1=(qAr x0 x1).ev:=qaa _
theorem ziI:FH IP 269 ⟨[.ref 0 0 0],[(0,.box [.view 3,.int .i64] false)]⟩ [⟨true,.iface 202 (.agg [.int .i64]),[(0,.box [.view 3,.int .i64] false)]⟩] (k2 qhm):=fh zmM (k2 qAr) zsk
def zsl:=zsk.a ziI
end
end Go.Proofs.H16
namespace Go.Proofs.H16
open Go Go.Eng
set_option maxRecDepth 100000
noncomputable section
abbrev qPT:Type:=(Int×List AV×Int)⊕(Int×List AV×Int)
def qAe(x0:List AV)(x1:Int):DT qPT:=
 .br (decide (x1>=(x0.length:Int)))
 (.bi (qhm x0 x1) (fun y0=>
 .at ((.inr (y0))))
 (.no))
 (.br (qaG [.int .i64,.int .i64,.str] x0 x1)
 (.br (intOf (cellAt x0 x1 0) != 2)
 (.bi (qhm x0 x1) (fun y0=>
 .at ((.inr (y0))))
 (.no))
 (.br (qaG [.int .i64,.int .i64,.str] x0 x1)
 (.br (pOk (strOf (cellAt x0 x1 2))&&nOk (Lib.atoiAll (strOf (cellAt x0 x1 2))))
 (.bi (br (gv (some (decide (qNU (Lib.atoiAll (strOf (cellAt x0 x1 2)))<0)))) (some true)
 (br (decide (-9223372036854775808<=qNU (Lib.atoiAll (strOf (cellAt x0 x1 2))))&&decide (qNU (Lib.atoiAll (strOf (cellAt x0 x1 2)))<=9223372036854775807))
 (some !Lib.itoa (qNU (Lib.atoiAll (strOf (cellAt x0 x1 2))))==strOf (cellAt x0 x1 2)) none)) (fun y0=>
 .br (y0)
 (.bi (qhm x0 x1) (fun y1=>
 .at ((.inr (y1))))
 (.no))
 (.at ((.inl (qNU (Lib.atoiAll (strOf (cellAt x0 x1 2))),x0,IntKind.i64.wrap (x1+1))))))
 (.no))
 (.br (pOk (strOf (cellAt x0 x1 2))&&qhw (Lib.atoiAll (strOf (cellAt x0 x1 2))))
 (.bi (qhm x0 x1) (fun y0=>
 .at ((.inr (y0))))
 (.no))
 (.br (pOk (strOf (cellAt x0 x1 2))&&qc7 (Lib.atoiAll (strOf (cellAt x0 x1 2))))
 (.bi (qhm x0 x1) (fun y0=>
 .at ((.inr (y0))))
 (.no))
 (.no))))
 (.no)))
 (.no))
def qdG(x0:List AV)(x1:Int):=qaC (qAe x0 x1).ev
theorem qSK(x0 x1):qdG x0 x1=(qAe x0 x1).ev:=qaa _
theorem zit:FH IP 286 ⟨[.ref 0 0 0],[(0,.box [.view 3,.int .i64] false)]⟩ [⟨false,.int .i64,[(0,.box [.view 3,.int .i64] false)]⟩,⟨true,.iface 202 (.agg [.int .i64]),[(0,.box [.view 3,.int .i64] false)]⟩] (k2 qdG):=fh zmP (k2 qAe) zsl
def zsm:=zsl.a zit
def qAt(x0:List UInt8)(x1:List AV)(x2:Int):DT ((Int×List AV×Int)⊕(List AV×Int)):=
 .bi (qcS x0 x1 x2) (fun y0=>
 .br (!y0.1)
 (.bi (qhm y0.2.1 y0.2.2) (fun y1=>
 .at ((.inl (y1))))
 (.no))
 (.at ((.inr (y0.2)))))
 (.no)
def qdH(x0:List UInt8)(x1:List AV)(x2:Int):=qaC (qAt x0 x1 x2).ev
theorem qSX(x0 x1 x2):qdH x0 x1 x2=(qAt x0 x1 x2).ev:=qaa _
theorem ziK:FH IP 243 ⟨[.ref 0 0 0,.str],[(0,.box [.view 3,.int .i64] false)]⟩ [⟨true,.iface 202 (.agg [.int .i64]),[(0,.box [.view 3,.int .i64] false)]⟩,⟨false,.tup [],[(0,.box [.view 3,.int .i64] false)]⟩] (k3 qdH):=fh zmF (k3 qAt) zsm
def zsn:=zsm.a ziK
abbrev qhX:Type:=List AV×Int×Int×List AV×Int
def qTl:List PSt:=[⟨[(1026800,.junk),(0,.ref 0 0 0),(10,.view 2),(11,.int .i64),(12,.int .i64)],[(0,.box [.view 3,.int .i64] false)],1,1⟩]
def q4J(x0:List AV)(x1 x2:Int)(x3:List AV)(x4:Int):X×St:=(.ret,
 ⟨[(4,.int .i64 (intOf (cellAt x0 x2 1)))],[(0,
 .box
 [.view 3 (gv (qcS (strOf (cellAt x0 x2 0)) x3 x4)).2.1,.int .i64 (gv (qcS (strOf (cellAt x0 x2 0)) x3 x4)).2.2]
 false)],1,1⟩)
def q4K(x0:List AV)(x1 x2:Int)(x3:List AV)(x4:Int):X×St:=(.exit 0,⟨[(4,.junk)],[(0,.box [.view 3 x3,.int .i64 x4] false)],1,1⟩)
def zlx:List (qhX->X×St):=[(k5 q4J),(k5 q4K)]
def qjT(x0:List AV)(x1 x2:Int)(x3:List AV)(x4:Int):DT (Rd qhX):=
 .br (decide (x2<x1))
 (.br (qaG [.str,.int .i64] x0 x2)
 (.bi (qcS (strOf (cellAt x0 x2 0)) x3 x4) (fun y0=>
 .br (y0.1) (.at (.done 0)) (.at (.next ((x0,x1,IntKind.i64.wrap (x2+1),y0.2)))))
 (.no))
 (.no))
 (.at (.done 1))
def qGo:qhX->DT (Rd qhX):=(fun v=>qjT v.1 v.2.1 v.2.2.1 v.2.2.2.1 v.f)
def qBs(v:qhX):=lo qGo v
theorem qBt(v):qBs v=qae (fun v=>(qGo v).ev) v:=qaa _
def qUg:qbJ:=LE (τ:=qhX) (hD qTl) (qBs) zlx
theorem zkM:TL IP zam 0 qUg:=lp (ih qhX) (hs:=qTl) qGo zsn qBt
def qz6(x0:Int)(x1:List AV)(x2:Int):DT (Int×List AV×Int):=
 .bi (qls) (fun y0=>
 .br (qaG [.slice 2] y0 x0)
 (.bi (pj 0 (qBs (qap (cellAt y0 x0 0),((qap (cellAt y0 x0 0)).length:Int),0,x1,x2))) (fun y1=>
 .at ((intOf (cellAt y1.1 y1.2.2.1 1),(gv (qcS (strOf (cellAt y1.1 y1.2.2.1 0)) y1.2.2.2.1 y1.f)).2.1,(gv (qcS (strOf (cellAt y1.1 y1.2.2.1 0)) y1.2.2.2.1 y1.f)).2.2)))
 (.bi (pj 1 (qBs (qap (cellAt y0 x0 0),((qap (cellAt y0 x0 0)).length:Int),0,x1,x2))) (fun y1=>
 .at ((0,y1.2.2.2)))
 (.no)))
 (.no))
 (.no)
def qoT(x0:Int)(x1:List AV)(x2:Int):=qaC (qz6 x0 x1 x2).ev
theorem qSA(x0 x1 x2):qoT x0 x1 x2=(qz6 x0 x1 x2).ev:=qaa _
theorem zid:FH IP 268 ⟨[.ref 0 0 0,.int .i64],[(0,.box [.view 3,.int .i64] false)]⟩ [⟨false,.int .i64,[(0,.box [.view 3,.int .i64] false)]⟩] (k3 qoT):=f1 zam 1026800 zkM (k3 qz6) zsn
def znx:=zsn.a zid
abbrev qPV:Type:=(Int×Int×List UInt8×List AV×List AV×Int)⊕(Int×List AV×Int)
def qB5:PArgs:=⟨[.ref 0 0 0],[(0,.box [.view 3,.int .i64] false)]⟩
def qCj:List PRes:=[⟨false,.agg [.int .i64,.int .i64,.str,.view 4],[(0,.box [.view 3,.int .i64] false)]⟩,⟨true,.iface 202 (.agg [.int .i64]),[(0,.box [.view 3,.int .i64] false)]⟩]
abbrev qbD:Type:=(List AV)->Int->Option qPV
abbrev qre:Type:=(Int×Int×List UInt8×List AV×List AV×Int)⊕(Int×List AV×Int)
def qB2:PArgs:=⟨[.ref 0 0 0,.int .i64],[(0,.box [.view 3,.int .i64] false)]⟩
def qCg:List PRes:=[⟨false,.agg [.int .i64,.int .i64,.str,.view 4],[(0,.box [.view 3,.int .i64] false)]⟩,⟨true,.iface 202 (.agg [.int .i64]),[(0,.box [.view 3,.int .i64] false)]⟩]
abbrev qbC:Type:=Int->(List AV)->Int->Option qre
abbrev qPY:Type:=(Int×Int×List UInt8×List AV×List AV×Int)⊕(Int×List AV×Int)
def qB7:PArgs:=⟨[.ref 0 0 0],[(0,.box [.view 3,.int .i64] false)]⟩
def qCl:List PRes:=[⟨false,.agg [.int .i64,.int .i64,.str,.view 4],[(0,.box [.view 3,.int .i64] false)]⟩,⟨true,.iface 202 (.agg [.int .i64]),[(0,.box [.view 3,.int .i64] false)]⟩]
abbrev qbF:Type:=(List AV)->Int->Option qPY
abbrev qG1:Type:=(Int×Int×List UInt8×List AV×List AV×Int)⊕(Int×List AV×Int)
def qB1:PArgs:=⟨[.ref 0 0 0],[(0,.box [.view 3,.int .i64] false)]⟩
def qCf:List PRes:=[⟨false,.agg [.int .i64,.int .i64,.str,.view 4],[(0,.box [.view 3,.int .i64] false)]⟩,⟨true,.iface 202 (.agg [.int .i64]),[(0,.box [.view 3,.int .i64] false)]⟩]
abbrev qbB:Type:=(List AV)->Int->Option qG1
abbrev qPW:Type:=(Int×List AV×Int)⊕(Int×Int×List UInt8×List AV×List AV×Int)
def qB6:PArgs:=⟨[.ref 0 0 0,.int .i64],[(0,.box [.view 3,.int .i64] false)]⟩
def qCk:List PRes:=[⟨true,.iface 202 (.agg [.int .i64]),[(0,.box [.view 3,.int .i64] false)]⟩,⟨false,.agg [.int .i64,.int .i64,.str,.view 4],[(0,.box [.view 3,.int .i64] false)]⟩]
abbrev qbE:Type:=Int->(List AV)->Int->Option qPW
def qDo(G_u79q:qbD)(G_u60q:qbC)(G_u90q:qbF)(G_u49q:qbB)(G_u81q:qbE):Prop:=FH IP 209 qB5 qCj (k2 G_u79q)/\FH IP 242 qB2 qCg (k3 G_u60q)/\FH IP 267 qB7 qCl (k2 G_u90q)/\FH IP 283 qB1 qCf (k2 G_u49q)/\FH IP 287 qB6 qCk (k3 G_u81q)
def zaC(G_u79q:qbD)(G_u60q:qbC)(G_u90q:qbF)(G_u49q:qbB)(G_u81q:qbE):Tab:=(209,FE qB5 qCj (k2 G_u79q))::(242,FE qB2 qCg (k3 G_u60q))::(267,FE qB7 qCl (k2 G_u90q))::(283,FE qB1 qCf (k2 G_u49q))::(287,FE qB6 qCk (k3 G_u81q))::znx.t
theorem qfA(G_u79q:qbD)(G_u60q:qbC)(G_u90q:qbF)(G_u49q:qbB)(G_u81q:qbE)(hG:qDo G_u79q G_u60q G_u90q G_u49q G_u81q):qan IP (zaC G_u79q G_u60q G_u90q G_u49q G_u81q):=⟨qam (hG.1),qam (hG.2.1),qam (hG.2.2.1),qam (hG.2.2.2.1),qam (hG.2.2.2.2),znx.ok⟩
abbrev qfH:Type:=(Int×Int×List AV×Int×Int×Int×List UInt8×Int×Int×List UInt8×List AV)⊕(Int×Int×List AV×Int×Int×Int×List UInt8×Int×Int×List UInt8×List AV)
def qTn:List PSt:=[⟨[(1024200,.junk),(0,.ref 0 0 0),(1,.int .i64),(4,.ref 1 0 0),(5,.ref 2 0 0),(6,.int .i64)],[(0,.box [.view 3,.int .i64] false),(1,.box [.int .i64,.int .i64,.str,.nils 4] false),(2,.box [.int .i64,.int .i64,.str,.view 4] false)],3,1⟩,⟨[(1024200,.junk),(0,.ref 0 0 0),(1,.int .i64),(4,.ref 1 0 0),(5,.ref 2 0 0),(6,.int .i64)],[(0,.box [.view 3,.int .i64] false),(1,.box [.int .i64,.int .i64,.str,.nils 4] false),(2,.box [.int .i64,.int .i64,.str,.own 3 0] false),(3,.arr 4 false)],4,1⟩]
def q4M(G_u79q:qbD)(G_u60q:qbC)(G_u90q:qbF)(G_u49q:qbB)(G_u81q:qbE)(x0 x1:Int)(x2:List AV)(x3 x4 x5:Int)(x6:List UInt8)(x7 x8:Int)(x9:List UInt8)(x10:List AV):X×St:=(.exit 0,
 ⟨[(4,.ref 1 0 0),(5,.ref 2 0 0)],[(0,
 .box
 [.view 3 (gv (pl (G_u60q (IntKind.i64.wrap (x0+1)) x2 x3))).f.1,
 .int .i64 (gv (pl (G_u60q (IntKind.i64.wrap (x0+1)) x2 x3))).f.2]
 false),
 (1,.box [.int .i64 x4,.int .i64 x5,.str x6,.nils ⟨4,.nil⟩] false),
 (2,.box [.int .i64 x1,.int .i64 0,.str [],.own 3 0 none] false),
 (3,
 .arr 4
 [.agg [.int .i64 x7,.int .i64 x8,.str x9,.view 4 x10],
 .agg
 [.int .i64 (gv (pl (G_u60q (IntKind.i64.wrap (x0+1)) x2 x3))).1,
 .int .i64 (gv (pl (G_u60q (IntKind.i64.wrap (x0+1)) x2 x3))).2.1,
 .str (gv (pl (G_u60q (IntKind.i64.wrap (x0+1)) x2 x3))).2.2.1,
 .view 4 (gv (pl (G_u60q (IntKind.i64.wrap (x0+1)) x2 x3))).2.2.2.1]]
 false)],4,1⟩)
def q4N(G_u79q:qbD)(G_u60q:qbC)(G_u90q:qbF)(G_u49q:qbB)(G_u81q:qbE)(x0 x1:Int)(x2:List AV)(x3 x4 x5:Int)(x6:List UInt8)(x7 x8:Int)(x9:List UInt8)(x10:List AV):X×St:=(.pan (.iface 202 (.agg [.int .i64 (gv (pr (G_u60q (IntKind.i64.wrap (x0+1)) x2 x3))).1])),
 ⟨[],[(0,
 .box
 [.view 3 (gv (pr (G_u60q (IntKind.i64.wrap (x0+1)) x2 x3))).2.1,
 .int .i64 (gv (pr (G_u60q (IntKind.i64.wrap (x0+1)) x2 x3))).2.2]
 false),
 (1,.box [.int .i64 x4,.int .i64 x5,.str x6,.nils ⟨4,.nil⟩] false),
 (2,.box [.int .i64 x7,.int .i64 x8,.str x9,.view 4 x10] false)],179,1⟩)
def q4O(G_u79q:qbD)(G_u60q:qbC)(G_u90q:qbF)(G_u49q:qbB)(G_u81q:qbE)(x0 x1:Int)(x2:List AV)(x3 x4 x5:Int)(x6:List UInt8)(x7 x8:Int)(x9:List UInt8)(x10:List AV):X×St:=(.exit 0,
 ⟨[(4,.ref 1 0 0),(5,.ref 2 0 0)],[(0,.box [.view 3 x2,.int .i64 x3] false),(1,.box [.int .i64 x4,.int .i64 x5,.str x6,.nils ⟨4,.nil⟩] false),
 (2,.box [.int .i64 x7,.int .i64 x8,.str x9,.view 4 x10] false)],3,1⟩)
def q4P(G_u79q:qbD)(G_u60q:qbC)(G_u90q:qbF)(G_u49q:qbB)(G_u81q:qbE)(x0 x1:Int)(x2:List AV)(x3 x4 x5:Int)(x6:List UInt8)(x7 x8:Int)(x9:List UInt8)(x10:List AV):X×St:=(.exit 0,
 ⟨[(4,.ref 1 0 0),(5,.ref 2 0 0)],[(0,
 .box
 [.view 3 (gv (pl (G_u60q (IntKind.i64.wrap (x0+1)) x2 x3))).f.1,
 .int .i64 (gv (pl (G_u60q (IntKind.i64.wrap (x0+1)) x2 x3))).f.2]
 false),
 (1,.box [.int .i64 x4,.int .i64 x5,.str x6,.nils ⟨4,.nil⟩] false),
 (2,.box [.int .i64 x1,.int .i64 0,.str [],.own 3 0 none] false),
 (3,
 .arr 4
 [.agg [.int .i64 x7,.int .i64 x8,.str x9,.view 4 x10],
 .agg
 [.int .i64 (gv (pl (G_u60q (IntKind.i64.wrap (x0+1)) x2 x3))).1,
 .int .i64 (gv (pl (G_u60q (IntKind.i64.wrap (x0+1)) x2 x3))).2.1,
 .str (gv (pl (G_u60q (IntKind.i64.wrap (x0+1)) x2 x3))).2.2.1,
 .view 4 (gv (pl (G_u60q (IntKind.i64.wrap (x0+1)) x2 x3))).2.2.2.1]]
 false)],4,1⟩)
def q4Q(G_u79q:qbD)(G_u60q:qbC)(G_u90q:qbF)(G_u49q:qbB)(G_u81q:qbE)(x0 x1:Int)(x2:List AV)(x3 x4 x5:Int)(x6:List UInt8)(x7 x8:Int)(x9:List UInt8)(x10:List AV):X×St:=(.pan (.iface 202 (.agg [.int .i64 (gv (pr (G_u60q (IntKind.i64.wrap (x0+1)) x2 x3))).1])),
 ⟨[],[(0,
 .box
 [.view 3 (gv (pr (G_u60q (IntKind.i64.wrap (x0+1)) x2 x3))).2.1,
 .int .i64 (gv (pr (G_u60q (IntKind.i64.wrap (x0+1)) x2 x3))).2.2]
 false),
 (1,.box [.int .i64 x4,.int .i64 x5,.str x6,.nils ⟨4,.nil⟩] false),
 (2,.box [.int .i64 x7,.int .i64 x8,.str x9,.own 3 0 none] false),(3,.arr 4 x10 false)],180,1⟩)
def q4R(G_u79q:qbD)(G_u60q:qbC)(G_u90q:qbF)(G_u49q:qbB)(G_u81q:qbE)(x0 x1:Int)(x2:List AV)(x3 x4 x5:Int)(x6:List UInt8)(x7 x8:Int)(x9:List UInt8)(x10:List AV):X×St:=(.exit 0,
 ⟨[(4,.ref 1 0 0),(5,.ref 2 0 0)],[(0,.box [.view 3 x2,.int .i64 x3] false),(1,.box [.int .i64 x4,.int .i64 x5,.str x6,.nils ⟨4,.nil⟩] false),
 (2,.box [.int .i64 x7,.int .i64 x8,.str x9,.own 3 0 none] false),(3,.arr 4 x10 false)],4,1⟩)
def zlz(G_u79q:qbD)(G_u60q:qbC)(G_u90q:qbF)(G_u49q:qbB)(G_u81q:qbE):List (qfH->X×St):=[fun w=>(k11 (q4M G_u79q G_u60q G_u90q G_u49q G_u81q)) ((sl w)),fun w=>(k11 (q4N G_u79q G_u60q G_u90q G_u49q G_u81q)) ((sl w)),fun w=>(k11 (q4O G_u79q G_u60q G_u90q G_u49q G_u81q)) ((sl w)),fun w=>(k11 (q4P G_u79q G_u60q G_u90q G_u49q G_u81q)) ((sr w)),fun w=>(k11 (q4Q G_u79q G_u60q G_u90q G_u49q G_u81q)) ((sr w)),fun w=>(k11 (q4R G_u79q G_u60q G_u90q G_u49q G_u81q)) ((sr w))]
def qZT(G_u79q:qbD)(G_u60q:qbC)(G_u90q:qbF)(G_u49q:qbB)(G_u81q:qbE)(x0 x1:Int)(x2:List AV)(x3 x4 x5:Int)(x6:List UInt8)(x7 x8:Int)(x9:List UInt8)(x10:List AV):DT (Rd qfH):=
 .br (x1 != 0)
 (.bi (pl (G_u60q (IntKind.i64.wrap (x0+1)) x2 x3)) (fun y0=>
 .br (x0==2)
 (.at (.done 0))
 (.bi (qoT x0 y0.f.1 y0.f.2) (fun y1=>
 .at (.next ((.inr (x0,y1.1,y1.2.1,y1.2.2,x4,x5,x6,x1,0,[],[AV.agg [.int .i64 x7,.int .i64 x8,AV.str x9,AV.view 4 x10],
 AV.agg [.int .i64 y0.1,.int .i64 y0.2.1,AV.str y0.2.2.1,AV.view 4 y0.2.2.2.1]])))))
 (.no)))
 (.bi (pr (G_u60q (IntKind.i64.wrap (x0+1)) x2 x3)) (fun y0=>
 .at (.done 1))
 (.no)))
 (.at (.done 2))
def qZU(G_u79q:qbD)(G_u60q:qbC)(G_u90q:qbF)(G_u49q:qbB)(G_u81q:qbE)(x0 x1:Int)(x2:List AV)(x3 x4 x5:Int)(x6:List UInt8)(x7 x8:Int)(x9:List UInt8)(x10:List AV):DT (Rd qfH):=
 .br (x1 != 0)
 (.bi (pl (G_u60q (IntKind.i64.wrap (x0+1)) x2 x3)) (fun y0=>
 .br (x0==2)
 (.at (.done 3))
 (.bi (qoT x0 y0.f.1 y0.f.2) (fun y1=>
 .at (.next ((.inr (x0,y1.1,y1.2.1,y1.2.2,x4,x5,x6,x1,0,[],[AV.agg [.int .i64 x7,.int .i64 x8,AV.str x9,AV.view 4 x10],
 AV.agg [.int .i64 y0.1,.int .i64 y0.2.1,AV.str y0.2.2.1,AV.view 4 y0.2.2.2.1]])))))
 (.no)))
 (.bi (pr (G_u60q (IntKind.i64.wrap (x0+1)) x2 x3)) (fun y0=>
 .at (.done 4))
 (.no)))
 (.at (.done 5))
def qGp(G_u79q:qbD)(G_u60q:qbC)(G_u90q:qbF)(G_u49q:qbB)(G_u81q:qbE):qfH->DT (Rd qfH):=(Sum.elim (fun v=>qZT G_u79q G_u60q G_u90q G_u49q G_u81q v.1 v.2.1 v.2.2.1 v.2.2.2.1 v.f.1 v.f.2.1 v.f.2.2.1 v.f.2.2.2.1 v.h.1 v.h.2.1 v.h.2.2) (fun v=>qZU G_u79q G_u60q G_u90q G_u49q G_u81q v.1 v.2.1 v.2.2.1 v.2.2.2.1 v.f.1 v.f.2.1 v.f.2.2.1 v.f.2.2.2.1 v.h.1 v.h.2.1 v.h.2.2))
def qdy(G_u79q:qbD)(G_u60q:qbC)(G_u90q:qbF)(G_u49q:qbB)(G_u81q:qbE)(v:qfH):Option (Nat×qfH):=qaC (qae (fun v=>(qGp G_u79q G_u60q G_u90q G_u49q G_u81q v).ev) v)
theorem qhu(G_u79q G_u60q G_u90q G_u49q G_u81q v):qdy G_u79q G_u60q G_u90q G_u49q G_u81q v=qae (fun v=>(qGp G_u79q G_u60q G_u90q G_u49q G_u81q v).ev) v:=qaa _
def qUi(G_u79q:qbD)(G_u60q:qbC)(G_u90q:qbF)(G_u49q:qbB)(G_u81q:qbE):qbJ:=LE (τ:=qfH) (hD qTn) (qdy G_u79q G_u60q G_u90q G_u49q G_u81q) (zlz G_u79q G_u60q G_u90q G_u49q G_u81q)
theorem zkO(G_u79q:qbD)(G_u60q:qbC)(G_u90q:qbF)(G_u49q:qbB)(G_u81q:qbE)(hG:qDo G_u79q G_u60q G_u90q G_u49q G_u81q):Go.Eng.Told IP (qad zaj 0).1 (qad zaj 0).2 (qUi G_u79q G_u60q G_u90q G_u49q G_u81q):=qas (inferInstance:Inhabited qfH) (hs:=qTn) (st:=qGp G_u79q G_u60q G_u90q G_u49q G_u81q) (L:=[]) (qfA G_u79q G_u60q G_u90q G_u49q G_u81q hG) (qac (l:=[]) (by kernel_rfl) trivial) (qhu G_u79q G_u60q G_u90q G_u49q G_u81q) (fun v=>match v with|(.inl v)=>by kernel_rfl|(.inr v)=>by kernel_rfl) (fun v=>match v with|(.inl v)=>by kernel_rfl|(.inr v)=>by kernel_rfl)
def qAq(G_u79q:qbD)(G_u60q:qbC)(G_u90q:qbF)(G_u49q:qbB)(G_u81q:qbE)(x0:List AV)(x1:Int):DT qPV:=
 .bi (qcS [105,102] x0 x1) (fun y0=>
 .br (!y0.1)
 (.bi (pl (G_u60q 0 y0.2.1 y0.2.2)) (fun y1=>
 .at ((.inl (y1))))
 (.bi (pr (G_u60q 0 y0.2.1 y0.2.2)) (fun y1=>
 .at ((.inr (y1))))
 (.no)))
 (.bi (pl (G_u79q y0.2.1 y0.2.2)) (fun y1=>
 .bi (pl (qdH [116,104,101,110] y1.f.1 y1.f.2)) (fun y2=>
 .at ((.inr (y2))))
 (.bi (pr (qdH [116,104,101,110] y1.f.1 y1.f.2)) (fun y2=>
 .bi (pl (G_u79q y2.1 y2.2)) (fun y3=>
 .bi (pl (qdH [101,108,115,101] y3.f.1 y3.f.2)) (fun y4=>
 .at ((.inr (y4))))
 (.bi (pr (qdH [101,108,115,101] y3.f.1 y3.f.2)) (fun y4=>
 .bi (pl (G_u79q y4.1 y4.2)) (fun y5=>
 .at ((.inl (19,0,[],[AV.agg [.int .i64 y1.1,.int .i64 y1.2.1,AV.str y1.2.2.1,AV.view 4 y1.2.2.2.1],
 AV.agg [.int .i64 y3.1,.int .i64 y3.2.1,AV.str y3.2.2.1,AV.view 4 y3.2.2.2.1],
 AV.agg [.int .i64 y5.1,.int .i64 y5.2.1,AV.str y5.2.2.1,AV.view 4 y5.2.2.2.1]],y5.f))))
 (.bi (pr (G_u79q y4.1 y4.2)) (fun y5=>
 .at ((.inr (y5))))
 (.no)))
 (.no)))
 (.bi (pr (G_u79q y2.1 y2.2)) (fun y3=>
 .at ((.inr (y3))))
 (.no)))
 (.no)))
 (.bi (pr (G_u79q y0.2.1 y0.2.2)) (fun y1=>
 .at ((.inr (y1))))
 (.no))))
 (.no)
def qhd(G_u79q:qbD)(G_u60q:qbC)(G_u90q:qbF)(G_u49q:qbB)(G_u81q:qbE)(x0:Int)(x1:List AV)(x2:Int):DT qre:=
 .bi (qls) (fun y0=>
 .br (x0==(y0.length:Int))
 (.bi (pl (G_u90q x1 x2)) (fun y1=>
 .at ((.inl (y1))))
 (.bi (pr (G_u90q x1 x2)) (fun y1=>
 .at ((.inr (y1))))
 (.no)))
 (.br (x0==2)
 (.bi (qcS [110,111,116] x1 x2) (fun y1=>
 .br (y1.1)
 (.bi (pl (G_u60q 2 y1.2.1 y1.2.2)) (fun y2=>
 .at ((.inl (16,0,[],[AV.agg [.int .i64 y2.1,.int .i64 y2.2.1,AV.str y2.2.2.1,AV.view 4 y2.2.2.2.1]],y2.f))))
 (.bi (pr (G_u60q 2 y1.2.1 y1.2.2)) (fun y2=>
 .at ((.inr (y2))))
 (.no)))
 (.bi (pl (G_u60q (IntKind.i64.wrap (x0+1)) y1.2.1 y1.2.2)) (fun y2=>
 .bi (qoT x0 y2.f.1 y2.f.2) (fun y3=>
 .bi (pj 0
 (qdy G_u79q G_u60q G_u90q G_u49q G_u81q
 (Sum.inl (x0,y3.1,y3.2.1,y3.2.2,0,0,[],y2.1,y2.2.1,y2.2.2.1,y2.2.2.2.1)))) (fun y4=>
 .at ((.inl ((sl y4).2.1,0,[],[AV.agg
 [.int .i64 (sl y4).f.2.2.2.1,.int .i64 (sl y4).h.1,
 AV.str (sl y4).h.2.1,AV.view 4 (sl y4).h.2.2],
 AV.agg
 [.int .i64 (gv (pl (G_u60q (IntKind.i64.wrap ((sl y4).1+1)) (sl y4).2.2.1 (sl y4).2.2.2.1))).1,
 .int .i64 (gv (pl (G_u60q (IntKind.i64.wrap ((sl y4).1+1)) (sl y4).2.2.1 (sl y4).2.2.2.1))).2.1,
 AV.str (gv (pl (G_u60q (IntKind.i64.wrap ((sl y4).1+1)) (sl y4).2.2.1 (sl y4).2.2.2.1))).2.2.1,
 AV.view 4 (gv (pl (G_u60q (IntKind.i64.wrap ((sl y4).1+1)) (sl y4).2.2.1 (sl y4).2.2.2.1))).2.2.2.1]],(gv (pl (G_u60q (IntKind.i64.wrap ((sl y4).1+1)) (sl y4).2.2.1 (sl y4).2.2.2.1))).f.1,(gv (pl (G_u60q (IntKind.i64.wrap ((sl y4).1+1)) (sl y4).2.2.1 (sl y4).2.2.2.1))).f.2))))
 (.bi (pj 1
 (qdy G_u79q G_u60q G_u90q G_u49q G_u81q
 (Sum.inl (x0,y3.1,y3.2.1,y3.2.2,0,0,[],y2.1,y2.2.1,y2.2.2.1,y2.2.2.2.1)))) (fun y4=>
 .at ((.inr ((gv (pr (G_u60q (IntKind.i64.wrap ((sl y4).1+1)) (sl y4).2.2.1 (sl y4).2.2.2.1))).1,(gv (pr (G_u60q (IntKind.i64.wrap ((sl y4).1+1)) (sl y4).2.2.1 (sl y4).2.2.2.1))).2.1,(gv (pr (G_u60q (IntKind.i64.wrap ((sl y4).1+1)) (sl y4).2.2.1 (sl y4).2.2.2.1))).2.2))))
 (.bi (pj 2
 (qdy G_u79q G_u60q G_u90q G_u49q G_u81q
 (Sum.inl (x0,y3.1,y3.2.1,y3.2.2,0,0,[],y2.1,y2.2.1,y2.2.2.1,y2.2.2.2.1)))) (fun y4=>
 .at ((.inl ((sl y4).f.2.2.2.1,(sl y4).h.1,(sl y4).h.2.1,(sl y4).h.2.2,(sl y4).2.2.1,(sl y4).2.2.2.1))))
 (.bi (pj 3
 (qdy G_u79q G_u60q G_u90q G_u49q G_u81q
 (Sum.inl (x0,y3.1,y3.2.1,y3.2.2,0,0,[],y2.1,y2.2.1,y2.2.2.1,y2.2.2.2.1)))) (fun y4=>
 .at ((.inl ((sr y4).2.1,0,[],[AV.agg
 [.int .i64 (sr y4).f.2.2.2.1,.int .i64 (sr y4).h.1,
 AV.str (sr y4).h.2.1,AV.view 4 (sr y4).h.2.2],
 AV.agg
 [.int .i64 (gv (pl (G_u60q (IntKind.i64.wrap ((sr y4).1+1)) (sr y4).2.2.1 (sr y4).2.2.2.1))).1,
 .int .i64 (gv (pl (G_u60q (IntKind.i64.wrap ((sr y4).1+1)) (sr y4).2.2.1 (sr y4).2.2.2.1))).2.1,
 AV.str (gv (pl (G_u60q (IntKind.i64.wrap ((sr y4).1+1)) (sr y4).2.2.1 (sr y4).2.2.2.1))).2.2.1,
 AV.view 4 (gv (pl (G_u60q (IntKind.i64.wrap ((sr y4).1+1)) (sr y4).2.2.1 (sr y4).2.2.2.1))).2.2.2.1]],(gv (pl (G_u60q (IntKind.i64.wrap ((sr y4).1+1)) (sr y4).2.2.1 (sr y4).2.2.2.1))).f.1,(gv (pl (G_u60q (IntKind.i64.wrap ((sr y4).1+1)) (sr y4).2.2.1 (sr y4).2.2.2.1))).f.2))))
 (.bi (pj 4
 (qdy G_u79q G_u60q G_u90q G_u49q G_u81q
 (Sum.inl (x0,y3.1,y3.2.1,y3.2.2,0,0,[],y2.1,y2.2.1,y2.2.2.1,y2.2.2.2.1)))) (fun y4=>
 .at ((.inr ((gv (pr (G_u60q (IntKind.i64.wrap ((sr y4).1+1)) (sr y4).2.2.1 (sr y4).2.2.2.1))).1,(gv (pr (G_u60q (IntKind.i64.wrap ((sr y4).1+1)) (sr y4).2.2.1 (sr y4).2.2.2.1))).2.1,(gv (pr (G_u60q (IntKind.i64.wrap ((sr y4).1+1)) (sr y4).2.2.1 (sr y4).2.2.2.1))).2.2))))
 (.bi (pj 5
 (qdy G_u79q G_u60q G_u90q G_u49q G_u81q
 (Sum.inl (x0,y3.1,y3.2.1,y3.2.2,0,0,[],y2.1,y2.2.1,y2.2.2.1,y2.2.2.2.1)))) (fun y4=>
 .at ((.inl ((sr y4).f.2.2.2.1,(sr y4).h.1,(sr y4).h.2.1,(sr y4).h.2.2,(sr y4).2.2.1,(sr y4).2.2.2.1))))
 (.no)))))))
 (.no))
 (.bi (pr (G_u60q (IntKind.i64.wrap (x0+1)) y1.2.1 y1.2.2)) (fun y2=>
 .at ((.inr (y2))))
 (.no))))
 (.no))
 (.bi (pl (G_u60q (IntKind.i64.wrap (x0+1)) x1 x2)) (fun y1=>
 .bi (qoT x0 y1.f.1 y1.f.2) (fun y2=>
 .bi (pj 0
 (qdy G_u79q G_u60q G_u90q G_u49q G_u81q
 (Sum.inl (x0,y2.1,y2.2.1,y2.2.2,0,0,[],y1.1,y1.2.1,y1.2.2.1,y1.2.2.2.1)))) (fun y3=>
 .at ((.inl ((sl y3).2.1,0,[],[AV.agg
 [.int .i64 (sl y3).f.2.2.2.1,.int .i64 (sl y3).h.1,
 AV.str (sl y3).h.2.1,AV.view 4 (sl y3).h.2.2],
 AV.agg
 [.int .i64 (gv (pl (G_u60q (IntKind.i64.wrap ((sl y3).1+1)) (sl y3).2.2.1 (sl y3).2.2.2.1))).1,
 .int .i64 (gv (pl (G_u60q (IntKind.i64.wrap ((sl y3).1+1)) (sl y3).2.2.1 (sl y3).2.2.2.1))).2.1,
 AV.str (gv (pl (G_u60q (IntKind.i64.wrap ((sl y3).1+1)) (sl y3).2.2.1 (sl y3).2.2.2.1))).2.2.1,
 AV.view 4 (gv (pl (G_u60q (IntKind.i64.wrap ((sl y3).1+1)) (sl y3).2.2.1 (sl y3).2.2.2.1))).2.2.2.1]],(gv (pl (G_u60q (IntKind.i64.wrap ((sl y3).1+1)) (sl y3).2.2.1 (sl y3).2.2.2.1))).f.1,(gv (pl (G_u60q (IntKind.i64.wrap ((sl y3).1+1)) (sl y3).2.2.1 (sl y3).2.2.2.1))).f.2))))
 (.bi (pj 1
 (qdy G_u79q G_u60q G_u90q G_u49q G_u81q
 (Sum.inl (x0,y2.1,y2.2.1,y2.2.2,0,0,[],y1.1,y1.2.1,y1.2.2.1,y1.2.2.2.1)))) (fun y3=>
 .at ((.inr ((gv (pr (G_u60q (IntKind.i64.wrap ((sl y3).1+1)) (sl y3).2.2.1 (sl y3).2.2.2.1))).1,(gv (pr (G_u60q (IntKind.i64.wrap ((sl y3).1+1)) (sl y3).2.2.1 (sl y3).2.2.2.1))).2.1,(gv (pr (G_u60q (IntKind.i64.wrap ((sl y3).1+1)) (sl y3).2.2.1 (sl y3).2.2.2.1))).2.2))))
 (.bi (pj 2
 (qdy G_u79q G_u60q G_u90q G_u49q G_u81q
 (Sum.inl (x0,y2.1,y2.2.1,y2.2.2,0,0,[],y1.1,y1.2.1,y1.2.2.1,y1.2.2.2.1)))) (fun y3=>
 .at ((.inl ((sl y3).f.2.2.2.1,(sl y3).h.1,(sl y3).h.2.1,(sl y3).h.2.2,(sl y3).2.2.1,(sl y3).2.2.2.1))))
 (.bi (pj 3
 (qdy G_u79q G_u60q G_u90q G_u49q G_u81q
 (Sum.inl (x0,y2.1,y2.2.1,y2.2.2,0,0,[],y1.1,y1.2.1,y1.2.2.1,y1.2.2.2.1)))) (fun y3=>
 .at ((.inl ((sr y3).2.1,0,[],[AV.agg
 [.int .i64 (sr y3).f.2.2.2.1,.int .i64 (sr y3).h.1,
 AV.str (sr y3).h.2.1,AV.view 4 (sr y3).h.2.2],
 AV.agg
 [.int .i64 (gv (pl (G_u60q (IntKind.i64.wrap ((sr y3).1+1)) (sr y3).2.2.1 (sr y3).2.2.2.1))).1,
 .int .i64 (gv (pl (G_u60q (IntKind.i64.wrap ((sr y3).1+1)) (sr y3).2.2.1 (sr y3).2.2.2.1))).2.1,
 AV.str (gv (pl (G_u60q (IntKind.i64.wrap ((sr y3).1+1)) (sr y3).2.2.1 (sr y3).2.2.2.1))).2.2.1,
 AV.view 4 (gv (pl (G_u60q (IntKind.i64.wrap ((sr y3).1+1)) (sr y3).2.2.1 (sr y3).2.2.2.1))).2.2.2.1]],(gv (pl (G_u60q (IntKind.i64.wrap ((sr y3).1+1)) (sr y3).2.2.1 (sr y3).2.2.2.1))).f.1,(gv (pl (G_u60q (IntKind.i64.wrap ((sr y3).1+1)) (sr y3).2.2.1 (sr y3).2.2.2.1))).f.2))))
 (.bi (pj 4
 (qdy G_u79q G_u60q G_u90q G_u49q G_u81q
 (Sum.inl (x0,y2.1,y2.2.1,y2.2.2,0,0,[],y1.1,y1.2.1,y1.2.2.1,y1.2.2.2.1)))) (fun y3=>
 .at ((.inr ((gv (pr (G_u60q (IntKind.i64.wrap ((sr y3).1+1)) (sr y3).2.2.1 (sr y3).2.2.2.1))).1,(gv (pr (G_u60q (IntKind.i64.wrap ((sr y3).1+1)) (sr y3).2.2.1 (sr y3).2.2.2.1))).2.1,(gv (pr (G_u60q (IntKind.i64.wrap ((sr y3).1+1)) (sr y3).2.2.1 (sr y3).2.2.2.1))).2.2))))
 (.bi (pj 5
 (qdy G_u79q G_u60q G_u90q G_u49q G_u81q
 (Sum.inl (x0,y2.1,y2.2.1,y2.2.2,0,0,[],y1.1,y1.2.1,y1.2.2.1,y1.2.2.2.1)))) (fun y3=>
 .at ((.inl ((sr y3).f.2.2.2.1,(sr y3).h.1,(sr y3).h.2.1,(sr y3).h.2.2,(sr y3).2.2.1,(sr y3).2.2.2.1))))
 (.no)))))))
 (.no))
 (.bi (pr (G_u60q (IntKind.i64.wrap (x0+1)) x1 x2)) (fun y1=>
 .at ((.inr (y1))))
 (.no)))))
 (.no)
def qAx(G_u79q:qbD)(G_u60q:qbC)(G_u90q:qbF)(G_u49q:qbB)(G_u81q:qbE)(x0:List AV)(x1:Int):DT qPY:=
 .bi (qcS [45] x0 x1) (fun y0=>
 .br (y0.1)
 (.bi (pl (G_u90q y0.2.1 y0.2.2)) (fun y1=>
 .at ((.inl (9,0,[],[AV.agg [.int .i64 y1.1,.int .i64 y1.2.1,AV.str y1.2.2.1,AV.view 4 y1.2.2.2.1]],y1.f))))
 (.bi (pr (G_u90q y0.2.1 y0.2.2)) (fun y1=>
 .at ((.inr (y1))))
 (.no)))
 (.bi (pl (G_u49q y0.2.1 y0.2.2)) (fun y1=>
 .at ((.inl (y1))))
 (.bi (pr (G_u49q y0.2.1 y0.2.2)) (fun y1=>
 .at ((.inr (y1))))
 (.no))))
 (.no)
def qAb(G_u79q:qbD)(G_u60q:qbC)(G_u90q:qbF)(G_u49q:qbB)(G_u81q:qbE)(x0:List AV)(x1:Int):DT qG1:=
 .bi (qcS [36] x0 x1) (fun y0=>
 .br (y0.1)
 (.bi (pl (qdG y0.2.1 y0.2.2)) (fun y1=>
 .at ((.inl (2,y1.1,[],[],y1.2))))
 (.bi (pr (qdG y0.2.1 y0.2.2)) (fun y1=>
 .at ((.inr (y1))))
 (.no)))
 (.bi (qcS [109,105,110] y0.2.1 y0.2.2) (fun y1=>
 .br (y1.1)
 (.bi (pl (G_u81q 17 y1.2.1 y1.2.2)) (fun y2=>
 .at ((.inr (y2))))
 (.bi (pr (G_u81q 17 y1.2.1 y1.2.2)) (fun y2=>
 .at ((.inl (y2))))
 (.no)))
 (.bi (qcS [109,97,120] y1.2.1 y1.2.2) (fun y2=>
 .br (y2.1)
 (.bi (pl (G_u81q 18 y2.2.1 y2.2.2)) (fun y3=>
 .at ((.inr (y3))))
 (.bi (pr (G_u81q 18 y2.2.1 y2.2.2)) (fun y3=>
 .at ((.inl (y3))))
 (.no)))
 (.bi (qcS [40] y2.2.1 y2.2.2) (fun y3=>
 .br (y3.1)
 (.bi (pl (G_u79q y3.2.1 y3.2.2)) (fun y4=>
 .bi (pl (qdH [41] y4.f.1 y4.f.2)) (fun y5=>
 .at ((.inr (y5))))
 (.bi (pr (qdH [41] y4.f.1 y4.f.2)) (fun y5=>
 .at ((.inl (y4.1,y4.2.1,y4.2.2.1,y4.2.2.2.1,y5))))
 (.no)))
 (.bi (pr (G_u79q y3.2.1 y3.2.2)) (fun y4=>
 .at ((.inr (y4))))
 (.no)))
 (.br (decide (y3.2.2<(y3.2.1.length:Int)))
 (.br (qaG [.int .i64,.int .i64,.str] y3.2.1 y3.2.2)
 (.br (intOf (cellAt y3.2.1 y3.2.2 0)==1)
 (.br (qaG [.int .i64,.int .i64,.str] y3.2.1 (IntKind.i64.wrap (IntKind.i64.wrap (y3.2.2+1)-1)))
 (.at ((.inl (4,0,strOf (cellAt y3.2.1 (IntKind.i64.wrap (IntKind.i64.wrap (y3.2.2+1)-1)) 2),[],y3.2.1,IntKind.i64.wrap (y3.2.2+1)))))
 (.no))
 (.br (decide (y3.2.2<(y3.2.1.length:Int)))
 (.br (qaG [.int .i64,.int .i64,.str] y3.2.1 y3.2.2)
 (.br (intOf (cellAt y3.2.1 y3.2.2 0)==3)
 (.br (qaG [.int .i64,.int .i64,.str] y3.2.1 y3.2.2)
 (.bi (qjl (strOf (cellAt y3.2.1 y3.2.2 2))) (fun y4=>
 .br (y4.2 != 0)
 (.bi (qhm y3.2.1 y3.2.2) (fun y5=>
 .at ((.inr (y5))))
 (.no))
 (.at ((.inl (3,y4.1,[],[],y3.2.1,IntKind.i64.wrap (y3.2.2+1))))))
 (.no))
 (.no))
 (.bi (pl (qdG y3.2.1 y3.2.2)) (fun y4=>
 .at ((.inl (1,y4.1,[],[],y4.2))))
 (.bi (pr (qdG y3.2.1 y3.2.2)) (fun y4=>
 .at ((.inr (y4))))
 (.no))))
 (.no))
 (.bi (pl (qdG y3.2.1 y3.2.2)) (fun y4=>
 .at ((.inl (1,y4.1,[],[],y4.2))))
 (.bi (pr (qdG y3.2.1 y3.2.2)) (fun y4=>
 .at ((.inr (y4))))
 (.no)))))
 (.no))
 (.br (decide (y3.2.2<(y3.2.1.length:Int)))
 (.br (qaG [.int .i64,.int .i64,.str] y3.2.1 y3.2.2)
 (.br (intOf (cellAt y3.2.1 y3.2.2 0)==3)
 (.br (qaG [.int .i64,.int .i64,.str] y3.2.1 y3.2.2)
 (.bi (qjl (strOf (cellAt y3.2.1 y3.2.2 2))) (fun y4=>
 .br (y4.2 != 0)
 (.bi (qhm y3.2.1 y3.2.2) (fun y5=>
 .at ((.inr (y5))))
 (.no))
 (.at ((.inl (3,y4.1,[],[],y3.2.1,IntKind.i64.wrap (y3.2.2+1))))))
 (.no))
 (.no))
 (.bi (pl (qdG y3.2.1 y3.2.2)) (fun y4=>
 .at ((.inl (1,y4.1,[],[],y4.2))))
 (.bi (pr (qdG y3.2.1 y3.2.2)) (fun y4=>
 .at ((.inr (y4))))
 (.no))))
 (.no))
 (.bi (pl (qdG y3.2.1 y3.2.2)) (fun y4=>
 .at ((.inl (1,y4.1,[],[],y4.2))))
 (.bi (pr (qdG y3.2.1 y3.2.2)) (fun y4=>
 .at ((.inr (y4))))
 (.no))))))
 (.no)))
 (.no)))
 (.no)))
 (.no)
def qAs(G_u79q:qbD)(G_u60q:qbC)(G_u90q:qbF)(G_u49q:qbB)(G_u81q:qbE)(x0:Int)(x1:List AV)(x2:Int):DT qPW:=
 .bi (pl (qdH [40] x1 x2)) (fun y0=>
 .at ((.inl (y0))))
 (.bi (pr (qdH [40] x1 x2)) (fun y0=>
 .bi (pl (G_u79q y0.1 y0.2)) (fun y1=>
 .bi (pl (qdH [44] y1.f.1 y1.f.2)) (fun y2=>
 .at ((.inl (y2))))
 (.bi (pr (qdH [44] y1.f.1 y1.f.2)) (fun y2=>
 .bi (pl (G_u79q y2.1 y2.2)) (fun y3=>
 .bi (pl (qdH [41] y3.f.1 y3.f.2)) (fun y4=>
 .at ((.inl (y4))))
 (.bi (pr (qdH [41] y3.f.1 y3.f.2)) (fun y4=>
 .at ((.inr (x0,0,[],[AV.agg [.int .i64 y1.1,.int .i64 y1.2.1,AV.str y1.2.2.1,AV.view 4 y1.2.2.2.1],
 AV.agg [.int .i64 y3.1,.int .i64 y3.2.1,AV.str y3.2.2.1,AV.view 4 y3.2.2.2.1]],y4))))
 (.no)))
 (.bi (pr (G_u79q y2.1 y2.2)) (fun y3=>
 .at ((.inl (y3))))
 (.no)))
 (.no)))
 (.bi (pr (G_u79q y0.1 y0.2)) (fun y1=>
 .at ((.inl (y1))))
 (.no)))
 (.no))
def qaj:Nat->qbD×qbC×qbF×qbB×qbE
 |0=>(fun _ _=>none,fun _ _ _=>none,fun _ _=>none,fun _ _=>none,fun _ _ _=>none)
 |n+1=>(fun x0 x1=>(qAq ((qaj n).1) ((qaj n).2.1) ((qaj n).2.2.1) ((qaj n).2.2.2.1) ((qaj n).f) x0 x1).ev,fun x0 x1 x2=>(qhd ((qaj n).1) ((qaj n).2.1) ((qaj n).2.2.1) ((qaj n).2.2.2.1) ((qaj n).f) x0 x1 x2).ev,fun x0 x1=>(qAx ((qaj n).1) ((qaj n).2.1) ((qaj n).2.2.1) ((qaj n).2.2.2.1) ((qaj n).f) x0 x1).ev,fun x0 x1=>(qAb ((qaj n).1) ((qaj n).2.1) ((qaj n).2.2.1) ((qaj n).2.2.2.1) ((qaj n).f) x0 x1).ev,fun x0 x1 x2=>(qAs ((qaj n).1) ((qaj n).2.1) ((qaj n).2.2.1) ((qaj n).2.2.2.1) ((qaj n).f) x0 x1 x2).ev)
def qSV(x0:List AV)(x1:Int):Option qPV:=qi4 fun n=>(qaj n).1 x0 x1
theorem qhg:∀n,qDo ((qaj n).1) ((qaj n).2.1) ((qaj n).2.2.1) ((qaj n).2.2.2.1) ((qaj n).f)
 |0=>⟨(fun v y h=>nomatch h),(fun v y h=>nomatch h),(fun v y h=>nomatch h),(fun v y h=>nomatch h),(fun v y h=>nomatch h)⟩
 |n+1=>have hG:=qhg n
 ⟨qag (F:=zmA) (L:=[]) (t:=(k2 (qAq ((qaj n).1) ((qaj n).2.1) ((qaj n).2.2.1) ((qaj n).2.2.2.1) ((qaj n).f)))) (qfA ((qaj n).1) ((qaj n).2.1) ((qaj n).2.2.1) ((qaj n).2.2.2.1) ((qaj n).f) hG) (qac (l:=[]) (by kernel_rfl) trivial) (by kernel_rfl) (fun v=>by kernel_rfl) (fun v=>rfl),qag (F:=zaj) (L:=[(1024200,qUi ((qaj n).1) ((qaj n).2.1) ((qaj n).2.2.1) ((qaj n).2.2.2.1) ((qaj n).f))]) (t:=(k3 (qhd ((qaj n).1) ((qaj n).2.1) ((qaj n).2.2.1) ((qaj n).2.2.2.1) ((qaj n).f)))) (qfA ((qaj n).1) ((qaj n).2.1) ((qaj n).2.2.1) ((qaj n).2.2.2.1) ((qaj n).f) hG) (qac (l:=[qad zaj 0]) (by kernel_rfl) ⟨qar (by kernel_rfl) (zkO ((qaj n).1) ((qaj n).2.1) ((qaj n).2.2.1) ((qaj n).2.2.2.1) ((qaj n).f) hG),trivial⟩) (by kernel_rfl) (fun v=>by kernel_rfl) (fun v=>rfl),qag (F:=zmL) (L:=[]) (t:=(k2 (qAx ((qaj n).1) ((qaj n).2.1) ((qaj n).2.2.1) ((qaj n).2.2.2.1) ((qaj n).f)))) (qfA ((qaj n).1) ((qaj n).2.1) ((qaj n).2.2.1) ((qaj n).2.2.2.1) ((qaj n).f) hG) (qac (l:=[]) (by kernel_rfl) trivial) (by kernel_rfl) (fun v=>by kernel_rfl) (fun v=>rfl),qag (F:=zmO) (L:=[]) (t:=(k2 (qAb ((qaj n).1) ((qaj n).2.1) ((qaj n).2.2.1) ((qaj n).2.2.2.1) ((qaj n).f)))) (qfA ((qaj n).1) ((qaj n).2.1) ((qaj n).2.2.1) ((qaj n).2.2.2.1) ((qaj n).f) hG) (qac (l:=[]) (by kernel_rfl) trivial) (by kernel_rfl) (fun v=>by kernel_rfl) (fun v=>rfl),qag (F:=zmQ) (L:=[]) (t:=(k3 (qAs ((qaj n).1) ((qaj n).2.1) ((qaj n).2.2.1) ((qaj n).2.2.2.1) ((qaj n).f)))) (qfA ((qaj n).1) ((qaj n).2.1) ((qaj n).2.2.1) ((qaj n).2.2.2.1) ((qaj n).f) hG) (qac (l:=[]) (by kernel_rfl) trivial) (by kernel_rfl) (fun v=>by kernel_rfl) (fun v=>rfl)⟩
theorem q7l:FH IP 209 qB5 qCj (k2 qSV):=qbH (p:=qB5) (rs:=qCj) (s:=fun n=>(k2 ((qaj n).1))) fun n=>(qhg n).1
end
end Go.Proofs.H16

/- Functions over plain data. Printed by a program of mine. -/
import Derived.Test.YtjhhnkemeegahaaGreatDoorD16_1
set_option linter.all false
namespace Go.Proofs.H16
open Go Go.Eng
set_option maxRecDepth 100000
noncomputable section
abbrev qC2:Type:=List UInt8×List UInt8×List UInt8×Int×Int×Int×Int×List AV×Bool×Int×Int×Bool×List AV×Bool×Int×Int×Bool×List AV×List AV×Int×Int
def qpK(x0:List UInt8):DT qC2:=
 .bi (qjf x0) (fun y0=>
 .br (y0.2.2 != 0)
 (.at (([],[],[],0,0,0,0,[],false,0,0,false,[],false,0,0,false,[],[],y0.2)))
 (.br (decide (y0.1.length*32<=lim))
 (.bi (qA8 y0.1 0 0 0) (fun y1=>
 .br (y1.i.f.2.1 != 0)
 (.at (([],[],[],0,0,0,0,[],false,0,0,false,[],false,0,0,false,[],[],y1.i.f.2.2,y1.i.f.2.1)))
 (.at ((y1.1,y1.2.1,y1.2.2.1,y1.2.2.2.1,y1.f.1,y1.f.2.1,y1.f.2.2.1,y1.f.2.2.2.1,y1.h.1,y1.h.2.1,y1.h.2.2.1,y1.h.2.2.2.1,y1.h.f.1,y1.h.f.2.1,y1.h.f.2.2.1,y1.h.f.2.2.2.1,y1.i.1,y1.i.2.1,y1.i.2.2.1,0,0))))
 (.no))
 (.no)))
 (.no)
def qje(x0:List UInt8):=qaC (qpK x0).ev
theorem qK8(x0):qje x0=(qpK x0).ev:=qaa _
theorem zaT:FH IP 11 ⟨[.str],[]⟩ [⟨false,.tup [.agg [.str,.str,.str,.int .i64,.int .i64,.int .i64,.int .i64,.view 2,.bool,.int .i64,.int .i64,.bool,.view 2,.bool,.int .i64,.int .i64,.bool,.view 10,.view 6],.int .i64,.int .i64],[]⟩] qje:=fh F11 qpK T53
def T54:=T53.a zaT
abbrev qDe:Type:=Int
def qtw:PArgs:=⟨[.agg [.int .i64,.int .i64,.str,.view 4]],[]⟩
def qtS:List PRes:=[⟨false,.int .i64,[]⟩]
abbrev qdk:Type:=Int->Int->(List UInt8)->(List AV)->Option qDe
def qxc(G_u225q:qdk):Prop:=FH IP 113 qtw qtS (k4 G_u225q)
def q2s(G_u225q:qdk):Tab:=(113,FE qtw qtS (k4 G_u225q))::T54.t
theorem qrk(G_u225q:qdk)(hG:qxc G_u225q):qan IP (q2s G_u225q):=⟨qam (hG),T54.ok⟩
abbrev qeU:Type:=Int×List AV×Int×Int
def qH1:List PSt:=[⟨[(1011300,.junk),(3,.int .i64),(7,.view 4),(8,.int .i64),(9,.int .i64)],[],0,0⟩]
def q06(x0:Int)(x1:List AV)(x2 x3:Int):X×St:=(.exit 0,⟨[(3,.int .i64 x0)],[],0,0⟩)
def zfP:List (qeU->X×St):=[(k4 q06)]
def qof(G_u225q:qdk)(x0:Int)(x1:List AV)(x2 x3:Int):DT (Rd qeU):=
 .br (decide (x3<x2))
 (.br (qaG [.int .i64,.int .i64,.str,.slice 4] x1 x3)
 (.bi (G_u225q (intOf (cellAt x1 x3 0)) (intOf (cellAt x1 x3 1)) (strOf (cellAt x1 x3 2)) (qap (cellAt x1 x3 3))) (fun y0=>
 .at (.next ((IntKind.i64.wrap (x0+y0),x1,x2,IntKind.i64.wrap (x3+1)))))
 (.no))
 (.no))
 (.at (.done 0))
def qmJ(G_u225q:qdk):qeU->DT (Rd qeU):=(fun v=>qof G_u225q v.1 v.2.1 v.2.2.1 v.2.2.2)
def qyh(G_u225q:qdk)(v:qeU):Option (Nat×qeU):=qaC (qae (fun v=>(qmJ G_u225q v).ev) v)
theorem qv3(G_u225q v):qyh G_u225q v=qae (fun v=>(qmJ G_u225q v).ev) v:=qaa _
def qJe(G_u225q:qdk):qbJ:=LE (τ:=qeU) (hD qH1) (qyh G_u225q) zfP
theorem zeL(G_u225q:qdk)(hG:qxc G_u225q):Go.Eng.Told IP (qad q92 0).1 (qad q92 0).2 (qJe G_u225q):=qas (inferInstance:Inhabited qeU) (hs:=qH1) (st:=qmJ G_u225q) (L:=[]) (qrk G_u225q hG) (qac (l:=[]) (by kernel_rfl) trivial) (qv3 G_u225q) (fun v=>by kernel_rfl) (fun v=>by kernel_rfl)
def qzG(G_u225q:qdk)(x0 x1:Int)(x2:List UInt8)(x3:List AV):DT qDe:=
 .bi (pj 0 (qyh G_u225q (1,x3,(x3.length:Int),0))) (fun y0=>
 .at (y0.1))
 (.no)
def qgP:Nat->qdk
 |0=>fun _ _ _ _=>none
 |n+1=>fun x0 x1 x2 x3=>(qzG ((qgP n)) x0 x1 x2 x3).ev
def qxR(x0 x1:Int)(x2:List UInt8)(x3:List AV):Option qDe:=qi4 fun n=>(qgP n) x0 x1 x2 x3
theorem qvg:∀n,qxc ((qgP n))
 |0=>(fun v y h=>nomatch h)
 |n+1=>have hG:=qvg n
 qag (F:=q92) (L:=[(1011300,qJe ((qgP n)))]) (t:=(k4 (qzG ((qgP n))))) (qrk ((qgP n)) hG) (qac (l:=[qad q92 0]) (by kernel_rfl) ⟨qar (by kernel_rfl) (zeL ((qgP n)) hG),trivial⟩) (by kernel_rfl) (fun v=>by kernel_rfl) (fun v=>rfl)
theorem zbX:FH IP 113 qtw qtS (k4 qxR):=qbH (p:=qtw) (rs:=qtS) (s:=fun n=>(k4 ((qgP n)))) fun n=>(qvg n)
def T61:=T54.a zbX
abbrev qDf:Type:=Int
def qtx:PArgs:=⟨[.agg [.int .i64,.int .i64,.str,.view 4]],[]⟩
def qtT:List PRes:=[⟨false,.int .i64,[]⟩]
abbrev qdl:Type:=Int->Int->(List UInt8)->(List AV)->Option qDf
def qxd(G_u226q:qdl):Prop:=FH IP 114 qtx qtT (k4 G_u226q)
def q2t(G_u226q:qdl):Tab:=(114,FE qtx qtT (k4 G_u226q))::T61.t
theorem qrl(G_u226q:qdl)(hG:qxd G_u226q):qan IP (q2t G_u226q):=⟨qam (hG),T61.ok⟩
abbrev qeV:Type:=Int×List AV×Int×Int
def qH2:List PSt:=[⟨[(1011400,.junk),(3,.int .i64),(7,.view 4),(8,.int .i64),(9,.int .i64)],[],0,0⟩]
def q07(x0:Int)(x1:List AV)(x2 x3:Int):X×St:=(.exit 0,⟨[(3,.int .i64 x0)],[],0,0⟩)
def zfQ:List (qeV->X×St):=[(k4 q07)]
def qog(G_u226q:qdl)(x0:Int)(x1:List AV)(x2 x3:Int):DT (Rd qeV):=
 .br (decide (x3<x2))
 (.br (qaG [.int .i64,.int .i64,.str,.slice 4] x1 x3)
 (.bi (G_u226q (intOf (cellAt x1 x3 0)) (intOf (cellAt x1 x3 1)) (strOf (cellAt x1 x3 2)) (qap (cellAt x1 x3 3))) (fun y0=>
 .at (.next ((if y0>x0 then y0 else x0,x1,x2,IntKind.i64.wrap (x3+1)))))
 (.no))
 (.no))
 (.at (.done 0))
def qmK(G_u226q:qdl):qeV->DT (Rd qeV):=(fun v=>qog G_u226q v.1 v.2.1 v.2.2.1 v.2.2.2)
def qyi(G_u226q:qdl)(v:qeV):Option (Nat×qeV):=qaC (qae (fun v=>(qmK G_u226q v).ev) v)
theorem qv4(G_u226q v):qyi G_u226q v=qae (fun v=>(qmK G_u226q v).ev) v:=qaa _
def qJf(G_u226q:qdl):qbJ:=LE (τ:=qeV) (hD qH2) (qyi G_u226q) zfQ
theorem zeM(G_u226q:qdl)(hG:qxd G_u226q):Go.Eng.Told IP (qad q93 0).1 (qad q93 0).2 (qJf G_u226q):=qas (inferInstance:Inhabited qeV) (hs:=qH2) (st:=qmK G_u226q) (L:=[]) (qrl G_u226q hG) (qac (l:=[]) (by kernel_rfl) trivial) (qv4 G_u226q) (fun v=>by kernel_rfl) (fun v=>by kernel_rfl)
def qzH(G_u226q:qdl)(x0 x1:Int)(x2:List UInt8)(x3:List AV):DT qDf:=
 .bi (pj 0 (qyi G_u226q (0,x3,(x3.length:Int),0))) (fun y0=>
 .at (IntKind.i64.wrap (y0.1+1)))
 (.no)
def qgQ:Nat->qdl
 |0=>fun _ _ _ _=>none
 |n+1=>fun x0 x1 x2 x3=>(qzH ((qgQ n)) x0 x1 x2 x3).ev
def qsa(x0 x1:Int)(x2:List UInt8)(x3:List AV):Option qDf:=qi4 fun n=>(qgQ n) x0 x1 x2 x3
theorem qvh:∀n,qxd ((qgQ n))
 |0=>(fun v y h=>nomatch h)
 |n+1=>have hG:=qvh n
 qag (F:=q93) (L:=[(1011400,qJf ((qgQ n)))]) (t:=(k4 (qzH ((qgQ n))))) (qrl ((qgQ n)) hG) (qac (l:=[qad q93 0]) (by kernel_rfl) ⟨qar (by kernel_rfl) (zeM ((qgQ n)) hG),trivial⟩) (by kernel_rfl) (fun v=>by kernel_rfl) (fun v=>rfl)
theorem zbY:FH IP 114 qtx qtT (k4 qsa):=qbH (p:=qtx) (rs:=qtT) (s:=fun n=>(k4 ((qgQ n)))) fun n=>(qvh n)
def T62:=T61.a zbY
def qpS(x0:Int):DT Int:=
 .br (x0==1)
 (.br (x0==1)
 (.at (0))
 (.br (x0==9)
 (.br (x0==9)
 (.at (1))
 (.br (x0==19)
 (.at (3))
 (.bi (br (decide (x0>=5)) (some (decide (x0<=18))) (some false)) (fun y0=>
 .br (y0) (.at (2)) (.at (-1)))
 (.no))))
 (.br (x0==16)
 (.at (1))
 (.br (x0==19)
 (.at (3))
 (.bi (br (decide (x0>=5)) (some (decide (x0<=18))) (some false)) (fun y0=>
 .br (y0) (.at (2)) (.at (-1)))
 (.no))))))
 (.br (x0==2)
 (.br (x0==2)
 (.at (0))
 (.br (x0==9)
 (.br (x0==9)
 (.at (1))
 (.br (x0==19)
 (.at (3))
 (.bi (br (decide (x0>=5)) (some (decide (x0<=18))) (some false)) (fun y0=>
 .br (y0) (.at (2)) (.at (-1)))
 (.no))))
 (.br (x0==16)
 (.at (1))
 (.br (x0==19)
 (.at (3))
 (.bi (br (decide (x0>=5)) (some (decide (x0<=18))) (some false)) (fun y0=>
 .br (y0) (.at (2)) (.at (-1)))
 (.no))))))
 (.br (x0==3)
 (.br (x0==3)
 (.at (0))
 (.br (x0==9)
 (.br (x0==9)
 (.at (1))
 (.br (x0==19)
 (.at (3))
 (.bi (br (decide (x0>=5)) (some (decide (x0<=18))) (some false)) (fun y0=>
 .br (y0) (.at (2)) (.at (-1)))
 (.no))))
 (.br (x0==16)
 (.at (1))
 (.br (x0==19)
 (.at (3))
 (.bi (br (decide (x0>=5)) (some (decide (x0<=18))) (some false)) (fun y0=>
 .br (y0) (.at (2)) (.at (-1)))
 (.no))))))
 (.br (x0==4)
 (.at (0))
 (.br (x0==9)
 (.br (x0==9)
 (.at (1))
 (.br (x0==19)
 (.at (3))
 (.bi (br (decide (x0>=5)) (some (decide (x0<=18))) (some false)) (fun y0=>
 .br (y0) (.at (2)) (.at (-1)))
 (.no))))
 (.br (x0==16)
 (.at (1))
 (.br (x0==19)
 (.at (3))
 (.bi (br (decide (x0>=5)) (some (decide (x0<=18))) (some false)) (fun y0=>
 .br (y0) (.at (2)) (.at (-1)))
 (.no))))))))
def qjg(x0:Int):=qaC (qpS x0).ev
theorem qLf(x0):qjg x0=(qpS x0).ev:=qaa _
theorem za1:FH IP 174 ⟨[.int .i64],[]⟩ [⟨false,.int .i64,[]⟩] qjg:=fh zmp qpS T62
def T63:=T62.a za1
def qqj(x0 x1:Int)(x2:List UInt8)(x3:List AV):DT Bool:=
 .br (x0==1)
 (.bi (qjg x0) (fun y0=>
 .br (y0==(x3.length:Int))
 (.br (decide (x1>=0))
 (.br (decide (x1<=9223372036854775807))
 (.br (x2== []) (.at (true)) (.at (x0==4)))
 (.at (false)))
 (.at (false)))
 (.at (false)))
 (.no))
 (.br (x0==2)
 (.bi (qjg x0) (fun y0=>
 .br (y0==(x3.length:Int))
 (.br (decide (x1>=0))
 (.br (decide (x1<=1000000000000))
 (.br (x2== []) (.at (true)) (.at (x0==4)))
 (.at (false)))
 (.at (false)))
 (.at (false)))
 (.no))
 (.br (x0==3)
 (.bi (qjg x0) (fun y0=>
 .br (y0==(x3.length:Int))
 (.br (decide (x1>=0))
 (.br (decide (x1<=1000000))
 (.br (x2== []) (.at (true)) (.at (x0==4)))
 (.at (false)))
 (.at (false)))
 (.at (false)))
 (.no))
 (.bi (qjg x0) (fun y0=>
 .br (y0==(x3.length:Int))
 (.br (decide (x1>=0))
 (.br (decide (x1<=0))
 (.br (x2== []) (.at (true)) (.at (x0==4)))
 (.at (false)))
 (.at (false)))
 (.at (false)))
 (.no))))
def qrU(x0 x1:Int)(x2:List UInt8)(x3:List AV):=qaC (qqj x0 x1 x2 x3).ev
theorem qLJ(x0 x1 x2 x3):qrU x0 x1 x2 x3=(qqj x0 x1 x2 x3).ev:=qaa _
theorem zbB:FH IP 116 ⟨[.agg [.int .i64,.int .i64,.str,.view 4]],[]⟩ [⟨false,.bool,[]⟩] (k4 qrU):=fh zl3 (k4 qqj) T63
def T64:=T63.a zbB
abbrev qDg:Type:=Bool
def qty:PArgs:=⟨[.agg [.int .i64,.int .i64,.str,.view 4],.fn (.func 116) []],[]⟩
def qtU:List PRes:=[⟨false,.bool,[]⟩]
abbrev qcn:Type:=Int->Int->(List UInt8)->(List AV)->Option qDg
abbrev q9W:Type:=Bool
def qV6:PArgs:=⟨[.view 4,.fn (.func 173) [.ptr [.fn (.func 116) []]]],[]⟩
def qYo:List PRes:=[⟨false,.bool,[]⟩]
abbrev qgv:Type:=(List AV)->Option q9W
abbrev q9Z:Type:=Int
def qXe:PArgs:=⟨[.view 4,.fn (.func 173) [.ptr [.fn (.func 116) []]]],[]⟩
def qZw:List PRes:=[⟨false,.int .i64,[]⟩]
abbrev qgx:Type:=(List AV)->Option q9Z
abbrev qC9:Type:=Bool
def qtr:PArgs:=⟨[.agg [.int .i64,.int .i64,.str,.view 4],.ptr [.fn (.func 116) []]],[]⟩
def qtN:List PRes:=[⟨false,.bool,[]⟩]
abbrev qcl:Type:=Int->Int->(List UInt8)->(List AV)->Option qC9
def qxe(G_u227q:qcn)(G_u1q:qgv)(G_u5q:qgx)(G_u151q:qcl):Prop:=FH IP 115 qty qtU (k4 G_u227q)/\FH IP 172 qV6 qYo G_u1q/\FH IP 217 qXe qZw G_u5q/\FH IP 173 qtr qtN (k4 G_u151q)
def q2u(G_u227q:qcn)(G_u1q:qgv)(G_u5q:qgx)(G_u151q:qcl):Tab:=(115,FE qty qtU (k4 G_u227q))::(172,FE qV6 qYo G_u1q)::(217,FE qXe qZw G_u5q)::(173,FE qtr qtN (k4 G_u151q))::T64.t
theorem qfG(G_u227q:qcn)(G_u1q:qgv)(G_u5q:qgx)(G_u151q:qcl)(hG:qxe G_u227q G_u1q G_u5q G_u151q):qan IP (q2u G_u227q G_u1q G_u5q G_u151q):=⟨qam (hG.1),qam (hG.2.1),qam (hG.2.2.1),qam (hG.2.2.2),T64.ok⟩
abbrev ql7:Type:=List AV×Int×Int
def q7H:List PSt:=[⟨[(1021700,.junk),(0,.view 4),(1,.fn (.func 173) [.ptr [.fn (.func 116) []]]),(7,.int .i64),(8,.int .i64)],[],0,0⟩]
def zgs(x0:List AV)(x1 x2:Int):X×St:=(.ret,⟨[(4,.int .i64 x2)],[],0,0⟩)
def zgt(x0:List AV)(x1 x2:Int):X×St:=(.exit 0,⟨[(4,.junk)],[],0,0⟩)
def zqO:List (ql7->X×St):=[(k3 zgs),(k3 zgt)]
def qzi(G_u227q:qcn)(G_u1q:qgv)(G_u5q:qgx)(G_u151q:qcl)(x0:List AV)(x1 x2:Int):DT (Rd ql7):=
 .br (decide (x2<x1))
 (.br (qaG [.int .i64,.int .i64,.str,.slice 4] x0 x2)
 (.bi (G_u151q (intOf (cellAt x0 x2 0)) (intOf (cellAt x0 x2 1)) (strOf (cellAt x0 x2 2)) (qap (cellAt x0 x2 3))) (fun y0=>
 .br (y0) (.at (.done 0)) (.at (.next ((x0,x1,IntKind.i64.wrap (x2+1))))))
 (.no))
 (.no))
 (.at (.done 1))
def qCz(G_u227q:qcn)(G_u1q:qgv)(G_u5q:qgx)(G_u151q:qcl):ql7->DT (Rd ql7):=(fun v=>qzi G_u227q G_u1q G_u5q G_u151q v.1 v.2.1 v.2.2)
def qTQ(G_u227q:qcn)(G_u1q:qgv)(G_u5q:qgx)(G_u151q:qcl)(v:ql7):Option (Nat×ql7):=qaC (qae (fun v=>(qCz G_u227q G_u1q G_u5q G_u151q v).ev) v)
theorem qIK(G_u227q G_u1q G_u5q G_u151q v):qTQ G_u227q G_u1q G_u5q G_u151q v=qae (fun v=>(qCz G_u227q G_u1q G_u5q G_u151q v).ev) v:=qaa _
def q7U(G_u227q:qcn)(G_u1q:qgv)(G_u5q:qgx)(G_u151q:qcl):qbJ:=LE (τ:=ql7) (hD q7H) (qTQ G_u227q G_u1q G_u5q G_u151q) zqO
theorem zqB(G_u227q:qcn)(G_u1q:qgv)(G_u5q:qgx)(G_u151q:qcl)(hG:qxe G_u227q G_u1q G_u5q G_u151q):Go.Eng.Told IP (qad qP1 0).1 (qad qP1 0).2 (q7U G_u227q G_u1q G_u5q G_u151q):=qas (inferInstance:Inhabited ql7) (hs:=q7H) (st:=qCz G_u227q G_u1q G_u5q G_u151q) (L:=[]) (qfG G_u227q G_u1q G_u5q G_u151q hG) (qac (l:=[]) (by kernel_rfl) trivial) (qIK G_u227q G_u1q G_u5q G_u151q) (fun v=>by kernel_rfl) (fun v=>by kernel_rfl)
def qzI(G_u227q:qcn)(G_u1q:qgv)(G_u5q:qgx)(G_u151q:qcl)(x0 x1:Int)(x2:List UInt8)(x3:List AV):DT qDg:=
 .bi (qrU x0 x1 x2 x3) (fun y0=>
 .bi (br y0 (br (sm (G_u1q x3)) (some !gv (G_u1q x3)) none) (some false)) (fun y1=>
 .at (y1))
 (.no))
 (.no)
def q0i(G_u227q:qcn)(G_u1q:qgv)(G_u5q:qgx)(G_u151q:qcl)(x0:List AV):DT q9W:=
 .bi (G_u5q x0) (fun y0=>
 .at (decide (y0>=0)))
 (.no)
def q0k(G_u227q:qcn)(G_u1q:qgv)(G_u5q:qgx)(G_u151q:qcl)(x0:List AV):DT q9Z:=
 .bi (pj 0
 (qTQ G_u227q G_u1q G_u5q G_u151q (x0,(x0.length:Int),0))) (fun y0=>
 .at (y0.2.2))
 (.bi (pj 1
 (qTQ G_u227q G_u1q G_u5q G_u151q (x0,(x0.length:Int),0))) (fun y0=>
 .at (-1))
 (.no))
def qzA(G_u227q:qcn)(G_u1q:qgv)(G_u5q:qgx)(G_u151q:qcl)(x0 x1:Int)(x2:List UInt8)(x3:List AV):DT qC9:=
 .bi (G_u227q x0 x1 x2 x3) (fun y0=>
 .at (!y0))
 (.no)
def qav:Nat->qcn×qgv×qgx×qcl
 |0=>(fun _ _ _ _=>none,fun _=>none,fun _=>none,fun _ _ _ _=>none)
 |n+1=>(fun x0 x1 x2 x3=>(qzI ((qav n).1) ((qav n).2.1) ((qav n).2.2.1) ((qav n).2.2.2) x0 x1 x2 x3).ev,fun x0=>(q0i ((qav n).1) ((qav n).2.1) ((qav n).2.2.1) ((qav n).2.2.2) x0).ev,fun x0=>(q0k ((qav n).1) ((qav n).2.1) ((qav n).2.2.1) ((qav n).2.2.2) x0).ev,fun x0 x1 x2 x3=>(qzA ((qav n).1) ((qav n).2.1) ((qav n).2.2.1) ((qav n).2.2.2) x0 x1 x2 x3).ev)
def qxS(x0 x1:Int)(x2:List UInt8)(x3:List AV):Option qDg:=qi4 fun n=>(qav n).1 x0 x1 x2 x3
def zi3(x0:List AV):Option q9W:=qi4 fun n=>(qav n).2.1 x0
def zjf(x0:List AV):Option q9Z:=qi4 fun n=>(qav n).2.2.1 x0
def qSo(x0 x1:Int)(x2:List UInt8)(x3:List AV):Option qC9:=qi4 fun n=>(qav n).2.2.2 x0 x1 x2 x3
theorem qhf:∀n,qxe ((qav n).1) ((qav n).2.1) ((qav n).2.2.1) ((qav n).2.2.2)
 |0=>⟨(fun v y h=>nomatch h),(fun v y h=>nomatch h),(fun v y h=>nomatch h),(fun v y h=>nomatch h)⟩
 |n+1=>have hG:=qhf n
 ⟨qag (F:=zhf) (L:=[]) (t:=(k4 (qzI ((qav n).1) ((qav n).2.1) ((qav n).2.2.1) ((qav n).2.2.2)))) (qfG ((qav n).1) ((qav n).2.1) ((qav n).2.2.1) ((qav n).2.2.2) hG) (qac (l:=[]) (by kernel_rfl) trivial) (by kernel_rfl) (fun v=>by kernel_rfl) (fun v=>rfl),qag (F:=zhh) (L:=[]) (t:=(q0i ((qav n).1) ((qav n).2.1) ((qav n).2.2.1) ((qav n).2.2.2))) (qfG ((qav n).1) ((qav n).2.1) ((qav n).2.2.1) ((qav n).2.2.2) hG) (qac (l:=[]) (by kernel_rfl) trivial) (by kernel_rfl) (fun v=>by kernel_rfl) (fun v=>rfl),qag (F:=qP1) (L:=[(1021700,q7U ((qav n).1) ((qav n).2.1) ((qav n).2.2.1) ((qav n).2.2.2))]) (t:=(q0k ((qav n).1) ((qav n).2.1) ((qav n).2.2.1) ((qav n).2.2.2))) (qfG ((qav n).1) ((qav n).2.1) ((qav n).2.2.1) ((qav n).2.2.2) hG) (qac (l:=[qad qP1 0]) (by kernel_rfl) ⟨qar (by kernel_rfl) (zqB ((qav n).1) ((qav n).2.1) ((qav n).2.2.1) ((qav n).2.2.2) hG),trivial⟩) (by kernel_rfl) (fun v=>by kernel_rfl) (fun v=>rfl),qag (F:=zhi) (L:=[]) (t:=(k4 (qzA ((qav n).1) ((qav n).2.1) ((qav n).2.2.1) ((qav n).2.2.2)))) (qfG ((qav n).1) ((qav n).2.1) ((qav n).2.2.1) ((qav n).2.2.2) hG) (qac (l:=[]) (by kernel_rfl) trivial) (by kernel_rfl) (fun v=>by kernel_rfl) (fun v=>rfl)⟩
theorem zbZ:FH IP 115 qty qtU (k4 qxS):=qbH (p:=qty) (rs:=qtU) (s:=fun n=>(k4 ((qav n).1))) fun n=>(qhf n).1
theorem znP:FH IP 172 qV6 qYo zi3:=qbH (p:=qV6) (rs:=qYo) (s:=fun n=>((qav n).2.1)) fun n=>(qhf n).2.1
theorem znR:FH IP 217 qXe qZw zjf:=qbH (p:=qXe) (rs:=qZw) (s:=fun n=>((qav n).2.2.1)) fun n=>(qhf n).2.2.1
theorem zbj:FH IP 173 qtr qtN (k4 qSo):=qbH (p:=qtr) (rs:=qtN) (s:=fun n=>(k4 ((qav n).2.2.2))) fun n=>(qhf n).2.2.2
def T65:=T64.a zbZ
def T66:=T65.a znP
def T67:=T66.a znR
def T68:=T67.a zbj
def qpT(x0:List UInt8):DT Bool:=
 .bi (qjf x0) (fun y0=>
 .bi (br (y0.2.2==0) (some ((y0.1.length:Int)==1)) (some false)) (fun y1=>
 .bi (br y1 (br (qaG [.int .i64,.int .i64,.str] y0.1 0) (some (intOf (cellAt y0.1 0 0)==1)) none) (some false)) (fun y2=>
 .bi (br y2 (br (qaG [.int .i64,.int .i64,.str] y0.1 0) (some (strOf (cellAt y0.1 0 2)==x0)) none) (some false)) (fun y3=>
 .at (y3))
 (.no))
 (.no))
 (.no))
 (.no)
def qnn(x0:List UInt8):=qaC (qpT x0).ev
theorem qLg(x0):qnn x0=(qpT x0).ev:=qaa _
theorem za2:FH IP 175 ⟨[.str],[]⟩ [⟨false,.bool,[]⟩] qnn:=fh zmq qpT T68
def T69:=T68.a za2
def qqA(x0 x1:Int)(x2:List UInt8)(x3:List AV):DT Bool:=
 .bi (br (x0 != 4) (some true) (br (sm (qnn x2)) (some (gv (qnn x2))) none)) (fun y0=>
 .at (y0))
 (.no)
def qsb(x0 x1:Int)(x2:List UInt8)(x3:List AV):=qaC (qqA x0 x1 x2 x3).ev
theorem qL0(x0 x1 x2 x3):qsb x0 x1 x2 x3=(qqA x0 x1 x2 x3).ev:=qaa _
theorem zb0:FH IP 117 ⟨[.agg [.int .i64,.int .i64,.str,.view 4]],[]⟩ [⟨false,.bool,[]⟩] (k4 qsb):=fh zl4 (k4 qqA) T69
def T70:=T69.a zb0
abbrev qDc:Type:=Bool
def qtu:PArgs:=⟨[.agg [.int .i64,.int .i64,.str,.view 4],.fn (.func 117) []],[]⟩
def qtQ:List PRes:=[⟨false,.bool,[]⟩]
abbrev qcm:Type:=Int->Int->(List UInt8)->(List AV)->Option qDc
abbrev q9V:Type:=Bool
def qVg:PArgs:=⟨[.view 4,.fn (.func 173) [.ptr [.fn (.func 117) []]]],[]⟩
def qXy:List PRes:=[⟨false,.bool,[]⟩]
abbrev qgu:Type:=(List AV)->Option q9V
abbrev q9Y:Type:=Int
def qXd:PArgs:=⟨[.view 4,.fn (.func 173) [.ptr [.fn (.func 117) []]]],[]⟩
def qZv:List PRes:=[⟨false,.int .i64,[]⟩]
abbrev qgw:Type:=(List AV)->Option q9Y
abbrev qC5:Type:=Bool
def qtq:PArgs:=⟨[.agg [.int .i64,.int .i64,.str,.view 4],.ptr [.fn (.func 117) []]],[]⟩
def qtM:List PRes:=[⟨false,.bool,[]⟩]
abbrev qck:Type:=Int->Int->(List UInt8)->(List AV)->Option qC5
def qxb(G_u185q:qcm)(G_u0q:qgu)(G_u4q:qgw)(G_u124q:qck):Prop:=FH IP 115 qtu qtQ (k4 G_u185q)/\FH IP 172 qVg qXy G_u0q/\FH IP 217 qXd qZv G_u4q/\FH IP 173 qtq qtM (k4 G_u124q)
def q2r(G_u185q:qcm)(G_u0q:qgu)(G_u4q:qgw)(G_u124q:qck):Tab:=(115,FE qtu qtQ (k4 G_u185q))::(172,FE qVg qXy G_u0q)::(217,FE qXd qZv G_u4q)::(173,FE qtq qtM (k4 G_u124q))::T70.t
theorem qfF(G_u185q:qcm)(G_u0q:qgu)(G_u4q:qgw)(G_u124q:qck)(hG:qxb G_u185q G_u0q G_u4q G_u124q):qan IP (q2r G_u185q G_u0q G_u4q G_u124q):=⟨qam (hG.1),qam (hG.2.1),qam (hG.2.2.1),qam (hG.2.2.2),T70.ok⟩
abbrev ql6:Type:=List AV×Int×Int
def q7G:List PSt:=[⟨[(1021700,.junk),(0,.view 4),(1,.fn (.func 173) [.ptr [.fn (.func 117) []]]),(7,.int .i64),(8,.int .i64)],[],0,0⟩]
def zgq(x0:List AV)(x1 x2:Int):X×St:=(.ret,⟨[(4,.int .i64 x2)],[],0,0⟩)
def zgr(x0:List AV)(x1 x2:Int):X×St:=(.exit 0,⟨[(4,.junk)],[],0,0⟩)
def zqN:List (ql6->X×St):=[(k3 zgq),(k3 zgr)]
def qzh(G_u185q:qcm)(G_u0q:qgu)(G_u4q:qgw)(G_u124q:qck)(x0:List AV)(x1 x2:Int):DT (Rd ql6):=
 .br (decide (x2<x1))
 (.br (qaG [.int .i64,.int .i64,.str,.slice 4] x0 x2)
 (.bi (G_u124q (intOf (cellAt x0 x2 0)) (intOf (cellAt x0 x2 1)) (strOf (cellAt x0 x2 2)) (qap (cellAt x0 x2 3))) (fun y0=>
 .br (y0) (.at (.done 0)) (.at (.next ((x0,x1,IntKind.i64.wrap (x2+1))))))
 (.no))
 (.no))
 (.at (.done 1))
def qCy(G_u185q:qcm)(G_u0q:qgu)(G_u4q:qgw)(G_u124q:qck):ql6->DT (Rd ql6):=(fun v=>qzh G_u185q G_u0q G_u4q G_u124q v.1 v.2.1 v.2.2)
def qTO(G_u185q:qcm)(G_u0q:qgu)(G_u4q:qgw)(G_u124q:qck)(v:ql6):Option (Nat×ql6):=qaC (qae (fun v=>(qCy G_u185q G_u0q G_u4q G_u124q v).ev) v)
theorem qIJ(G_u185q G_u0q G_u4q G_u124q v):qTO G_u185q G_u0q G_u4q G_u124q v=qae (fun v=>(qCy G_u185q G_u0q G_u4q G_u124q v).ev) v:=qaa _
def q7T(G_u185q:qcm)(G_u0q:qgu)(G_u4q:qgw)(G_u124q:qck):qbJ:=LE (τ:=ql6) (hD q7G) (qTO G_u185q G_u0q G_u4q G_u124q) zqN
theorem zqA(G_u185q:qcm)(G_u0q:qgu)(G_u4q:qgw)(G_u124q:qck)(hG:qxb G_u185q G_u0q G_u4q G_u124q):Go.Eng.Told IP (qad qP1 0).1 (qad qP1 0).2 (q7T G_u185q G_u0q G_u4q G_u124q):=qas (inferInstance:Inhabited ql6) (hs:=q7G) (st:=qCy G_u185q G_u0q G_u4q G_u124q) (L:=[]) (qfF G_u185q G_u0q G_u4q G_u124q hG) (qac (l:=[]) (by kernel_rfl) trivial) (qIJ G_u185q G_u0q G_u4q G_u124q) (fun v=>by kernel_rfl) (fun v=>by kernel_rfl)
def qzB(G_u185q:qcm)(G_u0q:qgu)(G_u4q:qgw)(G_u124q:qck)(x0 x1:Int)(x2:List UInt8)(x3:List AV):DT qDc:=
 .bi (qsb x0 x1 x2 x3) (fun y0=>
 .bi (br y0 (br (sm (G_u0q x3)) (some !gv (G_u0q x3)) none) (some false)) (fun y1=>
 .at (y1))
 (.no))
 (.no)
def q0h(G_u185q:qcm)(G_u0q:qgu)(G_u4q:qgw)(G_u124q:qck)(x0:List AV):DT q9V:=
 .bi (G_u4q x0) (fun y0=>
 .at (decide (y0>=0)))
 (.no)
def q0j(G_u185q:qcm)(G_u0q:qgu)(G_u4q:qgw)(G_u124q:qck)(x0:List AV):DT q9Y:=
 .bi (pj 0
 (qTO G_u185q G_u0q G_u4q G_u124q
 (x0,(x0.length:Int),0))) (fun y0=>
 .at (y0.2.2))
 (.bi (pj 1
 (qTO G_u185q G_u0q G_u4q G_u124q
 (x0,(x0.length:Int),0))) (fun y0=>
 .at (-1))
 (.no))
def qzt(G_u185q:qcm)(G_u0q:qgu)(G_u4q:qgw)(G_u124q:qck)(x0 x1:Int)(x2:List UInt8)(x3:List AV):DT qC5:=
 .bi (G_u185q x0 x1 x2 x3) (fun y0=>
 .at (!y0))
 (.no)
end
end Go.Proofs.H16
namespace Go.Proofs.H16
open Go Go.Eng
set_option maxRecDepth 100000
noncomputable section
def qau:Nat->qcm×qgu×qgw×qck
 |0=>(fun _ _ _ _=>none,fun _=>none,fun _=>none,fun _ _ _ _=>none)
 |n+1=>(fun x0 x1 x2 x3=>(qzB ((qau n).1) ((qau n).2.1) ((qau n).2.2.1) ((qau n).2.2.2) x0 x1 x2 x3).ev,fun x0=>(q0h ((qau n).1) ((qau n).2.1) ((qau n).2.2.1) ((qau n).2.2.2) x0).ev,fun x0=>(q0j ((qau n).1) ((qau n).2.1) ((qau n).2.2.1) ((qau n).2.2.2) x0).ev,fun x0 x1 x2 x3=>(qzt ((qau n).1) ((qau n).2.1) ((qau n).2.2.1) ((qau n).2.2.2) x0 x1 x2 x3).ev)
def qxO(x0 x1:Int)(x2:List UInt8)(x3:List AV):Option qDc:=qi4 fun n=>(qau n).1 x0 x1 x2 x3
def zi1(x0:List AV):Option q9V:=qi4 fun n=>(qau n).2.1 x0
def zjd(x0:List AV):Option q9Y:=qi4 fun n=>(qau n).2.2.1 x0
def qSl(x0 x1:Int)(x2:List UInt8)(x3:List AV):Option qC5:=qi4 fun n=>(qau n).2.2.2 x0 x1 x2 x3
theorem qhe:∀n,qxb ((qau n).1) ((qau n).2.1) ((qau n).2.2.1) ((qau n).2.2.2)
 |0=>⟨(fun v y h=>nomatch h),(fun v y h=>nomatch h),(fun v y h=>nomatch h),(fun v y h=>nomatch h)⟩
 |n+1=>have hG:=qhe n
 ⟨qag (F:=zhf) (L:=[]) (t:=(k4 (qzB ((qau n).1) ((qau n).2.1) ((qau n).2.2.1) ((qau n).2.2.2)))) (qfF ((qau n).1) ((qau n).2.1) ((qau n).2.2.1) ((qau n).2.2.2) hG) (qac (l:=[]) (by kernel_rfl) trivial) (by kernel_rfl) (fun v=>by kernel_rfl) (fun v=>rfl),qag (F:=zhh) (L:=[]) (t:=(q0h ((qau n).1) ((qau n).2.1) ((qau n).2.2.1) ((qau n).2.2.2))) (qfF ((qau n).1) ((qau n).2.1) ((qau n).2.2.1) ((qau n).2.2.2) hG) (qac (l:=[]) (by kernel_rfl) trivial) (by kernel_rfl) (fun v=>by kernel_rfl) (fun v=>rfl),qag (F:=qP1) (L:=[(1021700,q7T ((qau n).1) ((qau n).2.1) ((qau n).2.2.1) ((qau n).2.2.2))]) (t:=(q0j ((qau n).1) ((qau n).2.1) ((qau n).2.2.1) ((qau n).2.2.2))) (qfF ((qau n).1) ((qau n).2.1) ((qau n).2.2.1) ((qau n).2.2.2) hG) (qac (l:=[qad qP1 0]) (by kernel_rfl) ⟨qar (by kernel_rfl) (zqA ((qau n).1) ((qau n).2.1) ((qau n).2.2.1) ((qau n).2.2.2) hG),trivial⟩) (by kernel_rfl) (fun v=>by kernel_rfl) (fun v=>rfl),qag (F:=zhi) (L:=[]) (t:=(k4 (qzt ((qau n).1) ((qau n).2.1) ((qau n).2.2.1) ((qau n).2.2.2)))) (qfF ((qau n).1) ((qau n).2.1) ((qau n).2.2.1) ((qau n).2.2.2) hG) (qac (l:=[]) (by kernel_rfl) trivial) (by kernel_rfl) (fun v=>by kernel_rfl) (fun v=>rfl)⟩
theorem zbA:FH IP 115 qtu qtQ (k4 qxO):=qbH (p:=qtu) (rs:=qtQ) (s:=fun n=>(k4 ((qau n).1))) fun n=>(qhe n).1
theorem znO:FH IP 172 qVg qXy zi1:=qbH (p:=qVg) (rs:=qXy) (s:=fun n=>((qau n).2.1)) fun n=>(qhe n).2.1
theorem znQ:FH IP 217 qXd qZv zjd:=qbH (p:=qXd) (rs:=qZv) (s:=fun n=>((qau n).2.2.1)) fun n=>(qhe n).2.2.1
theorem za0:FH IP 173 qtq qtM (k4 qSl):=qbH (p:=qtq) (rs:=qtM) (s:=fun n=>(k4 ((qau n).2.2.2))) fun n=>(qhe n).2.2.2
def T71:=T70.a zbA
def T72:=T71.a znO
def T73:=T72.a znQ
def T74:=T73.a za0
def qpR(x0 x1:Int)(x2:List UInt8)(x3:List AV):DT Int:=
 .bi (qxR x0 x1 x2 x3) (fun y0=>
 .bi (br (decide (y0>64)) (some true) (br (sm (qsa x0 x1 x2 x3)) (some (decide (gv (qsa x0 x1 x2 x3)>8))) none)) (fun y1=>
 .br (y1)
 (.at (5))
 (.bi (qxS x0 x1 x2 x3) (fun y2=>
 .br (!y2)
 (.at (1))
 (.bi (qxO x0 x1 x2 x3) (fun y3=>
 .br (!y3) (.at (4)) (.at (0)))
 (.no)))
 (.no)))
 (.no))
 (.no)
def qie(x0 x1:Int)(x2:List UInt8)(x3:List AV):=qaC (qpR x0 x1 x2 x3).ev
theorem qLe(x0 x1 x2 x3):qie x0 x1 x2 x3=(qpR x0 x1 x2 x3).ev:=qaa _
theorem qRE:FH IP 56 ⟨[.agg [.int .i64,.int .i64,.str,.view 4]],[]⟩ [⟨false,.int .i64,[]⟩] (k4 qie):=fh F56 (k4 qpR) T74
def T75:=T74.a qRE
def qqk:DT (List AV):=
 .at ([AV.view 2 [AV.agg [AV.str [111,114],.int .i64 15]],AV.view 2 [AV.agg [AV.str [97,110,100],.int .i64 14]],
 AV.view 2
 [AV.agg [AV.str [61,61],.int .i64 10],AV.agg [AV.str [33,61],.int .i64 11],AV.agg [AV.str [60],.int .i64 12],
 AV.agg [AV.str [60,61],.int .i64 13]],
 AV.view 2 [AV.agg [AV.str [43],.int .i64 5],AV.agg [AV.str [45],.int .i64 6]],
 AV.view 2 [AV.agg [AV.str [42],.int .i64 7],AV.agg [AV.str [47],.int .i64 8]]])
def qls:=qaC (qqk).ev
theorem qLK:qls=(qqk).ev:=qaa _
theorem zbC:FH IP 225 ⟨[],[]⟩ [⟨false,.view 1,[]⟩] (fun _=>qls):=fh zmB (fun _=>qqk) T75
def T91:=T75.a zbC
abbrev q9X:Type:=Bool
def qbZ:Option q9X:=qT7 IP 8
theorem zct:FH IP 8 ⟨[],[]⟩ [⟨false,.bool,[]⟩] (fun _=>qbZ):=fun _ _ hv=>q3s hv
def zqU:=T91.a zct
def qm6:DT (List AV):=
 .at ([AV.str [112,114,111,100,117,99,116],AV.str [99,117,114,114,101,110,99,121],AV.str [99,97,108,101,110,100,97,114],AV.str [102,114,111,109],
 AV.str [101,118,101,114,121],AV.str [111,118,101,114,100,114,97,102,116],AV.str [116,97,120],AV.str [99,114,101,100,105,116],
 AV.str [100,101,98,105,116],AV.str [109,97,114,103,105,110,97,108],AV.str [119,104,111,108,101],AV.str [97,99,116,51,54,48],
 AV.str [97,99,116,51,54,53],AV.str [97,99,116,117,97,108],AV.str [116,104,105,114,116,121],AV.str [100,111,119,110],AV.str [117,112],
 AV.str [102,108,111,111,114],AV.str [99,101,105,108],AV.str [104,97,108,102,95,117,112],AV.str [104,97,108,102,95,101,118,101,110],
 AV.str [107,101,101,112],AV.str [100,114,111,112],AV.str [102,101,101],AV.str [108,105,109,105,116],AV.str [119,104,101,110],
 AV.str [97,109,111,117,110,116,95,111,102],AV.str [115,105,110,103,108,101],AV.str [100,97,105,108,121],AV.str [109,111,110,116,104,108,121],
 AV.str [109,111,110,116,104],AV.str [114,101,116,117,114,110],AV.str [99,108,111,115,101],AV.str [101,118,101,110,116],AV.str [105,102],
 AV.str [116,104,101,110],AV.str [101,108,115,101],AV.str [97,110,100],AV.str [111,114],AV.str [110,111,116],AV.str [109,105,110],AV.str [109,97,120]])
def qnw:=qaC (qm6).ev
theorem qvG:qnw=(qm6).ev:=qaa _
theorem zb6:FH IP 135 ⟨[],[]⟩ [⟨false,.view 1,[]⟩] (fun _=>qnw):=fh zmb (fun _=>qm6) zqU
def zqV:=zqU.a zb6
abbrev qfi:Type:=List UInt8×List AV×Int
def qIs:List PSt:=[⟨[(1007600,.junk),(0,.str),(3,.view 1),(4,.int .i64)],[],0,0⟩]
def q1T(x0:List UInt8)(x1:List AV)(x2:Int):X×St:=(.ret,⟨[(2,.bool true)],[],0,0⟩)
def q1U(x0:List UInt8)(x1:List AV)(x2:Int):X×St:=(.exit 0,⟨[(2,.junk)],[],0,0⟩)
def zgg:List (qfi->X×St):=[(k3 q1T),(k3 q1U)]
def qhN(x0:List UInt8)(x1:List AV)(x2:Int):DT (Rd qfi):=
 .br (decide (x2<(x1.length:Int)))
 (.br (qaG [.str] x1 x2)
 (.br (strOf (cellAt x1 x2 0)==x0) (.at (.done 0)) (.at (.next ((x0,x1,IntKind.i64.wrap (x2+1))))))
 (.no))
 (.at (.done 1))
def qiD:qfi->DT (Rd qfi):=(fun v=>qhN v.1 v.2.1 v.2.2)
def qnP(v:qfi):=lo qiD v
theorem qnQ(v):qnP v=qae (fun v=>(qiD v).ev) v:=qaa _
def qJE:qbJ:=LE (τ:=qfi) (hD qIs) (qnP) zgg
theorem zfb:TL IP F76 0 qJE:=lp (ih qfi) (hs:=qIs) qiD zqV qnQ
def qm7(x0:List UInt8):DT Bool:=
 .bi (qnw) (fun y0=>
 .bi (pj 0 (qnP (x0,y0,0))) (fun y1=>
 .at (true))
 (.bi (pj 1 (qnP (x0,y0,0))) (fun y1=>
 .at (false))
 (.no)))
 (.no)
def qg4(x0:List UInt8):=qaC (qm7 x0).ev
theorem qvH(x0):qg4 x0=(qm7 x0).ev:=qaa _
theorem zcz:FH IP 76 ⟨[.str],[]⟩ [⟨false,.bool,[]⟩] qg4:=f1 F76 1007600 zfb qm7 zqV
def zqW:=zqV.a zcz
abbrev qfc:Type:=List UInt8×Int
def qIm:List PSt:=[⟨[(1013100,.junk),(0,.str),(3,.int .i64)],[],0,0⟩]
def q1I(x0:List UInt8)(x1:Int):X×St:=(.ret,⟨[(2,.bool false)],[],0,0⟩)
def q1J(x0:List UInt8)(x1:Int):X×St:=(.exit 0,⟨[(2,.junk)],[],0,0⟩)
def zga:List (qfc->X×St):=[(k2 q1I),(k2 q1J)]
def qor(x0:List UInt8)(x1:Int):DT (Rd qfc):=
 .br (decide (x1<(x0.length:Int)))
 (.br (inB x0.length x1)
 (.bi (br (decide (qal x0 x1<97)) (some true) (br (inB x0.length x1) (some (decide (qal x0 x1>122))) none)) (fun y0=>
 .bi (br y0 (br (inB x0.length x1) (br (decide (qal x0 x1<48)) (some true) (br (inB x0.length x1) (some (decide (qal x0 x1>57))) none)) none) (some false)) (fun y1=>
 .bi (br y1 (br (inB x0.length x1) (some (qal x0 x1 != 95)) none) (some false)) (fun y2=>
 .br (y2) (.at (.done 0)) (.at (.next ((x0,IntKind.i64.wrap (x1+1))))))
 (.no))
 (.no))
 (.no))
 (.no))
 (.at (.done 1))
def qmR:qfc->DT (Rd qfc):=(fun v=>qor v.1 v.2)
def qs1(v:qfc):=lo qmR v
theorem qwf(v):qs1 v=qae (fun v=>(qmR v).ev) v:=qaa _
def qJy:qbJ:=LE (τ:=qfc) (hD qIm) (qs1) zga
theorem ze5:TL IP q94 0 qJy:=lp (ih qfc) (hs:=qIm) qmR zqW qwf
def qqU(x0:List UInt8):DT Bool:=
 .bi (br (decide ((x0.length:Int)<1)) (some true) (some (decide ((x0.length:Int)>16)))) (fun y0=>
 .bi (br y0 (some true) (br (inB x0.length 0) (some (decide (qal x0 0<97))) none)) (fun y1=>
 .bi (br y1 (some true) (br (inB x0.length 0) (some (decide (qal x0 0>122))) none)) (fun y2=>
 .br (y2)
 (.at (false))
 (.bi (pj 0 (qs1 (x0,0))) (fun y3=>
 .at (false))
 (.bi (pj 1 (qs1 (x0,0))) (fun y3=>
 .at (true))
 (.no))))
 (.no))
 (.no))
 (.no)
def qsm(x0:List UInt8):=qaC (qqU x0).ev
theorem qMk(x0):qsm x0=(qqU x0).ev:=qaa _
theorem zcw:FH IP 131 ⟨[.str],[]⟩ [⟨false,.bool,[]⟩] qsm:=f1 q94 1013100 ze5 qqU zqW
def zqY:=zqW.a zcw
def qp2(x0:List UInt8):DT Bool:=
 .bi (qsm x0) (fun y0=>
 .bi (br y0 (br (sm (qg4 x0)) (some !gv (qg4 x0)) none) (some false)) (fun y1=>
 .at (y1))
 (.no))
 (.no)
def qfO(x0:List UInt8):=qaC (qp2 x0).ev
theorem qLq(x0):qfO x0=(qp2 x0).ev:=qaa _
theorem zbd:FH IP 72 ⟨[.str],[]⟩ [⟨false,.bool,[]⟩] qfO:=fh F72 qp2 zqY
def zqZ:=zqY.a zbd
def qqO:DT (List AV):=
 .at ([AV.str [97,99,116,51,54,48],AV.str [97,99,116,51,54,53],AV.str [97,99,116,117,97,108],AV.str [116,104,105,114,116,121]])
def qg2:=qaC (qqO).ev
theorem qMe:qg2=(qqO).ev:=qaa _
theorem zcn:FH IP 82 ⟨[],[]⟩ [⟨false,.view 1,[]⟩] (fun _=>qg2):=fh F82 (fun _=>qqO) zqZ
def zq1:=zqZ.a zcn
def qqP:DT (List AV):=
 .at ([AV.str [100,111,119,110],AV.str [117,112],AV.str [102,108,111,111,114],AV.str [99,101,105,108],AV.str [104,97,108,102,95,117,112],
 AV.str [104,97,108,102,95,101,118,101,110]])
def qg3:=qaC (qqP).ev
theorem qMf:qg3=(qqP).ev:=qaa _
theorem zco:FH IP 83 ⟨[],[]⟩ [⟨false,.view 1,[]⟩] (fun _=>qg3):=fh F83 (fun _=>qqP) zq1
def zq2:=zq1.a zco
def qqv:DT (List AV):=
 .at ([AV.str [109,111,110,116,104],AV.str [100,101,98,105,116],AV.str [114,101,116,117,114,110],AV.str [99,108,111,115,101]])
def qjj:=qaC (qqv).ev
theorem qLV:qjj=(qqv).ev:=qaa _
theorem zbP:FH IP 35 ⟨[],[]⟩ [⟨false,.view 1,[]⟩] (fun _=>qjj):=fh F35 (fun _=>qqv) zq2
def znr:=zq2.a zbP
abbrev qDh:Type:=Int
def qtz:PArgs:=⟨[.agg [.int .i64,.int .i64,.str,.view 4]],[]⟩
def qtV:List PRes:=[⟨false,.int .i64,[]⟩]
abbrev qdm:Type:=Int->Int->(List UInt8)->(List AV)->Option qDh
def qxf(G_u242q:qdm):Prop:=FH IP 132 qtz qtV (k4 G_u242q)
def q2v(G_u242q:qdm):Tab:=(132,FE qtz qtV (k4 G_u242q))::znr.t
theorem qrm(G_u242q:qdm)(hG:qxf G_u242q):qan IP (q2v G_u242q):=⟨qam (hG),znr.ok⟩
abbrev qe1:Type:=Int×Int×Int×Int×List UInt8×List AV
def qH8:List PSt:=[⟨[(1013200,.junk),(1,.ref 0 0 0),(3,.int .i64),(4,.int .i64)],[(0,.box [.int .i64,.int .i64,.str,.view 4] false)],1,0⟩]
def q1e(x0 x1:Int)(x2 x3:Int)(x4:List UInt8)(x5:List AV):X×St:=(.exit 0,⟨[(3,.int .i64 x0)],[],0,0⟩)
def zfW:List (qe1->X×St):=[(k6 q1e)]
def qok(G_u242q:qdm)(x0 x1:Int)(x2 x3:Int)(x4:List UInt8)(x5:List AV):DT (Rd qe1):=
 .br (decide (x1<(x5.length:Int)))
 (.br (qaG [.int .i64,.int .i64,.str,.slice 4] x5 x1)
 (.bi (G_u242q (intOf (cellAt x5 x1 0)) (intOf (cellAt x5 x1 1)) (strOf (cellAt x5 x1 2)) (qap (cellAt x5 x1 3))) (fun y0=>
 .at (.next ((if y0>x0 then y0 else x0,IntKind.i64.wrap (x1+1),x2,x3,x4,x5))))
 (.no))
 (.no))
 (.at (.done 0))
def qmN(G_u242q:qdm):qe1->DT (Rd qe1):=(fun v=>qok G_u242q v.1 v.2.1 v.2.2.1 v.2.2.2.1 v.f.1 v.f.2)
def qyl(G_u242q:qdm)(v:qe1):Option (Nat×qe1):=qaC (qae (fun v=>(qmN G_u242q v).ev) v)
theorem qwa(G_u242q v):qyl G_u242q v=qae (fun v=>(qmN G_u242q v).ev) v:=qaa _
def qJl(G_u242q:qdm):qbJ:=LE (τ:=qe1) (hD qH8) (qyl G_u242q) zfW
theorem zeS(G_u242q:qdm)(hG:qxf G_u242q):Go.Eng.Told IP (qad q95 0).1 (qad q95 0).2 (qJl G_u242q):=qas (inferInstance:Inhabited qe1) (hs:=qH8) (st:=qmN G_u242q) (L:=[]) (qrm G_u242q hG) (qac (l:=[]) (by kernel_rfl) trivial) (qwa G_u242q) (fun v=>by kernel_rfl) (fun v=>by kernel_rfl)
def qzK(G_u242q:qdm)(x0 x1:Int)(x2:List UInt8)(x3:List AV):DT qDh:=
 .bi (pj 0 (qyl G_u242q (0,0,x0,x1,x2,x3))) (fun y0=>
 .at (IntKind.i64.wrap (y0.1+1)))
 (.no)
def qgR:Nat->qdm
 |0=>fun _ _ _ _=>none
 |n+1=>fun x0 x1 x2 x3=>(qzK ((qgR n)) x0 x1 x2 x3).ev
def qse(x0 x1:Int)(x2:List UInt8)(x3:List AV):Option qDh:=qi4 fun n=>(qgR n) x0 x1 x2 x3
theorem qvi:∀n,qxf ((qgR n))
 |0=>(fun v y h=>nomatch h)
 |n+1=>have hG:=qvi n
 qag (F:=q95) (L:=[(1013200,qJl ((qgR n)))]) (t:=(k4 (qzK ((qgR n))))) (qrm ((qgR n)) hG) (qac (l:=[qad q95 0]) (by kernel_rfl) ⟨qar (by kernel_rfl) (zeS ((qgR n)) hG),trivial⟩) (by kernel_rfl) (fun v=>by kernel_rfl) (fun v=>rfl)
theorem zca:FH IP 132 qtz qtV (k4 qse):=qbH (p:=qtz) (rs:=qtV) (s:=fun n=>(k4 ((qgR n)))) fun n=>(qvi n)
def zq4:=znr.a zca
def qp0(x0:Int):DT Int:=
 .bi (br (decide (x0<1)) (some true) (some (decide (x0>19)))) (fun y0=>
 .br (y0)
 (.at (-1))
 (.br (decide (x0<=4))
 (.at (0))
 (.bi (br (x0==9) (some true) (some (x0==16))) (fun y1=>
 .br (y1)
 (.at (1))
 (.br (x0==19) (.at (3)) (.at (2))))
 (.no))))
 (.no)
def qrL(x0:Int):=qaC (qp0 x0).ev
theorem qLo(x0):qrL x0=(qp0 x0).ev:=qaa _
theorem zbb:FH IP 192 ⟨[.int .i64],[]⟩ [⟨false,.int .i64,[]⟩] qrL:=fh zmu qp0 zq4
def zq5:=zq4.a zbb
def qq1(x0:Int):DT Int:=
 .br (x0==1)
 (.at (9223372036854775807))
 (.br (x0==2)
 (.at (1000000000000))
 (.br (x0==3) (.at (1000000)) (.at (0))))
def qsr(x0:Int):=qaC (qq1 x0).ev
theorem qMq(x0):qsr x0=(qq1 x0).ev:=qaa _
theorem zcG:FH IP 193 ⟨[.int .i64],[]⟩ [⟨false,.int .i64,[]⟩] qsr:=fh zmv qq1 zq5
def zns:=zq5.a zcG
abbrev qDj:Type:=Bool
def qtD:PArgs:=⟨[.agg [.int .i64,.int .i64,.str,.view 4]],[]⟩
def qtZ:List PRes:=[⟨false,.bool,[]⟩]
abbrev qdo:Type:=Int->Int->(List UInt8)->(List AV)->Option qDj
def qxi(G_u248q:qdo):Prop:=FH IP 133 qtD qtZ (k4 G_u248q)
def q2z(G_u248q:qdo):Tab:=(133,FE qtD qtZ (k4 G_u248q))::zns.t
theorem qrp(G_u248q:qdo)(hG:qxi G_u248q):qan IP (q2z G_u248q):=⟨qam (hG),zns.ok⟩
abbrev qe3:Type:=Int×Int×Int×List UInt8×List AV
def qId:List PSt:=[⟨[(1013300,.junk),(1,.ref 0 0 0),(3,.int .i64)],[(0,.box [.int .i64,.int .i64,.str,.view 4] false)],1,0⟩]
def q1s(x0 x1 x2:Int)(x3:List UInt8)(x4:List AV):X×St:=(.ret,⟨[(2,.bool false)],[],0,0⟩)
def q1t(x0 x1 x2:Int)(x3:List UInt8)(x4:List AV):X×St:=(.exit 0,⟨[(2,.junk)],[],0,0⟩)
def zf1:List (qe3->X×St):=[(k5 q1s),(k5 q1t)]
def qoo(G_u248q:qdo)(x0 x1 x2:Int)(x3:List UInt8)(x4:List AV):DT (Rd qe3):=
 .br (decide (x0<(x4.length:Int)))
 (.br (qaG [.int .i64,.int .i64,.str,.slice 4] x4 x0)
 (.bi (G_u248q (intOf (cellAt x4 x0 0)) (intOf (cellAt x4 x0 1)) (strOf (cellAt x4 x0 2)) (qap (cellAt x4 x0 3))) (fun y0=>
 .br (!y0) (.at (.done 0)) (.at (.next ((IntKind.i64.wrap (x0+1),x1,x2,x3,x4)))))
 (.no))
 (.no))
 (.at (.done 1))
def qmO(G_u248q:qdo):qe3->DT (Rd qe3):=(fun v=>qoo G_u248q v.1 v.2.1 v.2.2.1 v.2.2.2.1 v.f)
def qlO(G_u248q:qdo)(v:qe3):Option (Nat×qe3):=qaC (qae (fun v=>(qmO G_u248q v).ev) v)
theorem qwb(G_u248q v):qlO G_u248q v=qae (fun v=>(qmO G_u248q v).ev) v:=qaa _
def qJq(G_u248q:qdo):qbJ:=LE (τ:=qe3) (hD qId) (qlO G_u248q) zf1
theorem zeX(G_u248q:qdo)(hG:qxi G_u248q):Go.Eng.Told IP (qad q96 0).1 (qad q96 0).2 (qJq G_u248q):=qas (inferInstance:Inhabited qe3) (hs:=qId) (st:=qmO G_u248q) (L:=[]) (qrp G_u248q hG) (qac (l:=[]) (by kernel_rfl) trivial) (qwb G_u248q) (fun v=>by kernel_rfl) (fun v=>by kernel_rfl)
def qzN(G_u248q:qdo)(x0 x1:Int)(x2:List UInt8)(x3:List AV):DT qDj:=
 .bi (qrL x0) (fun y0=>
 .br ((x3.length:Int) != y0)
 (.at (false))
 (.br (decide (x1<0))
 (.at (false))
 (.bi (qsr x0) (fun y1=>
 .br (decide (x1>y1))
 (.at (false))
 (.br (x0 != 4)
 (.br (!x2== [])
 (.at (false))
 (.bi (pj 0 (qlO G_u248q (0,x0,x1,x2,x3))) (fun y2=>
 .at (false))
 (.bi (pj 1 (qlO G_u248q (0,x0,x1,x2,x3))) (fun y2=>
 .at (true))
 (.no))))
 (.bi (pj 0 (qlO G_u248q (0,x0,x1,x2,x3))) (fun y2=>
 .at (false))
 (.bi (pj 1 (qlO G_u248q (0,x0,x1,x2,x3))) (fun y2=>
 .at (true))
 (.no)))))
 (.no))))
 (.no)
def qfE:Nat->qdo
 |0=>fun _ _ _ _=>none
 |n+1=>fun x0 x1 x2 x3=>(qzN ((qfE n)) x0 x1 x2 x3).ev
def qxW(x0 x1:Int)(x2:List UInt8)(x3:List AV):Option qDj:=qi4 fun n=>(qfE n) x0 x1 x2 x3
theorem qvl:∀n,qxi ((qfE n))
 |0=>(fun v y h=>nomatch h)
 |n+1=>have hG:=qvl n
 qag (F:=q96) (L:=[(1013300,qJq ((qfE n)))]) (t:=(k4 (qzN ((qfE n))))) (qrp ((qfE n)) hG) (qac (l:=[qad q96 0]) (by kernel_rfl) ⟨qar (by kernel_rfl) (zeX ((qfE n)) hG),trivial⟩) (by kernel_rfl) (fun v=>by kernel_rfl) (fun v=>rfl)
theorem zcg:FH IP 133 qtD qtZ (k4 qxW):=qbH (p:=qtD) (rs:=qtZ) (s:=fun n=>(k4 ((qfE n)))) fun n=>(qvl n)
def zq6:=zns.a zcg
abbrev qeR:Type:=List AV×List UInt8×Int
def qHY:List PSt:=[⟨[(1019400,.junk),(0,.view 1),(1,.str),(5,.int .i64)],[],0,0⟩]
def q03(x0:List AV)(x1:List UInt8)(x2:Int):X×St:=(.exit 0,⟨[(0,.view 1 x0),(1,.str x1),(5,.int .i64 x2)],[],0,0⟩)
def zfM:List (qeR->X×St):=[(k3 q03)]
def qkz(x0:List AV)(x1:List UInt8)(x2:Int):DT (Rd qeR):=
 .bi (br (decide (x2<(x0.length:Int))) (br (qaG [.str] x0 x2) (some (qbi (strOf (cellAt x0 x2 0)) x1)) none) (some false)) (fun y0=>
 .br (y0) (.at (.next ((x0,x1,IntKind.i64.wrap (x2+1))))) (.at (.done 0)))
 (.no)
def qky:qeR->DT (Rd qeR):=(fun v=>qkz v.1 v.2.1 v.2.2)
def qyg(v:qeR):=lo qky v
theorem qvY(v):qyg v=qae (fun v=>(qky v).ev) v:=qaa _
def qJb:qbJ:=LE (τ:=qeR) (hD qHY) (qyg) zfM
theorem zeI:TL IP zag 0 qJb:=lp (ih qeR) (hs:=qHY) qky zq6 qvY
def qqt(x0:List AV)(x1:List UInt8):DT (List AV):=
 .bi (pj 0 (qyg (x0,x1,0))) (fun y0=>
 .bi (br (decide (y0.2.2<(y0.1.length:Int))) (br (qaG [.str] y0.1 y0.2.2) (some (strOf (cellAt y0.1 y0.2.2 0)==y0.2.1)) none) (some false)) (fun y1=>
 .br (y1)
 (.at (y0.1))
 (.br (leB y0.2.2 y0.1.length&&true)
 (.br (decide ((List.take y0.2.2.toNat y0.1).length=0)&&decide (1=1))
 (.br (leB y0.2.2 y0.1.length)
 (.br (decide ((List.drop y0.2.2.toNat y0.1).length=0)&&decide (1=1))
 (.at ([AV.str y0.2.1]))
 (.br (decide ((List.drop y0.2.2.toNat y0.1).length≠0)&&room (1+(List.drop y0.2.2.toNat y0.1).length) 16)
 (.at (AV.str y0.2.1::List.drop y0.2.2.toNat y0.1))
 (.no)))
 (.no))
 (.br (decide ((List.take y0.2.2.toNat y0.1).length≠0)&&room (List.take y0.2.2.toNat y0.1).length 16)
 (.br (room ((List.take y0.2.2.toNat y0.1).length+1) 16)
 (.br (leB y0.2.2 y0.1.length)
 (.br (decide ((List.drop y0.2.2.toNat y0.1).length=0)&&decide (1=1))
 (.at (List.take y0.2.2.toNat y0.1++[AV.str y0.2.1]))
 (.br (decide ((List.drop y0.2.2.toNat y0.1).length≠0)&&room ((List.take y0.2.2.toNat y0.1++[AV.str y0.2.1]).length+(List.drop y0.2.2.toNat y0.1).length) 16)
 (.at (List.take y0.2.2.toNat y0.1++[AV.str y0.2.1]++List.drop y0.2.2.toNat y0.1))
 (.no)))
 (.no))
 (.no))
 (.no)))
 (.no)))
 (.no))
 (.no)
def qji(x0:List AV)(x1:List UInt8):=qaC (qqt x0 x1).ev
theorem qLT(x0 x1):qji x0 x1=(qqt x0 x1).ev:=qaa _
theorem zbN:FH IP 194 ⟨[.view 1,.str],[]⟩ [⟨false,.view 1,[]⟩] (k2 qji):=f1 zag 1019400 zeI (k2 qqt) zq6
def znt:=zq6.a zbN
abbrev qcW:Type:=(Int×List AV×Int×Int×Int×List UInt8×List AV×List AV)⊕(Int×List AV×Int×Int×Int×List UInt8×List AV)⊕(List AV×Int×List AV×Int×Int×Int×List UInt8×List AV)
def qIa:List PSt:=[⟨[(1013401,.junk),(1,.ref 0 0 0),(3,.own 1 0),(4,.int .i64),(5,.view 1),(6,.int .i64)],[(0,.box [.int .i64,.int .i64,.str,.view 4] false),(1,.arr 1 false)],2,0⟩,⟨[(1013401,.junk),(1,.ref 0 0 0),(3,.nils 1),(4,.int .i64),(5,.view 1),(6,.int .i64)],[(0,.box [.int .i64,.int .i64,.str,.view 4] false)],1,0⟩,⟨[(1013401,.junk),(1,.ref 0 0 0),(3,.view 1),(4,.int .i64),(5,.view 1),(6,.int .i64)],[(0,.box [.int .i64,.int .i64,.str,.view 4] false)],1,0⟩]
def q1i(x0:Int)(x1:List AV)(x2 x3 x4:Int)(x5:List UInt8)(x6 x7:List AV):X×St:=(.exit 2,
 ⟨[(1,.ref 0 0 0),(3,.own 1 0 none),(4,.int .i64 x0)],[(0,.box [.int .i64 x3,.int .i64 x4,.str x5,.view 4 x6] false),(1,.arr 1 x7 false)],2,0⟩)
def q1j(x0:Int)(x1:List AV)(x2 x3 x4:Int)(x5:List UInt8)(x6:List AV):X×St:=(.exit 2,
 ⟨[(1,.ref 0 0 0),(3,.nils ⟨1,.nil⟩),(4,.int .i64 x0)],[(0,.box [.int .i64 x3,.int .i64 x4,.str x5,.view 4 x6] false)],1,0⟩)
def q1k(x0:List AV)(x1:Int)(x2:List AV)(x3 x4 x5:Int)(x6:List UInt8)(x7:List AV):X×St:=(.exit 2,
 ⟨[(1,.ref 0 0 0),(3,.view 1 x0),(4,.int .i64 x1)],[(0,.box [.int .i64 x4,.int .i64 x5,.str x6,.view 4 x7] false)],1,0⟩)
def zfY:List (qcW->X×St):=[fun w=>(k8 q1i) ((sl w)),fun w=>(k7 q1j) ((sl (sr w))),fun w=>(k8 q1k) ((sr (sr w)))]
def qol(x0:Int)(x1:List AV)(x2 x3 x4:Int)(x5:List UInt8)(x6 x7:List AV):DT (Rd qcW):=
 .br (decide (x2<(x1.length:Int)))
 (.br (qaG [.str] x1 x2)
 (.bi (qji x7 (strOf (cellAt x1 x2 0))) (fun y0=>
 .at (.next ((.inr (.inr (y0,x0,x1,IntKind.i64.wrap (x2+1),x3,x4,x5,x6))))))
 (.no))
 (.no))
 (.at (.done 0))
def qom(x0:Int)(x1:List AV)(x2 x3 x4:Int)(x5:List UInt8)(x6:List AV):DT (Rd qcW):=
 .br (decide (x2<(x1.length:Int)))
 (.br (qaG [.str] x1 x2)
 (.bi (qji [] (strOf (cellAt x1 x2 0))) (fun y0=>
 .at (.next ((.inr (.inr (y0,x0,x1,IntKind.i64.wrap (x2+1),x3,x4,x5,x6))))))
 (.no))
 (.no))
 (.at (.done 1))
def qon(x0:List AV)(x1:Int)(x2:List AV)(x3 x4 x5:Int)(x6:List UInt8)(x7:List AV):DT (Rd qcW):=
 .br (decide (x3<(x2.length:Int)))
 (.br (qaG [.str] x2 x3)
 (.bi (qji x0 (strOf (cellAt x2 x3 0))) (fun y0=>
 .at (.next ((.inr (.inr (y0,x1,x2,IntKind.i64.wrap (x3+1),x4,x5,x6,x7))))))
 (.no))
 (.no))
 (.at (.done 2))
def qd7:qcW->DT (Rd qcW):=(Sum.elim (fun v=>qol v.1 v.2.1 v.2.2.1 v.2.2.2.1 v.f.1 v.f.2.1 v.f.2.2.1 v.f.2.2.2) (Sum.elim (fun v=>qom v.1 v.2.1 v.2.2.1 v.2.2.2.1 v.f.1 v.f.2.1 v.f.2.2) (fun v=>qon v.1 v.2.1 v.2.2.1 v.2.2.2.1 v.f.1 v.f.2.1 v.f.2.2.1 v.f.2.2.2)))
def qdU(v:qcW):=lo qd7 v
theorem qnN(v):qdU v=qae (fun v=>(qd7 v).ev) v:=qaa _
def qJn:qbJ:=LE (τ:=qcW) (hD qIa) (qdU) zfY
theorem zeU:Go.Eng.Told IP (qad qPZ 1).1 (qad qPZ 1).2 (qJn):=qas (inferInstance:Inhabited qcW) (hs:=qIa) (st:=qd7) (L:=[]) znt.ok (qac (l:=[]) (by kernel_rfl) trivial) (qnN) (fun v=>match v with|(.inl v)=>by kernel_rfl|(.inr (.inl v))=>by kernel_rfl|(.inr (.inr v))=>by kernel_rfl) (fun v=>match v with|(.inl v)=>by kernel_rfl|(.inr (.inl v))=>by kernel_rfl|(.inr (.inr v))=>by kernel_rfl)
abbrev qrd:Type:=List AV
def qtA:PArgs:=⟨[.agg [.int .i64,.int .i64,.str,.view 4]],[]⟩
def qtW:List PRes:=[⟨false,.view 1,[]⟩]
abbrev qcE:Type:=Int->Int->(List UInt8)->(List AV)->Option qrd
def qxg(G_u244q:qcE):Prop:=FH IP 134 qtA qtW (k4 G_u244q)
def q2w(G_u244q:qcE):Tab:=(134,FE qtA qtW (k4 G_u244q))::znt.t
theorem qrn(G_u244q:qcE)(hG:qxg G_u244q):qan IP (q2w G_u244q):=⟨qam (hG),znt.ok⟩
abbrev qcF:Type:=(Int×Int×Int×List UInt8×List AV×List AV)⊕(Int×Int×Int×List UInt8×List AV)⊕(List AV×Int×Int×Int×List UInt8×List AV)
def qH9:List PSt:=[⟨[(1013400,.junk),(1,.ref 0 0 0),(3,.own 1 0),(4,.int .i64)],[(0,.box [.int .i64,.int .i64,.str,.view 4] false),(1,.arr 1 false)],2,0⟩,⟨[(1013400,.junk),(1,.ref 0 0 0),(3,.nils 1),(4,.int .i64)],[(0,.box [.int .i64,.int .i64,.str,.view 4] false)],1,0⟩,⟨[(1013400,.junk),(1,.ref 0 0 0),(3,.view 1),(4,.int .i64)],[(0,.box [.int .i64,.int .i64,.str,.view 4] false)],1,0⟩]
def q1f(x0 x1 x2:Int)(x3:List UInt8)(x4 x5:List AV):X×St:=(.exit 0,⟨[(3,.own 0 0 none)],[(0,.arr 1 x5 false)],1,0⟩)
def q1g(x0 x1 x2:Int)(x3:List UInt8)(x4:List AV):X×St:=(.exit 0,⟨[(3,.nils ⟨1,.nil⟩)],[],0,0⟩)
def q1h(x0:List AV)(x1 x2 x3:Int)(x4:List UInt8)(x5:List AV):X×St:=(.exit 0,⟨[(3,.view 1 x0)],[],0,0⟩)
def zfX:List (qcF->X×St):=[fun w=>(k6 q1f) ((sl w)),fun w=>(k5 q1g) ((sl (sr w))),fun w=>(k6 q1h) ((sr (sr w)))]
def qhK(G_u244q:qcE)(x0 x1 x2:Int)(x3:List UInt8)(x4 x5:List AV):DT (Rd qcF):=
 .br (decide (x0<(x4.length:Int)))
 (.br (qaG [.int .i64,.int .i64,.str,.slice 4] x4 x0)
 (.bi (G_u244q (intOf (cellAt x4 x0 0)) (intOf (cellAt x4 x0 1)) (strOf (cellAt x4 x0 2)) (qap (cellAt x4 x0 3))) (fun y0=>
 .bi (pj 0 (qdU (Sum.inl (x0,y0,0,x1,x2,x3,x4,x5)))) (fun y1=>
 .at (.next ((.inl (IntKind.i64.wrap ((sl y1).1+1),(sl y1).2.2.2)))))
 (.bi (pj 1 (qdU (Sum.inl (x0,y0,0,x1,x2,x3,x4,x5)))) (fun y1=>
 .at (.next ((.inr (.inl (IntKind.i64.wrap ((sl (sr y1)).1+1),(sl (sr y1)).2.2.2))))))
 (.bi (pj 2 (qdU (Sum.inl (x0,y0,0,x1,x2,x3,x4,x5)))) (fun y1=>
 .at (.next ((.inr (.inr ((sr (sr y1)).1,IntKind.i64.wrap ((sr (sr y1)).2.1+1),(sr (sr y1)).f))))))
 (.no))))
 (.no))
 (.no))
 (.at (.done 0))
def qhL(G_u244q:qcE)(x0 x1 x2:Int)(x3:List UInt8)(x4:List AV):DT (Rd qcF):=
 .br (decide (x0<(x4.length:Int)))
 (.br (qaG [.int .i64,.int .i64,.str,.slice 4] x4 x0)
 (.bi (G_u244q (intOf (cellAt x4 x0 0)) (intOf (cellAt x4 x0 1)) (strOf (cellAt x4 x0 2)) (qap (cellAt x4 x0 3))) (fun y0=>
 .bi (pj 0 (qdU (Sum.inr (Sum.inl (x0,y0,0,x1,x2,x3,x4))))) (fun y1=>
 .at (.next ((.inl (IntKind.i64.wrap ((sl y1).1+1),(sl y1).2.2.2)))))
 (.bi (pj 1 (qdU (Sum.inr (Sum.inl (x0,y0,0,x1,x2,x3,x4))))) (fun y1=>
 .at (.next ((.inr (.inl (IntKind.i64.wrap ((sl (sr y1)).1+1),(sl (sr y1)).2.2.2))))))
 (.bi (pj 2 (qdU (Sum.inr (Sum.inl (x0,y0,0,x1,x2,x3,x4))))) (fun y1=>
 .at (.next ((.inr (.inr ((sr (sr y1)).1,IntKind.i64.wrap ((sr (sr y1)).2.1+1),(sr (sr y1)).f))))))
 (.no))))
 (.no))
 (.no))
 (.at (.done 1))
def qhM(G_u244q:qcE)(x0:List AV)(x1 x2 x3:Int)(x4:List UInt8)(x5:List AV):DT (Rd qcF):=
 .br (decide (x1<(x5.length:Int)))
 (.br (qaG [.int .i64,.int .i64,.str,.slice 4] x5 x1)
 (.bi (G_u244q (intOf (cellAt x5 x1 0)) (intOf (cellAt x5 x1 1)) (strOf (cellAt x5 x1 2)) (qap (cellAt x5 x1 3))) (fun y0=>
 .bi (pj 0 (qdU (Sum.inr (Sum.inr (x0,x1,y0,0,x2,x3,x4,x5))))) (fun y1=>
 .at (.next ((.inl (IntKind.i64.wrap ((sl y1).1+1),(sl y1).2.2.2)))))
 (.bi (pj 1 (qdU (Sum.inr (Sum.inr (x0,x1,y0,0,x2,x3,x4,x5))))) (fun y1=>
 .at (.next ((.inr (.inl (IntKind.i64.wrap ((sl (sr y1)).1+1),(sl (sr y1)).2.2.2))))))
 (.bi (pj 2 (qdU (Sum.inr (Sum.inr (x0,x1,y0,0,x2,x3,x4,x5))))) (fun y1=>
 .at (.next ((.inr (.inr ((sr (sr y1)).1,IntKind.i64.wrap ((sr (sr y1)).2.1+1),(sr (sr y1)).f))))))
 (.no))))
 (.no))
 (.no))
 (.at (.done 2))
def qbW(G_u244q:qcE):qcF->DT (Rd qcF):=(Sum.elim (fun v=>qhK G_u244q v.1 v.2.1 v.2.2.1 v.2.2.2.1 v.f.1 v.f.2) (Sum.elim (fun v=>qhL G_u244q v.1 v.2.1 v.2.2.1 v.2.2.2.1 v.f) (fun v=>qhM G_u244q v.1 v.2.1 v.2.2.1 v.2.2.2.1 v.f.1 v.f.2)))
def qfZ(G_u244q:qcE)(v:qcF):Option (Nat×qcF):=qaC (qae (fun v=>(qbW G_u244q v).ev) v)
theorem qnM(G_u244q v):qfZ G_u244q v=qae (fun v=>(qbW G_u244q v).ev) v:=qaa _
def qJm(G_u244q:qcE):qbJ:=LE (τ:=qcF) (hD qH9) (qfZ G_u244q) zfX
theorem zeT(G_u244q:qcE)(hG:qxg G_u244q):Go.Eng.Told IP (qad qPZ 0).1 (qad qPZ 0).2 (qJm G_u244q):=qas (inferInstance:Inhabited qcF) (hs:=qH9) (st:=qbW G_u244q) (L:=[(1013401,qJn)]) (qrn G_u244q hG) (qac (l:=[qad qPZ 1]) (by kernel_rfl) ⟨qar (by kernel_rfl) zeU,trivial⟩) (qnM G_u244q) (fun v=>match v with|(.inl v)=>by kernel_rfl|(.inr (.inl v))=>by kernel_rfl|(.inr (.inr v))=>by kernel_rfl) (fun v=>match v with|(.inl v)=>by kernel_rfl|(.inr (.inl v))=>by kernel_rfl|(.inr (.inr v))=>by kernel_rfl)
def qzL(G_u244q:qcE)(x0 x1:Int)(x2:List UInt8)(x3:List AV):DT qrd:=
 .br (x0==4)
 (.bi (pj 0 (qfZ G_u244q (Sum.inl (0,x0,x1,x2,x3,[AV.str x2])))) (fun y0=>
 .at ((sl y0).f.2))
 (.bi (pj 1 (qfZ G_u244q (Sum.inl (0,x0,x1,x2,x3,[AV.str x2])))) (fun y0=>
 .at ([]))
 (.bi (pj 2 (qfZ G_u244q (Sum.inl (0,x0,x1,x2,x3,[AV.str x2])))) (fun y0=>
 .at ((sr (sr y0)).1))
 (.no))))
 (.bi (pj 0 (qfZ G_u244q (Sum.inr (Sum.inl (0,x0,x1,x2,x3))))) (fun y0=>
 .at ((sl y0).f.2))
 (.bi (pj 1 (qfZ G_u244q (Sum.inr (Sum.inl (0,x0,x1,x2,x3))))) (fun y0=>
 .at ([]))
 (.bi (pj 2 (qfZ G_u244q (Sum.inr (Sum.inl (0,x0,x1,x2,x3))))) (fun y0=>
 .at ((sr (sr y0)).1))
 (.no))))
def qdJ:Nat->qcE
 |0=>fun _ _ _ _=>none
 |n+1=>fun x0 x1 x2 x3=>(qzL ((qdJ n)) x0 x1 x2 x3).ev
def qxT(x0 x1:Int)(x2:List UInt8)(x3:List AV):Option qrd:=qi4 fun n=>(qdJ n) x0 x1 x2 x3
theorem qvj:∀n,qxg ((qdJ n))
 |0=>(fun v y h=>nomatch h)
 |n+1=>have hG:=qvj n
 qag (F:=qPZ) (L:=[(1013400,qJm ((qdJ n)))]) (t:=(k4 (qzL ((qdJ n))))) (qrn ((qdJ n)) hG) (qac (l:=[qad qPZ 0,qad qPZ 1]) (by kernel_rfl) ⟨qar (by kernel_rfl) (zeT ((qdJ n)) hG),qKq (by kernel_rfl),trivial⟩) (by kernel_rfl) (fun v=>by kernel_rfl) (fun v=>rfl)
theorem zcc:FH IP 134 qtA qtW (k4 qxT):=qbH (p:=qtA) (rs:=qtW) (s:=fun n=>(k4 ((qdJ n)))) fun n=>(qvj n)
def zq7:=znt.a zcc
abbrev qia:Type:=List AV×Int
def qTG:List PSt:=[⟨[(1007500,.junk),(3,.view 1),(4,.int .i64)],[],0,0⟩]
def q5w(x0:List AV)(x1:Int):X×St:=(.ret,⟨[(2,.int .i64 4)],[],0,0⟩)
def q5x(x0:List AV)(x1:Int):X×St:=(.exit 0,⟨[(2,.junk)],[],0,0⟩)
def zlS:List (qia->X×St):=[(k2 q5w),(k2 q5x)]
def quF(x0:List AV)(x1:Int):DT (Rd qia):=
 .br (decide (x1<(x0.length:Int)))
 (.br (qaG [.str] x0 x1)
 (.bi (qfO (strOf (cellAt x0 x1 0))) (fun y0=>
 .br (!y0) (.at (.done 0)) (.at (.next ((x0,IntKind.i64.wrap (x1+1))))))
 (.no))
 (.no))
 (.at (.done 1))
def quE:qia->DT (Rd qia):=(fun v=>quF v.1 v.2)
def qBA(v:qia):=lo quE v
theorem qBB(v):qBA v=qae (fun v=>(quE v).ev) v:=qaa _
def qUB:qbJ:=LE (τ:=qia) (hD qTG) (qBA) zlS
theorem zk7:TL IP F75 0 qUB:=lp (ih qia) (hs:=qTG) quE zq7 qBB
def qp1(x0 x1:Int)(x2:List UInt8)(x3:List AV):DT Int:=
 .bi (qfU x0 x1 x2 x3 64) (fun y0=>
 .bi (br y0 (some true) (br (sm (qse x0 x1 x2 x3)) (some (decide (gv (qse x0 x1 x2 x3)>8))) none)) (fun y1=>
 .br (y1)
 (.at (5))
 (.bi (qxW x0 x1 x2 x3) (fun y2=>
 .br (!y2)
 (.at (1))
 (.bi (qxT x0 x1 x2 x3) (fun y3=>
 .bi (pj 0 (qBA (y3,0))) (fun y4=>
 .at (4))
 (.bi (pj 1 (qBA (y3,0))) (fun y4=>
 .at (0))
 (.no)))
 (.no)))
 (.no)))
 (.no))
 (.no)
def qig(x0 x1:Int)(x2:List UInt8)(x3:List AV):=qaC (qp1 x0 x1 x2 x3).ev
theorem qLp(x0 x1 x2 x3):qig x0 x1 x2 x3=(qp1 x0 x1 x2 x3).ev:=qaa _
theorem zbc:FH IP 75 ⟨[.agg [.int .i64,.int .i64,.str,.view 4]],[]⟩ [⟨false,.int .i64,[]⟩] (k4 qig):=f1 F75 1007500 zk7 (k4 qp1) zq7
def zq8:=zq7.a zbc
def qqg:DT (List AV):=
 .at ([AV.str [115,105,110,103,108,101],AV.str [100,97,105,108,121],AV.str [109,111,110,116,104,108,121]])
def qgZ:=qaC (qqg).ev
theorem qLG:qgZ=(qqg).ev:=qaa _
theorem zbx:FH IP 37 ⟨[],[]⟩ [⟨false,.view 1,[]⟩] (fun _=>qgZ):=fh F37 (fun _=>qqg) zq8
def zq9:=zq8.a zbx
def qqT(x0:Int):DT Bool:=
 .bi (br (x0.tmod 4==0) (br (x0.tmod 100 != 0) (some true) (some (x0.tmod 400==0))) (some false)) (fun y0=>
 .at (y0))
 (.no)
def qbb(x0:Int):=qaC (qqT x0).ev
theorem qMj(x0):qbb x0=(qqT x0).ev:=qaa _
theorem zcv:FH IP 136 ⟨[.int .i64],[]⟩ [⟨false,.bool,[]⟩] qbb:=fh zmc qqT zq9
def zrb:=zq9.a zcv
def qAz(x0:Int):DT Int:=
 .bi (qbb x0) (fun y0=>
 .br (y0) (.at (366)) (.at (365)))
 (.no)
def qsC(x0:Int):=qaC (qAz x0).ev
theorem qS2(x0):qsC x0=(qAz x0).ev:=qaa _
theorem ziR:FH IP 77 ⟨[.int .i64],[]⟩ [⟨false,.int .i64,[]⟩] qsC:=fh F77 qAz zrb
def zrc:=zrb.a ziR
def qm2(x0 x1:Int):DT Int:=
 .br (x1==1)
 (.br (x1==1)
 (.at (31))
 (.br (x1==4)
 (.br (x1==4)
 (.at (30))
 (.br (x1==2)
 (.bi (qbb x0) (fun y0=>
 .br (y0) (.at (29)) (.at (28)))
 (.no))
 (.at (0))))
 (.br (x1==6)
 (.br (x1==6)
 (.at (30))
 (.br (x1==2)
 (.bi (qbb x0) (fun y0=>
 .br (y0) (.at (29)) (.at (28)))
 (.no))
 (.at (0))))
 (.br (x1==9)
 (.br (x1==9)
 (.at (30))
 (.br (x1==2)
 (.bi (qbb x0) (fun y0=>
 .br (y0) (.at (29)) (.at (28)))
 (.no))
 (.at (0))))
 (.br (x1==11)
 (.at (30))
 (.br (x1==2)
 (.bi (qbb x0) (fun y0=>
 .br (y0) (.at (29)) (.at (28)))
 (.no))
 (.at (0))))))))
 (.br (x1==3)
 (.br (x1==3)
 (.at (31))
 (.br (x1==4)
 (.br (x1==4)
 (.at (30))
 (.br (x1==2)
 (.bi (qbb x0) (fun y0=>
 .br (y0) (.at (29)) (.at (28)))
 (.no))
 (.at (0))))
 (.br (x1==6)
 (.br (x1==6)
 (.at (30))
 (.br (x1==2)
 (.bi (qbb x0) (fun y0=>
 .br (y0) (.at (29)) (.at (28)))
 (.no))
 (.at (0))))
 (.br (x1==9)
 (.br (x1==9)
 (.at (30))
 (.br (x1==2)
 (.bi (qbb x0) (fun y0=>
 .br (y0) (.at (29)) (.at (28)))
 (.no))
 (.at (0))))
 (.br (x1==11)
 (.at (30))
 (.br (x1==2)
 (.bi (qbb x0) (fun y0=>
 .br (y0) (.at (29)) (.at (28)))
 (.no))
 (.at (0))))))))
 (.br (x1==5)
 (.br (x1==5)
 (.at (31))
 (.br (x1==4)
 (.br (x1==4)
 (.at (30))
 (.br (x1==2)
 (.bi (qbb x0) (fun y0=>
 .br (y0) (.at (29)) (.at (28)))
 (.no))
 (.at (0))))
 (.br (x1==6)
 (.br (x1==6)
 (.at (30))
 (.br (x1==2)
 (.bi (qbb x0) (fun y0=>
 .br (y0) (.at (29)) (.at (28)))
 (.no))
 (.at (0))))
 (.br (x1==9)
 (.br (x1==9)
 (.at (30))
 (.br (x1==2)
 (.bi (qbb x0) (fun y0=>
 .br (y0) (.at (29)) (.at (28)))
 (.no))
 (.at (0))))
 (.br (x1==11)
 (.at (30))
 (.br (x1==2)
 (.bi (qbb x0) (fun y0=>
 .br (y0) (.at (29)) (.at (28)))
 (.no))
 (.at (0))))))))
 (.br (x1==7)
 (.br (x1==7)
 (.at (31))
 (.br (x1==4)
 (.br (x1==4)
 (.at (30))
 (.br (x1==2)
 (.bi (qbb x0) (fun y0=>
 .br (y0) (.at (29)) (.at (28)))
 (.no))
 (.at (0))))
 (.br (x1==6)
 (.br (x1==6)
 (.at (30))
 (.br (x1==2)
 (.bi (qbb x0) (fun y0=>
 .br (y0) (.at (29)) (.at (28)))
 (.no))
 (.at (0))))
 (.br (x1==9)
 (.br (x1==9)
 (.at (30))
 (.br (x1==2)
 (.bi (qbb x0) (fun y0=>
 .br (y0) (.at (29)) (.at (28)))
 (.no))
 (.at (0))))
 (.br (x1==11)
 (.at (30))
 (.br (x1==2)
 (.bi (qbb x0) (fun y0=>
 .br (y0) (.at (29)) (.at (28)))
 (.no))
 (.at (0))))))))
 (.br (x1==8)
 (.br (x1==8)
 (.at (31))
 (.br (x1==4)
 (.br (x1==4)
 (.at (30))
 (.br (x1==2)
 (.bi (qbb x0) (fun y0=>
 .br (y0) (.at (29)) (.at (28)))
 (.no))
 (.at (0))))
 (.br (x1==6)
 (.br (x1==6)
 (.at (30))
 (.br (x1==2)
 (.bi (qbb x0) (fun y0=>
 .br (y0) (.at (29)) (.at (28)))
 (.no))
 (.at (0))))
 (.br (x1==9)
 (.br (x1==9)
 (.at (30))
 (.br (x1==2)
 (.bi (qbb x0) (fun y0=>
 .br (y0) (.at (29)) (.at (28)))
 (.no))
 (.at (0))))
 (.br (x1==11)
 (.at (30))
 (.br (x1==2)
 (.bi (qbb x0) (fun y0=>
 .br (y0) (.at (29)) (.at (28)))
 (.no))
 (.at (0))))))))
 (.br (x1==10)
 (.br (x1==10)
 (.at (31))
 (.br (x1==4)
 (.br (x1==4)
 (.at (30))
 (.br (x1==2)
 (.bi (qbb x0) (fun y0=>
 .br (y0) (.at (29)) (.at (28)))
 (.no))
 (.at (0))))
 (.br (x1==6)
 (.br (x1==6)
 (.at (30))
 (.br (x1==2)
 (.bi (qbb x0) (fun y0=>
 .br (y0) (.at (29)) (.at (28)))
 (.no))
 (.at (0))))
 (.br (x1==9)
 (.br (x1==9)
 (.at (30))
 (.br (x1==2)
 (.bi (qbb x0) (fun y0=>
 .br (y0) (.at (29)) (.at (28)))
 (.no))
 (.at (0))))
 (.br (x1==11)
 (.at (30))
 (.br (x1==2)
 (.bi (qbb x0) (fun y0=>
 .br (y0) (.at (29)) (.at (28)))
 (.no))
 (.at (0))))))))
 (.br (x1==12)
 (.at (31))
 (.br (x1==4)
 (.br (x1==4)
 (.at (30))
 (.br (x1==2)
 (.bi (qbb x0) (fun y0=>
 .br (y0) (.at (29)) (.at (28)))
 (.no))
 (.at (0))))
 (.br (x1==6)
 (.br (x1==6)
 (.at (30))
 (.br (x1==2)
 (.bi (qbb x0) (fun y0=>
 .br (y0) (.at (29)) (.at (28)))
 (.no))
 (.at (0))))
 (.br (x1==9)
 (.br (x1==9)
 (.at (30))
 (.br (x1==2)
 (.bi (qbb x0) (fun y0=>
 .br (y0) (.at (29)) (.at (28)))
 (.no))
 (.at (0))))
 (.br (x1==11)
 (.at (30))
 (.br (x1==2)
 (.bi (qbb x0) (fun y0=>
 .br (y0) (.at (29)) (.at (28)))
 (.no))
 (.at (0)))))))))))))
def qg0(x0 x1:Int):=qaC (qm2 x0 x1).ev
theorem qvB(x0 x1):qg0 x0 x1=(qm2 x0 x1).ev:=qaa _
theorem zbG:FH IP 78 ⟨[.int .i64,.int .i64],[]⟩ [⟨false,.int .i64,[]⟩] (k2 qg0):=fh F78 (k2 qm2) zrc
def zrd:=zrc.a zbG
def qkN(x0:Int):DT Int:=
 .br (x0==19)
 (.at (0))
 (.br (x0==15)
 (.at (1))
 (.br (x0==14)
 (.at (2))
 (.br (x0==16)
 (.at (3))
 (.br (x0==10)
 (.br (x0==10)
 (.at (4))
 (.br (x0==5)
 (.br (x0==5)
 (.at (5))
 (.br (x0==7)
 (.br (x0==7)
 (.at (6))
 (.br (x0==9) (.at (7)) (.at (8))))
 (.br (x0==8)
 (.at (6))
 (.br (x0==9) (.at (7)) (.at (8))))))
 (.br (x0==6)
 (.at (5))
 (.br (x0==7)
 (.br (x0==7)
 (.at (6))
 (.br (x0==9) (.at (7)) (.at (8))))
 (.br (x0==8)
 (.at (6))
 (.br (x0==9) (.at (7)) (.at (8))))))))
 (.br (x0==11)
 (.br (x0==11)
 (.at (4))
 (.br (x0==5)
 (.br (x0==5)
 (.at (5))
 (.br (x0==7)
 (.br (x0==7)
 (.at (6))
 (.br (x0==9) (.at (7)) (.at (8))))
 (.br (x0==8)
 (.at (6))
 (.br (x0==9) (.at (7)) (.at (8))))))
 (.br (x0==6)
 (.at (5))
 (.br (x0==7)
 (.br (x0==7)
 (.at (6))
 (.br (x0==9) (.at (7)) (.at (8))))
 (.br (x0==8)
 (.at (6))
 (.br (x0==9) (.at (7)) (.at (8))))))))
 (.br (x0==12)
 (.br (x0==12)
 (.at (4))
 (.br (x0==5)
 (.br (x0==5)
 (.at (5))
 (.br (x0==7)
 (.br (x0==7)
 (.at (6))
 (.br (x0==9) (.at (7)) (.at (8))))
 (.br (x0==8)
 (.at (6))
 (.br (x0==9) (.at (7)) (.at (8))))))
 (.br (x0==6)
 (.at (5))
 (.br (x0==7)
 (.br (x0==7)
 (.at (6))
 (.br (x0==9) (.at (7)) (.at (8))))
 (.br (x0==8)
 (.at (6))
 (.br (x0==9) (.at (7)) (.at (8))))))))
 (.br (x0==13)
 (.at (4))
 (.br (x0==5)
 (.br (x0==5)
 (.at (5))
 (.br (x0==7)
 (.br (x0==7)
 (.at (6))
 (.br (x0==9) (.at (7)) (.at (8))))
 (.br (x0==8)
 (.at (6))
 (.br (x0==9) (.at (7)) (.at (8))))))
 (.br (x0==6)
 (.at (5))
 (.br (x0==7)
 (.br (x0==7)
 (.at (6))
 (.br (x0==9) (.at (7)) (.at (8))))
 (.br (x0==8)
 (.at (6))
 (.br (x0==9) (.at (7)) (.at (8))))))))))))))
def qg5(x0:Int):=qaC (qkN x0).ev
theorem qnz(x0):qg5 x0=(qkN x0).ev:=qaa _
theorem zcD:FH IP 195 ⟨[.int .i64],[]⟩ [⟨false,.int .i64,[]⟩] qg5:=fh zmw qkN zrd
def zrr:=zrd.a zcD
abbrev qeq:Type:=(List UInt8×Int×Int)⊕(List UInt8×Int×Int×List AV)
def qTF:List PSt:=[⟨[(1004201,.junk),(0,.str),(5,.nils 3),(6,.int .i64),(7,.int .i64)],[],0,0⟩,⟨[(1004201,.junk),(0,.str),(5,.own 0 0),(6,.int .i64),(7,.int .i64)],[(0,.arr 3 false)],1,0⟩]
def q5u(x0:List UInt8)(x1 x2:Int):X×St:=(.exit 3,⟨[(0,.str x0),(5,.nils ⟨3,.nil⟩),(6,.int .i64 x1),(7,.int .i64 x2)],[],0,0⟩)
def q5v(x0:List UInt8)(x1 x2:Int)(x3:List AV):X×St:=(.exit 3,⟨[(0,.str x0),(5,.own 0 0 none),(6,.int .i64 x1),(7,.int .i64 x2)],[(0,.arr 3 x3 false)],1,0⟩)
def zlR:List (qeq->X×St):=[fun w=>(k3 q5u) ((sl w)),fun w=>(k4 q5v) ((sr w))]
def quC(x0:List UInt8)(x1 x2:Int):DT (Rd qeq):=
 .bi (br (decide (x2<(x0.length:Int))) (br (inB x0.length x2) (some (qal x0 x2 != 10)) none) (some false)) (fun y0=>
 .br (y0) (.at (.next ((.inl (x0,x1,IntKind.i64.wrap (x2+1)))))) (.at (.done 0)))
 (.no)
def quD(x0:List UInt8)(x1 x2:Int)(x3:List AV):DT (Rd qeq):=
 .bi (br (decide (x2<(x0.length:Int))) (br (inB x0.length x2) (some (qal x0 x2 != 10)) none) (some false)) (fun y0=>
 .br (y0) (.at (.next ((.inr (x0,x1,IntKind.i64.wrap (x2+1),x3))))) (.at (.done 1)))
 (.no)
def qlV:qeq->DT (Rd qeq):=(Sum.elim (fun v=>quC v.1 v.2.1 v.2.2) (fun v=>quD v.1 v.2.1 v.2.2.1 v.2.2.2))
def qiU(v:qeq):=lo qlV v
theorem qs6(v):qiU v=qae (fun v=>(qlV v).ev) v:=qaa _
def qUA:qbJ:=LE (τ:=qeq) (hD qTF) (qiU) zlR
theorem zk6:Go.Eng.Told IP (qad F42 1).1 (qad F42 1).2 (qUA):=qas (inferInstance:Inhabited qeq) (hs:=qTF) (st:=qlV) (L:=[]) zrr.ok (qac (l:=[]) (by kernel_rfl) trivial) (qs6) (fun v=>match v with|(.inl v)=>by kernel_rfl|(.inr v)=>by kernel_rfl) (fun v=>match v with|(.inl v)=>by kernel_rfl|(.inr v)=>by kernel_rfl)
def qqq(x0:Int):DT Bool:=
 .bi (br (decide (x0>=97)) (some (decide (x0<=122))) (some false)) (fun y0=>
 .at (y0))
 (.no)
def qlv(x0:Int):=qaC (qqq x0).ev
theorem qLR(x0):qlv x0=(qqq x0).ev:=qaa _
theorem zbI:FH IP 158 ⟨[.int .u8],[]⟩ [⟨false,.bool,[]⟩] qlv:=fh zml qqq zrr
def zrx:=zrr.a zbI
def qqH(x0:Int):DT Bool:=
 .bi (br (decide (x0>=48)) (some (decide (x0<=57))) (some false)) (fun y0=>
 .at (y0))
 (.no)
def qfS(x0:Int):=qaC (qqH x0).ev
theorem qL7(x0):qfS x0=(qqH x0).ev:=qaa _
theorem zb7:FH IP 160 ⟨[.int .u8],[]⟩ [⟨false,.bool,[]⟩] qfS:=fh zmm qqH zrx
def zry:=zrx.a zb7
abbrev qfq:Type:=List UInt8×Int×Bool
def qIB:List PSt:=[⟨[(1015900,.junk),(0,.str),(1,.int .i64),(2,.bool)],[],0,0⟩]
def q2i(x0:List UInt8)(x1:Int)(x2:Bool):X×St:=(.exit 0,⟨[(1,.int .i64 x1)],[],0,0⟩)
def zgp:List (qfq->X×St):=[(k3 q2i)]
def qoB(x0:List UInt8)(x1:Int)(x2:Bool):DT (Rd qfq):=
 .bi (br (decide (x1<(x0.length:Int)))
 (br (inB x0.length x1)
 (br (sm (qlv (qal x0 x1)))
 (br (gv (qlv (qal x0 x1))) (some true)
 (br (inB x0.length x1)
 (br (sm (qfS (qal x0 x1)))
 (br (gv (qfS (qal x0 x1))) (some true)
 (br (inB x0.length x1)
 (br (qal x0 x1==95) (some true)
 (br x2 (br (inB x0.length x1) (br (qal x0 x1==46) (some true) (br (inB x0.length x1) (some (qal x0 x1==37)) none)) none) (some false)))
 none))
 none)
 none))
 none)
 none)
 (some false)) (fun y0=>
 .br (y0) (.at (.next ((x0,IntKind.i64.wrap (x1+1),x2)))) (.at (.done 0)))
 (.no)
def qmU:qfq->DT (Rd qfq):=(fun v=>qoB v.1 v.2.1 v.2.2)
def qys(v:qfq):=lo qmU v
theorem qwn(v):qys v=qae (fun v=>(qmU v).ev) v:=qaa _
def qJN:qbJ:=LE (τ:=qfq) (hD qIB) (qys) zgp
theorem zfk:TL IP q99 0 qJN:=lp (ih qfq) (hs:=qIB) qmU zry qwn
def qq8(x0:List UInt8)(x1:Int)(x2:Bool):DT Int:=
 .bi (pj 0 (qys (x0,x1,x2))) (fun y0=>
 .at (y0.2.1))
 (.no)
def qnB(x0:List UInt8)(x1:Int)(x2:Bool):=qaC (qq8 x0 x1 x2).ev
theorem qMx(x0 x1 x2):qnB x0 x1 x2=(qq8 x0 x1 x2).ev:=qaa _
theorem zcU:FH IP 159 ⟨[.str,.int .i64,.bool],[]⟩ [⟨false,.int .i64,[]⟩] (k3 qnB):=f1 q99 1015900 zfk (k3 qq8) zry
def zrz:=zry.a zcU
abbrev qe0:Type:=List UInt8×Int
def qH7:List PSt:=[⟨[(1016100,.junk),(0,.str),(3,.int .i64)],[],0,0⟩]
def q1d(x0:List UInt8)(x1:Int):X×St:=(.exit 0,⟨[(0,.str x0),(3,.int .i64 x1)],[],0,0⟩)
def zfV:List (qe0->X×St):=[(k2 q1d)]
def qoj(x0:List UInt8)(x1:Int):DT (Rd qe0):=
 .bi (br (decide (x1<(x0.length:Int))) (br (inB x0.length x1) (br (sm (qfS (qal x0 x1))) (some (gv (qfS (qal x0 x1)))) none) none) (some false)) (fun y0=>
 .br (y0) (.at (.next ((x0,IntKind.i64.wrap (x1+1))))) (.at (.done 0)))
 (.no)
def qmM:qe0->DT (Rd qe0):=(fun v=>qoj v.1 v.2)
def qyk(v:qe0):=lo qmM v
theorem qv9(v):qyk v=qae (fun v=>(qmM v).ev) v:=qaa _
def qJk:qbJ:=LE (τ:=qe0) (hD qH7) (qyk) zfV
theorem zeR:TL IP zaa 0 qJk:=lp (ih qe0) (hs:=qH7) qmM zrz qv9
def qqJ(x0:List UInt8):DT Int:=
 .bi (pj 0 (qyk (x0,0))) (fun y0=>
 .bi (br (decide (y0.2>1)) (br (inB y0.1.length 0) (some (qal y0.1 0==48)) none) (some false)) (fun y1=>
 .br (y1) (.at (0)) (.at (y0.2)))
 (.no))
 (.no)
def qlz(x0:List UInt8):=qaC (qqJ x0).ev
theorem qL9(x0):qlz x0=(qqJ x0).ev:=qaa _
theorem zb9:FH IP 161 ⟨[.str],[]⟩ [⟨false,.int .i64,[]⟩] qlz:=f1 zaa 1016100 zeR qqJ zrz
def zrA:=zrz.a zb9
def qqI(x0:List UInt8):DT Bool:=
 .bi (br (decide ((x0.length:Int)>(19:Int))) (some true)
 (br ((x0.length:Int)==(19:Int))
 (some
 !(qbi x0 [57,50,50,51,51,55,50,48,51,54,56,53,52,55,55,53,56,48,55] ||
 x0== [57,50,50,51,51,55,50,48,51,54,56,53,52,55,55,53,56,48,55]))
 (some false))) (fun y0=>
 .at (y0))
 (.no)
def qsd(x0:List UInt8):=qaC (qqI x0).ev
theorem qL8(x0):qsd x0=(qqI x0).ev:=qaa _
theorem zb8:FH IP 162 ⟨[.str],[]⟩ [⟨false,.bool,[]⟩] qsd:=fh zmn qqI zrA
def zrB:=zrA.a zb8
abbrev qfj:Type:=List UInt8×Int
def qIt:List PSt:=[⟨[(1016300,.junk),(0,.str),(4,.int .i64)],[],0,0⟩]
def q1V(x0:List UInt8)(x1:Int):X×St:=(.ret,⟨[(2,.bool false)],[],0,0⟩)
def q1W(x0:List UInt8)(x1:Int):X×St:=(.exit 0,⟨[(2,.junk)],[],0,0⟩)
def zgh:List (qfj->X×St):=[(k2 q1V),(k2 q1W)]
def qox(x0:List UInt8)(x1:Int):DT (Rd qfj):=
 .br (decide (x1<(x0.length:Int)))
 (.br (inB x0.length x1)
 (.bi (qfS (qal x0 x1)) (fun y0=>
 .br (!y0) (.at (.done 0)) (.at (.next ((x0,IntKind.i64.wrap (x1+1))))))
 (.no))
 (.no))
 (.at (.done 1))
def qiE:qfj->DT (Rd qfj):=(fun v=>qox v.1 v.2)
def qnR(v:qfj):=lo qiE v
theorem qwg(v):qnR v=qae (fun v=>(qiE v).ev) v:=qaa _
def qJF:qbJ:=LE (τ:=qfj) (hD qIt) (qnR) zgh
theorem zfc:TL IP zab 0 qJF:=lp (ih qfj) (hs:=qIt) qiE zrB qwg
def qqY(x0:List UInt8):DT Bool:=
 .bi (qlz x0) (fun y0=>
 .bi (br (y0==0) (some true) (br (inB x0.length (IntKind.i64.wrap ((x0.length:Int)-1))) (some (qal x0 (IntKind.i64.wrap ((x0.length:Int)-1)) != 37)) none)) (fun y1=>
 .br (y1)
 (.at (false))
 (.br (leB (IntKind.i64.wrap ((x0.length:Int)-1)) x0.length&&leB y0 (IntKind.i64.wrap ((x0.length:Int)-1)).toNat)
 (.br (List.take ((IntKind.i64.wrap ((x0.length:Int)-1)).toNat-y0.toNat) (List.drop y0.toNat x0)== [])
 (.at (true))
 (.bi (br (decide (((List.take ((IntKind.i64.wrap ((x0.length:Int)-1)).toNat-y0.toNat) (List.drop y0.toNat x0)).length:Int)<2)) (some true)
 (some (decide (((List.take ((IntKind.i64.wrap ((x0.length:Int)-1)).toNat-y0.toNat) (List.drop y0.toNat x0)).length:Int)>5)))) (fun y2=>
 .bi (br y2 (some true)
 (br (inB (List.take ((IntKind.i64.wrap ((x0.length:Int)-1)).toNat-y0.toNat) (List.drop y0.toNat x0)).length 0)
 (some (qal (List.take ((IntKind.i64.wrap ((x0.length:Int)-1)).toNat-y0.toNat) (List.drop y0.toNat x0)) 0 != 46)) none)) (fun y3=>
 .bi (br y3 (some true)
 (br
 (inB (List.take ((IntKind.i64.wrap ((x0.length:Int)-1)).toNat-y0.toNat) (List.drop y0.toNat x0)).length
 (IntKind.i64.wrap (((List.take ((IntKind.i64.wrap ((x0.length:Int)-1)).toNat-y0.toNat) (List.drop y0.toNat x0)).length:Int)-1)))
 (some
 (qal (List.take ((IntKind.i64.wrap ((x0.length:Int)-1)).toNat-y0.toNat) (List.drop y0.toNat x0))
 (IntKind.i64.wrap (((List.take ((IntKind.i64.wrap ((x0.length:Int)-1)).toNat-y0.toNat) (List.drop y0.toNat x0)).length:Int)-1)) ==
 48))
 none)) (fun y4=>
 .br (y4)
 (.at (false))
 (.bi (pj 0 (qnR (List.take ((IntKind.i64.wrap ((x0.length:Int)-1)).toNat-y0.toNat) (List.drop y0.toNat x0),1))) (fun y5=>
 .at (false))
 (.bi (pj 1 (qnR (List.take ((IntKind.i64.wrap ((x0.length:Int)-1)).toNat-y0.toNat) (List.drop y0.toNat x0),1))) (fun y5=>
 .at (true))
 (.no))))
 (.no))
 (.no))
 (.no)))
 (.no)))
 (.no))
 (.no)
def qny(x0:List UInt8):=qaC (qqY x0).ev
theorem qMo(x0):qny x0=(qqY x0).ev:=qaa _
theorem zcB:FH IP 163 ⟨[.str],[]⟩ [⟨false,.bool,[]⟩] qny:=f1 zab 1016300 zfc qqY zrB
def zrC:=zrB.a zcB
abbrev qfg:Type:=List UInt8×Int×Int×Int×Int
def qIq:List PSt:=[⟨[(1016400,.junk),(0,.str),(4,.int .i64),(5,.int .i64),(6,.int .i64),(7,.int .i64)],[],0,0⟩]
def q1Q(x0:List UInt8)(x1 x2:Int)(x3 x4:Int):X×St:=(.ret,
 ⟨[(2,.int .i64 0),(3,.int .i64 1),
 (5,.int .i64 (IntKind.i64.wrap (IntKind.i64.wrap (10*x2)+IntKind.i64.wrap (IntKind.u8.wrap (qal x0 x4-48))))),(6,.int .i64 x3)],[],0,0⟩)
def q1R(x0:List UInt8)(x1 x2:Int)(x3 x4:Int):X×St:=(.exit 0,⟨[(2,.junk),(3,.junk),(5,.int .i64 x2),(6,.int .i64 x3)],[],0,0⟩)
def zge:List (qfg->X×St):=[(k5 q1Q),(k5 q1R)]
def qov(x0:List UInt8)(x1 x2:Int)(x3 x4:Int):DT (Rd qfg):=
 .br (decide (x4<IntKind.i64.wrap ((x0.length:Int)-1)))
 (.br (inB x0.length x4)
 (.bi (qfS (qal x0 x4)) (fun y0=>
 .br (y0)
 (.br (inB x0.length x4)
 (.br (decide (IntKind.i64.wrap (IntKind.i64.wrap (10*x2)+IntKind.i64.wrap (IntKind.u8.wrap (qal x0 x4-48)))>1000000))
 (.at (.done 0))
 (.br (decide (x4>x1))
 (.at (.next ((x0,x1,IntKind.i64.wrap (IntKind.i64.wrap (10*x2)+IntKind.i64.wrap (IntKind.u8.wrap (qal x0 x4-48))),IntKind.i64.wrap (x3+1),IntKind.i64.wrap (x4+1)))))
 (.at (.next ((x0,x1,IntKind.i64.wrap (IntKind.i64.wrap (10*x2)+IntKind.i64.wrap (IntKind.u8.wrap (qal x0 x4-48))),x3,IntKind.i64.wrap (x4+1)))))))
 (.no))
 (.at (.next ((x0,x1,x2,x3,IntKind.i64.wrap (x4+1))))))
 (.no))
 (.no))
 (.at (.done 1))
def qkE:qfg->DT (Rd qfg):=(fun v=>qov v.1 v.2.1 v.2.2.1 v.2.2.2.1 v.f)
def qjv(v:qfg):=lo qkE v
theorem qht(v):qjv v=qae (fun v=>(qkE v).ev) v:=qaa _
def qJC:qbJ:=LE (τ:=qfg) (hD qIq) (qjv) zge
theorem ze9:TL IP q2j 0 qJC:=lp (ih qfg) (hs:=qIq) qkE zrC qht
abbrev qfh:Type:=Int×Int
def qIr:List PSt:=[⟨[(1016401,.junk),(5,.int .i64),(6,.int .i64)],[],0,0⟩]
def q1S(x0 x1:Int):X×St:=(.exit 2,⟨[(5,.int .i64 x0)],[],0,0⟩)
def zgf:List (qfh->X×St):=[(k2 q1S)]
def qow(x0 x1:Int):DT (Rd qfh):=
 .br (decide (x1<4)) (.at (.next ((IntKind.i64.wrap (10*x0),IntKind.i64.wrap (x1+1))))) (.at (.done 0))
def qmT:qfh->DT (Rd qfh):=(fun v=>qow v.1 v.2)
def qyq(v:qfh):=lo qmT v
theorem qke(v):qyq v=qae (fun v=>(qmT v).ev) v:=qaa _
def qJD:qbJ:=LE (τ:=qfh) (hD qIr) (qyq) zgf
theorem zfa:TL IP q2j 1 qJD:=lp (ih qfh) (hs:=qIr) qmT zrC qke
def qqW(x0:List UInt8):DT (Int×Int):=
 .bi (qny x0) (fun y0=>
 .br (!y0)
 (.at ((0,2)))
 (.bi (qlz x0) (fun y1=>
 .bi (pj 0 (qjv (x0,y1,0,0,0))) (fun y2=>
 .at ((0,1)))
 (.bi (pj 1 (qjv (x0,y1,0,0,0))) (fun y2=>
 .bi (pj 0 (qyq (y2.2.2.1,y2.2.2.2.1))) (fun y3=>
 .br (decide (y3.1>1000000)) (.at ((0,1))) (.at ((y3.1,0))))
 (.no))
 (.no)))
 (.no)))
 (.no)
def qlB(x0:List UInt8):=qaC (qqW x0).ev
theorem qMm(x0):qlB x0=(qqW x0).ev:=qaa _
theorem zcy:FH IP 164 ⟨[.str],[]⟩ [⟨false,.tup [.int .i64,.int .i64],[]⟩] qlB:=f2 q2j 1016400 ze9 1016401 zfa qqW zrC
def zrD:=zrC.a zcy
abbrev qfk:Type:=List UInt8×Int×List UInt8×Int
def qIu:List PSt:=[⟨[(1016500,.junk),(0,.str),(1,.int .i64),(5,.str),(6,.int .i64)],[],0,0⟩]
def q1X(x0:List UInt8)(x1:Int)(x2:List UInt8)(x3:Int):X×St:=(.ret,⟨[(4,.int .i64 1)],[],0,0⟩)
def q1Y(x0:List UInt8)(x1:Int)(x2:List UInt8)(x3:Int):X×St:=(.exit 0,⟨[(4,.junk)],[],0,0⟩)
def zgi:List (qfk->X×St):=[(k4 q1X),(k4 q1Y)]
def qoy(x0:List UInt8)(x1:Int)(x2:List UInt8)(x3:Int):DT (Rd qfk):=
 .br (decide (x3<(x2.length:Int)))
 (.br (inB x2.length x3)
 (.br (inB x0.length x1)
 (.br (qal x2 x3==qal x0 x1) (.at (.done 0)) (.at (.next ((x0,x1,x2,IntKind.i64.wrap (x3+1))))))
 (.no))
 (.no))
 (.at (.done 1))
def qkF:qfk->DT (Rd qfk):=(fun v=>qoy v.1 v.2.1 v.2.2.1 v.2.2.2)
def qs2(v:qfk):=lo qkF v
theorem qwh(v):qs2 v=qae (fun v=>(qkF v).ev) v:=qaa _
def qJG:qbJ:=LE (τ:=qfk) (hD qIu) (qs2) zgi
theorem zfd:TL IP zac 0 qJG:=lp (ih qfk) (hs:=qIu) qkF zrD qwh
def qqZ(x0:List UInt8)(x1:Int):DT Int:=
 .bi (br (decide (IntKind.i64.wrap (x1+1)<(x0.length:Int))) (br (inB x0.length (IntKind.i64.wrap (x1+1))) (some (qal x0 (IntKind.i64.wrap (x1+1))==61)) none) (some false)) (fun y0=>
 .bi (br y0
 (br (inB x0.length x1)
 (br (qal x0 x1==61) (some true) (br (inB x0.length x1) (br (qal x0 x1==33) (some true) (br (inB x0.length x1) (some (qal x0 x1==60)) none)) none)) none)
 (some false)) (fun y1=>
 .br (y1)
 (.at (2))
 (.bi (pj 0 (qs2 (x0,x1,[123,125,40,41,44,59,58,36,43,45,42,47,60],0))) (fun y2=>
 .at (1))
 (.bi (pj 1 (qs2 (x0,x1,[123,125,40,41,44,59,58,36,43,45,42,47,60],0))) (fun y2=>
 .at (0))
 (.no))))
 (.no))
 (.no)
def qsq(x0:List UInt8)(x1:Int):=qaC (qqZ x0 x1).ev
theorem qMp(x0 x1):qsq x0 x1=(qqZ x0 x1).ev:=qaa _
theorem zcC:FH IP 165 ⟨[.str,.int .i64],[]⟩ [⟨false,.int .i64,[]⟩] (k2 qsq):=f1 zac 1016500 zfd (k2 qqZ) zrD
def zrE:=zrD.a zcC
def qqG(x0:List UInt8)(x1:Int):DT (Int×Int×List UInt8×Int):=
 .br (inB x0.length x1)
 (.bi (qlv (qal x0 x1)) (fun y0=>
 .br (y0)
 (.bi (qnB x0 x1 false) (fun y1=>
 .br (leB y1 x0.length&&leB x1 y1.toNat)
 (.bi (qg4 (List.take (y1.toNat-x1.toNat) (List.drop x1.toNat x0))) (fun y2=>
 .br (y2)
 (.at ((5,0,List.take (y1.toNat-x1.toNat) (List.drop x1.toNat x0),0)))
 (.br (decide (((List.take (y1.toNat-x1.toNat) (List.drop x1.toNat x0)).length:Int)>16))
 (.at ((1,0,List.take (y1.toNat-x1.toNat) (List.drop x1.toNat x0),4)))
 (.at ((1,0,List.take (y1.toNat-x1.toNat) (List.drop x1.toNat x0),0)))))
 (.no))
 (.no))
 (.no))
 (.br (inB x0.length x1)
 (.bi (qfS (qal x0 x1)) (fun y1=>
 .br (y1)
 (.bi (qnB x0 x1 true) (fun y2=>
 .br (leB y2 x0.length&&leB x1 y2.toNat)
 (.bi (qlz (List.take (y2.toNat-x1.toNat) (List.drop x1.toNat x0))) (fun y3=>
 .br (y3==((List.take (y2.toNat-x1.toNat) (List.drop x1.toNat x0)).length:Int))
 (.bi (qsd (List.take (y2.toNat-x1.toNat) (List.drop x1.toNat x0))) (fun y4=>
 .br (y4) (.at ((2,0,List.take (y2.toNat-x1.toNat) (List.drop x1.toNat x0),6))) (.at ((2,0,List.take (y2.toNat-x1.toNat) (List.drop x1.toNat x0),0))))
 (.no))
 (.bi (qny (List.take (y2.toNat-x1.toNat) (List.drop x1.toNat x0))) (fun y4=>
 .br (!y4)
 (.at ((3,0,List.take (y2.toNat-x1.toNat) (List.drop x1.toNat x0),2)))
 (.bi (qlB (List.take (y2.toNat-x1.toNat) (List.drop x1.toNat x0))) (fun y5=>
 .br (y5.2 != 0) (.at ((3,0,List.take (y2.toNat-x1.toNat) (List.drop x1.toNat x0),6))) (.at ((3,0,List.take (y2.toNat-x1.toNat) (List.drop x1.toNat x0),0))))
 (.no)))
 (.no)))
 (.no))
 (.no))
 (.no))
 (.bi (qsq x0 x1) (fun y2=>
 .br (y2==0)
 (.at ((0,0,[],2)))
 (.br (leB (IntKind.i64.wrap (x1+y2)) x0.length&&leB x1 (IntKind.i64.wrap (x1+y2)).toNat)
 (.at ((4,0,List.take ((IntKind.i64.wrap (x1+y2)).toNat-x1.toNat) (List.drop x1.toNat x0),0)))
 (.no)))
 (.no)))
 (.no))
 (.no)))
 (.no))
 (.no)
def qds(x0:List UInt8)(x1:Int):=qaC (qqG x0 x1).ev
theorem qL6(x0 x1):qds x0 x1=(qqG x0 x1).ev:=qaa _
theorem zb5:FH IP 100 ⟨[.str,.int .i64],[]⟩ [⟨false,.tup [.agg [.int .i64,.int .i64,.str],.int .i64],[]⟩] (k2 qds):=fh zlT (k2 qqG) zrE
def zrF:=zrE.a zb5
abbrev qep:Type:=(List UInt8×Int×Int)⊕(List UInt8×Int×Int×List AV)
def qTE:List PSt:=[⟨[(1004200,.junk),(0,.str),(5,.nils 3),(6,.int .i64),(7,.int .i64)],[],0,0⟩,⟨[(1004200,.junk),(0,.str),(5,.own 0 0),(6,.int .i64),(7,.int .i64)],[(0,.arr 3 false)],1,0⟩]
def q5q(x0:List UInt8)(x1 x2:Int):X×St:=(.ret,
 ⟨[(2,.nils ⟨3,.nil⟩),(3,.int .i64 x1),(4,.int .i64 (gv (qds x0 x2)).2.2.2),(5,.nils ⟨3,.nil⟩)],[],0,0⟩)
def q5r(x0:List UInt8)(x1 x2:Int):X×St:=(.exit 0,⟨[(2,.junk),(3,.junk),(4,.junk),(5,.nils ⟨3,.nil⟩)],[],0,0⟩)
def q5s(x0:List UInt8)(x1 x2:Int)(x3:List AV):X×St:=(.ret,
 ⟨[(2,.nils ⟨3,.nil⟩),(3,.int .i64 x1),(4,.int .i64 (gv (qds x0 x2)).2.2.2),(5,.own 0 0 none)],[(0,.arr 3 x3 false)],1,0⟩)
def q5t(x0:List UInt8)(x1 x2:Int)(x3:List AV):X×St:=(.exit 0,⟨[(2,.junk),(3,.junk),(4,.junk),(5,.own 0 0 none)],[(0,.arr 3 x3 false)],1,0⟩)
def zlQ:List (qep->X×St):=[fun w=>(k3 q5q) ((sl w)),fun w=>(k3 q5r) ((sl w)),fun w=>(k4 q5s) ((sr w)),fun w=>(k4 q5t) ((sr w))]
def qee(x0:List UInt8)(x1 x2:Int):DT (Rd qep):=
 .br (decide (x2<(x0.length:Int)))
 (.br (inB x0.length x2)
 (.br (qal x0 x2==10)
 (.at (.next ((.inl (x0,IntKind.i64.wrap (x1+1),IntKind.i64.wrap (x2+1))))))
 (.br (qal x0 x2==32)
 (.br (qal x0 x2==32)
 (.at (.next ((.inl (x0,x1,IntKind.i64.wrap (x2+1))))))
 (.br (qal x0 x2==35)
 (.bi (pj 0 (qiU (Sum.inl (x0,x1,x2)))) (fun y0=>
 .at (.next ((.inl ((sl y0))))))
 (.bi (pj 1 (qiU (Sum.inl (x0,x1,x2)))) (fun y0=>
 .at (.next ((.inr ((sr y0))))))
 (.no)))
 (.bi (qds x0 x2) (fun y0=>
 .br (y0.2.2.2 != 0)
 (.at (.done 0))
 (.at (.next ((.inr (x0,x1,IntKind.i64.wrap (x2+(y0.2.2.1.length:Int)),[AV.agg [.int .i64 y0.1,.int .i64 x1,AV.str y0.2.2.1]]))))))
 (.no))))
 (.br (qal x0 x2==9)
 (.at (.next ((.inl (x0,x1,IntKind.i64.wrap (x2+1))))))
 (.br (qal x0 x2==35)
 (.bi (pj 0 (qiU (Sum.inl (x0,x1,x2)))) (fun y0=>
 .at (.next ((.inl ((sl y0))))))
 (.bi (pj 1 (qiU (Sum.inl (x0,x1,x2)))) (fun y0=>
 .at (.next ((.inr ((sr y0))))))
 (.no)))
 (.bi (qds x0 x2) (fun y0=>
 .br (y0.2.2.2 != 0)
 (.at (.done 0))
 (.at (.next ((.inr (x0,x1,IntKind.i64.wrap (x2+(y0.2.2.1.length:Int)),[AV.agg [.int .i64 y0.1,.int .i64 x1,AV.str y0.2.2.1]]))))))
 (.no))))))
 (.no))
 (.at (.done 1))
def qef(x0:List UInt8)(x1 x2:Int)(x3:List AV):DT (Rd qep):=
 .br (decide (x2<(x0.length:Int)))
 (.br (inB x0.length x2)
 (.br (qal x0 x2==10)
 (.at (.next ((.inr (x0,IntKind.i64.wrap (x1+1),IntKind.i64.wrap (x2+1),x3)))))
 (.br (qal x0 x2==32)
 (.br (qal x0 x2==32)
 (.at (.next ((.inr (x0,x1,IntKind.i64.wrap (x2+1),x3)))))
 (.br (qal x0 x2==35)
 (.bi (pj 0 (qiU (Sum.inr (x0,x1,x2,x3)))) (fun y0=>
 .at (.next ((.inl ((sl y0))))))
 (.bi (pj 1 (qiU (Sum.inr (x0,x1,x2,x3)))) (fun y0=>
 .at (.next ((.inr ((sr y0))))))
 (.no)))
 (.bi (qds x0 x2) (fun y0=>
 .br (y0.2.2.2 != 0)
 (.at (.done 2))
 (.br (room (x3.length+1) 32)
 (.at (.next ((.inr (x0,x1,IntKind.i64.wrap (x2+(y0.2.2.1.length:Int)),x3++[AV.agg [.int .i64 y0.1,.int .i64 x1,AV.str y0.2.2.1]])))))
 (.no)))
 (.no))))
 (.br (qal x0 x2==9)
 (.at (.next ((.inr (x0,x1,IntKind.i64.wrap (x2+1),x3)))))
 (.br (qal x0 x2==35)
 (.bi (pj 0 (qiU (Sum.inr (x0,x1,x2,x3)))) (fun y0=>
 .at (.next ((.inl ((sl y0))))))
 (.bi (pj 1 (qiU (Sum.inr (x0,x1,x2,x3)))) (fun y0=>
 .at (.next ((.inr ((sr y0))))))
 (.no)))
 (.bi (qds x0 x2) (fun y0=>
 .br (y0.2.2.2 != 0)
 (.at (.done 2))
 (.br (room (x3.length+1) 32)
 (.at (.next ((.inr (x0,x1,IntKind.i64.wrap (x2+(y0.2.2.1.length:Int)),x3++[AV.agg [.int .i64 y0.1,.int .i64 x1,AV.str y0.2.2.1]])))))
 (.no)))
 (.no))))))
 (.no))
 (.at (.done 3))
def qcc:qep->DT (Rd qep):=(Sum.elim (fun v=>qee v.1 v.2.1 v.2.2) (fun v=>qef v.1 v.2.1 v.2.2.1 v.2.2.2))
def qoX(v:qep):=lo qcc v
theorem qs5(v):qoX v=qae (fun v=>(qcc v).ev) v:=qaa _
def qUz:qbJ:=LE (τ:=qep) (hD qTE) (qoX) zlQ
theorem zk5:Go.Eng.Told IP (qad F42 0).1 (qad F42 0).2 (qUz):=qas (inferInstance:Inhabited qep) (hs:=qTE) (st:=qcc) (L:=[(1004201,qUA)]) zrF.ok (qac (l:=[qad F42 1]) (by kernel_rfl) ⟨qar (by kernel_rfl) zk6,trivial⟩) (qs5) (fun v=>match v with|(.inl v)=>by kernel_rfl|(.inr v)=>by kernel_rfl) (fun v=>match v with|(.inl v)=>by kernel_rfl|(.inr v)=>by kernel_rfl)
abbrev qC6:Type:=List AV×Int×Int
def qpZ(x0:List UInt8):DT qC6:=
 .br (decide ((x0.length:Int)>2048))
 (.at (([],0,5)))
 (.bi (pj 0 (qoX (Sum.inl (x0,1,0)))) (fun y0=>
 .at (([],(sl y0).2.1,(gv (qds (sl y0).1 (sl y0).2.2)).2.2.2)))
 (.bi (pj 1 (qoX (Sum.inl (x0,1,0)))) (fun y0=>
 .at (([],0,0)))
 (.bi (pj 2 (qoX (Sum.inl (x0,1,0)))) (fun y0=>
 .at (([],(sr y0).2.1,(gv (qds (sr y0).1 (sr y0).2.2.1)).2.2.2)))
 (.bi (pj 3 (qoX (Sum.inl (x0,1,0)))) (fun y0=>
 .at (((sr y0).2.2.2,0,0)))
 (.no)))))
def qno(x0:List UInt8):=qaC (qpZ x0).ev
theorem qLn(x0):qno x0=(qpZ x0).ev:=qaa _
theorem zba:FH IP 42 ⟨[.str],[]⟩ [⟨false,.tup [.view 3,.int .i64,.int .i64],[]⟩] qno:=qag (F:=F42) (L:=[(1004200,qUz)]) (t:=qpZ) zrF.ok (qac (l:=[qad F42 0,qad F42 1]) (by kernel_rfl) ⟨qar (by kernel_rfl) zk5,qKq (by kernel_rfl),trivial⟩) (by kernel_rfl) (fun v=>by kernel_rfl) (fun _=>qaa _)
def zrG:=zrF.a zba
end
end Go.Proofs.H16

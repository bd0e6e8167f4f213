/- Functions over plain data. Printed by a program of mine. -/
import Derived.Test.YtjhhnkemeegahaaGreatDoorE3
import Derived.Test.YtjhhnkemeegahaaGreatDoorIP16a
import Derived.KernelRfl
import Derived.Test.YtjhhnkemeegahaaGreatDoorSpA
set_option linter.all false
namespace Go.Proofs.H16a
open Go Go.Eng
set_option maxRecDepth 100000
noncomputable section
abbrev k2{a b r:Type}(F:a->b->r)(v:a×b):r:=F v.1 v.2
abbrev k3{a b c r:Type}(F:a->b->c->r)(v:a×b×c):r:=k2 (F v.1) v.2
abbrev k4{a b c d r:Type}(F:a->b->c->d->r)(v:a×b×c×d):r:=k3 (F v.1) v.2
abbrev k5{a b c d e r:Type}(F:a->b->c->d->e->r)(v:a×b×c×d×e):r:=k4 (F v.1) v.2
def T0:Tab:=[(62,qhD)]
theorem qRW:qan IP T0:=⟨zsx,trivial⟩
abbrev qsn:Type:=List AV
def quN:PArgs:=⟨[],[]⟩
def qvf:List PRes:=[⟨false,.view 1,[]⟩]
def qfV:DT qsn:=
 .at ([AV.str ([]++[112]++[114]++[111]++[100]++[117]++[99]++[116]),AV.str ([]++[99]++[117]++[114]++[114]++[101]++[110]++[99]++[121]),
 AV.str ([]++[99]++[97]++[108]++[101]++[110]++[100]++[97]++[114]),AV.str ([]++[102]++[114]++[111]++[109]),
 AV.str ([]++[101]++[118]++[101]++[114]++[121]),AV.str ([]++[111]++[118]++[101]++[114]++[100]++[114]++[97]++[102]++[116]),
 AV.str ([]++[116]++[97]++[120]),AV.str ([]++[99]++[114]++[101]++[100]++[105]++[116]),AV.str ([]++[100]++[101]++[98]++[105]++[116]),
 AV.str ([]++[109]++[97]++[114]++[103]++[105]++[110]++[97]++[108]),AV.str ([]++[119]++[104]++[111]++[108]++[101]),
 AV.str ([]++[97]++[99]++[116]++[51]++[54]++[48]),AV.str ([]++[97]++[99]++[116]++[51]++[54]++[53]),
 AV.str ([]++[97]++[99]++[116]++[117]++[97]++[108]),AV.str ([]++[116]++[104]++[105]++[114]++[116]++[121]),
 AV.str ([]++[100]++[111]++[119]++[110]),AV.str ([]++[117]++[112]),AV.str ([]++[102]++[108]++[111]++[111]++[114]),
 AV.str ([]++[99]++[101]++[105]++[108]),AV.str ([]++[104]++[97]++[108]++[102]++[95]++[117]++[112]),
 AV.str ([]++[104]++[97]++[108]++[102]++[95]++[101]++[118]++[101]++[110]),AV.str ([]++[107]++[101]++[101]++[112]),
 AV.str ([]++[100]++[114]++[111]++[112]),AV.str ([]++[102]++[101]++[101]),AV.str ([]++[108]++[105]++[109]++[105]++[116]),
 AV.str ([]++[119]++[104]++[101]++[110]),AV.str ([]++[97]++[109]++[111]++[117]++[110]++[116]++[95]++[111]++[102]),
 AV.str ([]++[115]++[105]++[110]++[103]++[108]++[101]),AV.str ([]++[100]++[97]++[105]++[108]++[121]),
 AV.str ([]++[109]++[111]++[110]++[116]++[104]++[108]++[121]),AV.str ([]++[109]++[111]++[110]++[116]++[104]),
 AV.str ([]++[114]++[101]++[116]++[117]++[114]++[110]),AV.str ([]++[99]++[108]++[111]++[115]++[101]),
 AV.str ([]++[101]++[118]++[101]++[110]++[116]),AV.str ([]++[105]++[102]),AV.str ([]++[116]++[104]++[101]++[110]),
 AV.str ([]++[101]++[108]++[115]++[101]),AV.str ([]++[97]++[110]++[100]),AV.str ([]++[111]++[114]),AV.str ([]++[110]++[111]++[116]),
 AV.str ([]++[109]++[105]++[110]),AV.str ([]++[109]++[97]++[120])])
def qgr:Option qsn:=qaz (qfV).ev
theorem qoh:qgr=(qfV).ev:=qaa _
theorem qF3:FH IP 126 quN qvf (fun _=>qgr):=qah (F:=zbY) (L:=[]) (t:=(fun _=>qfV)) qRW (qac (l:=[]) (by kernel_rfl) trivial) (by kernel_rfl) (fun v=>by kernel_rfl) (fun _=>qaa _)
def T1:Tab:=(126,FE quN qvf (fun _=>qgr))::T0
theorem qME:qan IP T1:=⟨qam qF3,qRW⟩
abbrev qcp:Type:=List AV×List UInt8×Int×Int
def qtZ:List PSt:=[⟨[(1018600,.junk),(0,.view 1),(1,.str),(7,.int .i64),(8,.int .i64)],[],0,0⟩]
def qCe(x0:List AV)(x1:List UInt8)(x2 x3:Int):X×St:=(.ret,⟨[(4,.int .i64 x3)],[],0,0⟩)
def qCf(x0:List AV)(x1:List UInt8)(x2 x3:Int):X×St:=(.exit 0,⟨[(4,.junk)],[],0,0⟩)
def q2F:List (qcp->X×St):=[(k4 qCe),(k4 qCf)]
def qgN(x0:List AV)(x1:List UInt8)(x2 x3:Int):DT (Rd qcp):=
 .br (decide (x3<x2))
 (.br (qaH [.str] x0 x3)
 (.br (x1==strOf (cellAt x0 x3 0)) (.at (.done 0)) (.at (.next ((x0,x1,x2,IntKind.i64.wrap (x3+1))))))
 (.no))
 (.at (.done 1))
def qgM:qcp->DT (Rd qcp):=(fun v=>qgN v.1 v.2.1 v.2.2.1 v.2.2.2)
def qj2(v:qcp):Option (Nat×qcp):=qaz (qaf (fun v=>(qgM v).ev) v)
theorem qj3(v):qj2 v=qaf (fun v=>(qgM v).ev) v:=qaa _
def qur:qbQ:=LE (τ:=qcp) (hD qtZ) (qj2) q2F
theorem q1P:Go.Eng.Told IP (qad qMA 0).1 (qad qMA 0).2 (qur):=lp (inferInstance:Inhabited qcp) (hs:=qtZ) qgM qME qj3
abbrev qCk:Type:=Int
def qDU:PArgs:=⟨[.view 1,.str],[]⟩
def qD9:List PRes:=[⟨false,.int .i64,[]⟩]
def qji(x0:List AV)(x1:List UInt8):DT qCk:=
 .bi (pj 0 (qj2 (x0,x1,(x0.length:Int),0))) (fun y0=>
 .at (y0.2.2.2))
 (.bi (pj 1 (qj2 (x0,x1,(x0.length:Int),0))) (fun y0=>
 .at (-1))
 (.no))
def qmV(x0:List AV)(x1:List UInt8):Option qCk:=qaz (qji x0 x1).ev
theorem qs3(x0 x1):qmV x0 x1=(qji x0 x1).ev:=qaa _
theorem qTB:FH IP 186 qDU qD9 (k2 qmV):=qah (F:=qMA) (L:=[(1018600,qur)]) (t:=(k2 qji)) qME (qac (l:=[qad qMA 0]) (by kernel_rfl) ⟨qau (by kernel_rfl) q1P,trivial⟩) (by kernel_rfl) (fun v=>by kernel_rfl) (fun _=>qaa _)
def T2:Tab:=(186,FE qDU qD9 (k2 qmV))::T1
theorem qFV:qan IP T2:=⟨qam qTB,qME⟩
abbrev qRR:Type:=Bool
def qY3:PArgs:=⟨[.view 1,.str],[]⟩
def q1n:List PRes:=[⟨false,.bool,[]⟩]
def qnT(x0:List AV)(x1:List UInt8):DT qRR:=
 .bi (qmV x0 x1) (fun y0=>
 .at (decide (y0>=0)))
 (.no)
def qtK(x0:List AV)(x1:List UInt8):Option qRR:=qaz (qnT x0 x1).ev
theorem qzx(x0 x1):qtK x0 x1=(qnT x0 x1).ev:=qaa _
theorem zey:FH IP 125 qY3 q1n (k2 qtK):=fh zbX (k2 qnT) qFV
def T3:Tab:=(125,FE qY3 q1n (k2 qtK))::T2
theorem qS3:qan IP T3:=⟨qam zey,qFV⟩
abbrev qso:Type:=Bool
def quS:PArgs:=⟨[.str],[]⟩
def qvk:List PRes:=[⟨false,.bool,[]⟩]
def qfW(x0:List UInt8):DT qso:=
 .bi (qgr) (fun y0=>
 .bi (qtK y0 x0) (fun y1=>
 .at (y1))
 (.no))
 (.no)
def qbS(x0:List UInt8):Option qso:=qaz (qfW x0).ev
theorem qoj(x0):qbS x0=(qfW x0).ev:=qaa _
theorem qF4:FH IP 65 quS qvk qbS:=fh F65 qfW qS3
def T4:Tab:=(65,FE quS qvk qbS)::T3
theorem qS7:qan IP T4:=⟨qam qF4,qS3⟩
abbrev qCl:Type:=Int×List AV
def qDY:PArgs:=⟨[.ref 0 0 0,.int .i64,.str],[(0,.box [.nils 3,.int .i64] false)]⟩
def qEd:List PRes:=[⟨false,.tup [],[(0,.box [.own 1 0,.int .i64] false),(1,.arr 3 false)]⟩]
def qjk(x0:Int)(x1:List UInt8)(x2:Int):DT qCl:=
 .at ((x2,[AV.agg [.int .i64 x0,.int .i64 x2,AV.str x1]]))
def qdX(x0:Int)(x1:List UInt8)(x2:Int):Option qCl:=qaz (qjk x0 x1 x2).ev
theorem qtH(x0 x1 x2):qdX x0 x1 x2=(qjk x0 x1 x2).ev:=qaa _
theorem qTD:FH IP 64 qDY qEd (k3 qdX):=fh F64 (k3 qjk) qS7
def T5:Tab:=(64,FE qDY qEd (k3 qdX))::T4
theorem qMF:qan IP T5:=⟨qam qTD,qS7⟩
abbrev q7C:Type:=Int×List AV
def zag:PArgs:=⟨[.ref 0 0 0,.int .i64,.str],[(0,.box [.own 1 0,.int .i64] false),(1,.arr 3 false)]⟩
def za8:List PRes:=[⟨false,.tup [],[(0,.box [.own 2 0,.int .i64] false),(2,.arr 3 false)]⟩]
def qBB(x0:Int)(x1:List UInt8)(x2:Int)(x3:List AV):DT q7C:=
 .br (room (x3.length+1) 32) (.at ((x2,x3++[AV.agg [.int .i64 x0,.int .i64 x2,AV.str x1]]))) (.no)
def qeX(x0:Int)(x1:List UInt8)(x2:Int)(x3:List AV):Option q7C:=qaz (qBB x0 x1 x2 x3).ev
theorem qUB(x0 x1 x2 x3):qeX x0 x1 x2 x3=(qBB x0 x1 x2 x3).ev:=qaa _
theorem zj3:FH IP 64 zag za8 (k4 qeX):=fh F64 (k4 qBB) qMF
def T6:Tab:=(64,FE zag za8 (k4 qeX))::T5
theorem qFW:qan IP T6:=⟨qam zj3,qMF⟩
abbrev qiz:Type:=(List AV×Int×Int×Int)⊕(List AV×Int×Int×Int×List AV)
def qVv:List PSt:=[⟨[(1002200,.junk),(0,.ref 0 0 0),(6,.view 1),(7,.int .i64),(8,.int .i64)],[(0,.box [.nils 3,.int .i64] false)],1,1⟩,⟨[(1002200,.junk),(0,.ref 0 0 0),(6,.view 1),(7,.int .i64),(8,.int .i64)],[(0,.box [.own 1 0,.int .i64] false),(1,.arr 3 false)],2,1⟩]
def q6M(x0:List AV)(x1 x2 x3:Int):X×St:=(.exit 0,⟨[],[(0,.box [.nils ⟨3,.nil⟩,.int .i64 x3] false)],1,1⟩)
def q6N(x0:List AV)(x1 x2 x3:Int)(x4:List AV):X×St:=(.exit 0,⟨[],[(0,.box [.own 1 0 none,.int .i64 x3] false),(1,.arr 3 x4 false)],2,1⟩)
def znd:List (qiz->X×St):=[fun w=>(k4 q6M) ((sl w)),fun w=>(k5 q6N) ((sr w))]
def qvN(x0:List AV)(x1 x2 x3:Int):DT (Rd qiz):=
 .br (decide (x2<x1))
 (.br (qaH [.str] x0 x2)
 (.bi (qbS (strOf (cellAt x0 x2 0))) (fun y0=>
 .br (y0)
 (.bi (qdX 5 (strOf (cellAt x0 x2 0)) x3) (fun y1=>
 .at (.next ((.inr (x0,x1,IntKind.i64.wrap (x2+1),y1)))))
 (.no))
 (.br (inB (strOf (cellAt x0 x2 0)).length 0)
 (.bi (br (decide (qak (strOf (cellAt x0 x2 0)) 0>=97)) (br (inB (strOf (cellAt x0 x2 0)).length 0) (some (decide (qak (strOf (cellAt x0 x2 0)) 0<=122))) none) (some false)) (fun y1=>
 .br (y1)
 (.bi (qdX 1 (strOf (cellAt x0 x2 0)) x3) (fun y2=>
 .at (.next ((.inr (x0,x1,IntKind.i64.wrap (x2+1),y2)))))
 (.no))
 (.bi (qdX 4 (strOf (cellAt x0 x2 0)) x3) (fun y2=>
 .at (.next ((.inr (x0,x1,IntKind.i64.wrap (x2+1),y2)))))
 (.no)))
 (.no))
 (.no)))
 (.no))
 (.no))
 (.at (.done 0))
def qkw(x0:List AV)(x1 x2 x3:Int)(x4:List AV):DT (Rd qiz):=
 .br (decide (x2<x1))
 (.br (qaH [.str] x0 x2)
 (.bi (qbS (strOf (cellAt x0 x2 0))) (fun y0=>
 .br (y0)
 (.bi (qeX 5 (strOf (cellAt x0 x2 0)) x3 x4) (fun y1=>
 .at (.next ((.inr (x0,x1,IntKind.i64.wrap (x2+1),y1)))))
 (.no))
 (.br (inB (strOf (cellAt x0 x2 0)).length 0)
 (.bi (br (decide (qak (strOf (cellAt x0 x2 0)) 0>=97)) (br (inB (strOf (cellAt x0 x2 0)).length 0) (some (decide (qak (strOf (cellAt x0 x2 0)) 0<=122))) none) (some false)) (fun y1=>
 .br (y1)
 (.bi (qeX 1 (strOf (cellAt x0 x2 0)) x3 x4) (fun y2=>
 .at (.next ((.inr (x0,x1,IntKind.i64.wrap (x2+1),y2)))))
 (.no))
 (.bi (qeX 4 (strOf (cellAt x0 x2 0)) x3 x4) (fun y2=>
 .at (.next ((.inr (x0,x1,IntKind.i64.wrap (x2+1),y2)))))
 (.no)))
 (.no))
 (.no)))
 (.no))
 (.no))
 (.at (.done 1))
def qvM:qiz->DT (Rd qiz):=(Sum.elim (fun v=>qvN v.1 v.2.1 v.2.2.1 v.2.2.2) (fun v=>qkw v.1 v.2.1 v.2.2.1 v.2.2.2.1 v.f))
def qKy(v:qiz):Option (Nat×qiz):=qaz (qaf (fun v=>(qvM v).ev) v)
theorem qDh(v):qKy v=qaf (fun v=>(qvM v).ev) v:=qaa _
def qWa:qbQ:=LE (τ:=qiz) (hD qVv) (qKy) znd
theorem zmu:Go.Eng.Told IP (qad F22 0).1 (qad F22 0).2 (qWa):=qav (inferInstance:Inhabited qiz) (hs:=qVv) (st:=qvM) (L:=[]) qFW (qac (l:=[]) (by kernel_rfl) trivial) (qDh) (fun v=>match v with|(.inl v)=>by kernel_rfl|(.inr v)=>by kernel_rfl) (fun v=>match v with|(.inl v)=>by kernel_rfl|(.inr v)=>by kernel_rfl)
abbrev q7M:Type:=(Int)⊕(Int×List AV)
def zat:PArgs:=⟨[.ref 0 0 0,.view 1],[(0,.box [.nils 3,.int .i64] false)]⟩
def zbl:List PRes:=[⟨false,.tup [],[(0,.box [.nils 3,.int .i64] false)]⟩,⟨false,.tup [],[(0,.box [.own 1 0,.int .i64] false),(1,.arr 3 false)]⟩]
def qBL(x0:List AV)(x1:Int):DT q7M:=
 .bi (pj 0 (qKy (Sum.inl (x0,(x0.length:Int),0,x1)))) (fun y0=>
 .at ((.inl ((sl y0).2.2.2))))
 (.bi (pj 1 (qKy (Sum.inl (x0,(x0.length:Int),0,x1)))) (fun y0=>
 .at ((.inr ((sr y0).2.2.2))))
 (.no))
def qJk(x0:List AV)(x1:Int):Option q7M:=qaz (qBL x0 x1).ev
theorem qUM(x0 x1):qJk x0 x1=(qBL x0 x1).ev:=qaa _
theorem q9h:FH IP 22 zat zbl (k2 qJk):=qah (F:=F22) (L:=[(1002200,qWa)]) (t:=(k2 qBL)) qFW (qac (l:=[qad F22 0]) (by kernel_rfl) ⟨qau (by kernel_rfl) zmu,trivial⟩) (by kernel_rfl) (fun v=>by kernel_rfl) (fun _=>qaa _)
def T7:Tab:=(22,FE zat zbl (k2 qJk))::T6
theorem qMG:qan IP T7:=⟨qam q9h,qFW⟩
abbrev qiw:Type:=(List AV×Int×Int×Int×List AV)⊕(List AV×Int×Int×Int×List AV)
def qVs:List PSt:=[⟨[(1002200,.junk),(0,.ref 0 0 0),(6,.view 1),(7,.int .i64),(8,.int .i64)],[(0,.box [.own 1 0,.int .i64] false),(1,.arr 3 false)],2,2⟩,⟨[(1002200,.junk),(0,.ref 0 0 0),(6,.view 1),(7,.int .i64),(8,.int .i64)],[(0,.box [.own 2 0,.int .i64] false),(2,.arr 3 false)],3,2⟩]
def q6H(x0:List AV)(x1 x2 x3:Int)(x4:List AV):X×St:=(.exit 0,⟨[],[(0,.box [.own 1 0 none,.int .i64 x3] false),(1,.arr 3 x4 false)],2,2⟩)
def q6I(x0:List AV)(x1 x2 x3:Int)(x4:List AV):X×St:=(.exit 0,⟨[],[(0,.box [.own 2 0 none,.int .i64 x3] false),(2,.arr 3 x4 false)],3,2⟩)
def zna:List (qiw->X×St):=[fun w=>(k5 q6H) ((sl w)),fun w=>(k5 q6I) ((sr w))]
def qvK(x0:List AV)(x1 x2 x3:Int)(x4:List AV):DT (Rd qiw):=
 .br (decide (x2<x1))
 (.br (qaH [.str] x0 x2)
 (.bi (qbS (strOf (cellAt x0 x2 0))) (fun y0=>
 .br (y0)
 (.bi (qeX 5 (strOf (cellAt x0 x2 0)) x3 x4) (fun y1=>
 .at (.next ((.inr (x0,x1,IntKind.i64.wrap (x2+1),y1)))))
 (.no))
 (.br (inB (strOf (cellAt x0 x2 0)).length 0)
 (.bi (br (decide (qak (strOf (cellAt x0 x2 0)) 0>=97)) (br (inB (strOf (cellAt x0 x2 0)).length 0) (some (decide (qak (strOf (cellAt x0 x2 0)) 0<=122))) none) (some false)) (fun y1=>
 .br (y1)
 (.bi (qeX 1 (strOf (cellAt x0 x2 0)) x3 x4) (fun y2=>
 .at (.next ((.inr (x0,x1,IntKind.i64.wrap (x2+1),y2)))))
 (.no))
 (.bi (qeX 4 (strOf (cellAt x0 x2 0)) x3 x4) (fun y2=>
 .at (.next ((.inr (x0,x1,IntKind.i64.wrap (x2+1),y2)))))
 (.no)))
 (.no))
 (.no)))
 (.no))
 (.no))
 (.at (.done 0))
def qkt(x0:List AV)(x1 x2 x3:Int)(x4:List AV):DT (Rd qiw):=
 .br (decide (x2<x1))
 (.br (qaH [.str] x0 x2)
 (.bi (qbS (strOf (cellAt x0 x2 0))) (fun y0=>
 .br (y0)
 (.bi (qeX 5 (strOf (cellAt x0 x2 0)) x3 x4) (fun y1=>
 .at (.next ((.inr (x0,x1,IntKind.i64.wrap (x2+1),y1)))))
 (.no))
 (.br (inB (strOf (cellAt x0 x2 0)).length 0)
 (.bi (br (decide (qak (strOf (cellAt x0 x2 0)) 0>=97)) (br (inB (strOf (cellAt x0 x2 0)).length 0) (some (decide (qak (strOf (cellAt x0 x2 0)) 0<=122))) none) (some false)) (fun y1=>
 .br (y1)
 (.bi (qeX 1 (strOf (cellAt x0 x2 0)) x3 x4) (fun y2=>
 .at (.next ((.inr (x0,x1,IntKind.i64.wrap (x2+1),y2)))))
 (.no))
 (.bi (qeX 4 (strOf (cellAt x0 x2 0)) x3 x4) (fun y2=>
 .at (.next ((.inr (x0,x1,IntKind.i64.wrap (x2+1),y2)))))
 (.no)))
 (.no))
 (.no)))
 (.no))
 (.no))
 (.at (.done 1))
def qvJ:qiw->DT (Rd qiw):=(Sum.elim (fun v=>qvK v.1 v.2.1 v.2.2.1 v.2.2.2.1 v.f) (fun v=>qkt v.1 v.2.1 v.2.2.1 v.2.2.2.1 v.f))
def qKw(v:qiw):Option (Nat×qiw):=qaz (qaf (fun v=>(qvJ v).ev) v)
theorem qDd(v):qKw v=qaf (fun v=>(qvJ v).ev) v:=qaa _
def qV7:qbQ:=LE (τ:=qiw) (hD qVs) (qKw) zna
theorem zmr:Go.Eng.Told IP (qad F22 0).1 (qad F22 0).2 (qV7):=qav (inferInstance:Inhabited qiw) (hs:=qVs) (st:=qvJ) (L:=[]) qMG (qac (l:=[]) (by kernel_rfl) trivial) (qDd) (fun v=>match v with|(.inl v)=>by kernel_rfl|(.inr v)=>by kernel_rfl) (fun v=>match v with|(.inl v)=>by kernel_rfl|(.inr v)=>by kernel_rfl)
abbrev q7F:Type:=(Int×List AV)⊕(Int×List AV)
def zaj:PArgs:=⟨[.ref 0 0 0,.view 1],[(0,.box [.own 1 0,.int .i64] false),(1,.arr 3 false)]⟩
def zbb:List PRes:=[⟨false,.tup [],[(0,.box [.own 1 0,.int .i64] false),(1,.arr 3 false)]⟩,⟨false,.tup [],[(0,.box [.own 2 0,.int .i64] false),(2,.arr 3 false)]⟩]
def qBE(x0:List AV)(x1:Int)(x2:List AV):DT q7F:=
 .bi (pj 0 (qKw (Sum.inl (x0,(x0.length:Int),0,x1,x2)))) (fun y0=>
 .at ((.inl ((sl y0).2.2.2))))
 (.bi (pj 1 (qKw (Sum.inl (x0,(x0.length:Int),0,x1,x2)))) (fun y0=>
 .at ((.inr ((sr y0).2.2.2))))
 (.no))
def qJj(x0:List AV)(x1:Int)(x2:List AV):Option q7F:=qaz (qBE x0 x1 x2).ev
theorem qUE(x0 x1 x2):qJj x0 x1 x2=(qBE x0 x1 x2).ev:=qaa _
theorem q9g:FH IP 22 zaj zbb (k3 qJj):=qah (F:=F22) (L:=[(1002200,qV7)]) (t:=(k3 qBE)) qMG (qac (l:=[qad F22 0]) (by kernel_rfl) ⟨qau (by kernel_rfl) zmr,trivial⟩) (by kernel_rfl) (fun v=>by kernel_rfl) (fun _=>qaa _)
def T8:Tab:=(22,FE zaj zbb (k3 qJj))::T7
theorem zb8:qan IP T8:=⟨qam q9g,qMG⟩
end
end Go.Proofs.H16a

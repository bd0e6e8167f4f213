/- Functions over plain data. Printed by a program of mine. -/
import Derived.Test.YtjhhnkemeegahaaGreatDoorE3
import Derived.Test.YtjhhnkemeegahaaGreatDoorIP16
import Derived.KernelRfl
import Derived.Test.YtjhhnkemeegahaaGreatDoorSpA
set_option linter.all false
namespace Go.Proofs.H16
open Go Go.Eng
set_option maxRecDepth 100000
noncomputable section
abbrev k2{a b r:Type}(F:a->b->r)(v:a×b):r:=F v.1 v.2
abbrev k3{a b c r:Type}(F:a->b->c->r)(v:a×b×c):r:=k2 (F v.1) v.2
abbrev k4{a b c d r:Type}(F:a->b->c->d->r)(v:a×b×c×d):r:=k3 (F v.1) v.2
abbrev k5{a b c d e r:Type}(F:a->b->c->d->e->r)(v:a×b×c×d×e):r:=k4 (F v.1) v.2
abbrev k6{a b c d e f r:Type}(F:a->b->c->d->e->f->r)(v:a×b×c×d×e×f):r:=k5 (F v.1) v.2
abbrev k7{a b c d e f g r:Type}(F:a->b->c->d->e->f->g->r)(v:a×b×c×d×e×f×g):r:=k6 (F v.1) v.2
abbrev k8{a b c d e f g h r:Type}(F:a->b->c->d->e->f->g->h->r)(v:a×b×c×d×e×f×g×h):r:=k7 (F v.1) v.2
abbrev k9{a b c d e f g h i r:Type}(F:a->b->c->d->e->f->g->h->i->r)(v:a×b×c×d×e×f×g×h×i):r:=k8 (F v.1) v.2
abbrev k10{a b c d e f g h i j r:Type}(F:a->b->c->d->e->f->g->h->i->j->r)(v:a×b×c×d×e×f×g×h×i×j):r:=k9 (F v.1) v.2
abbrev k11{a b c d e f g h i j k r:Type}(F:a->b->c->d->e->f->g->h->i->j->k->r)(v:a×b×c×d×e×f×g×h×i×j×k):r:=k10 (F v.1) v.2
abbrev k12{a b c d e f g h i j k l r:Type}(F:a->b->c->d->e->f->g->h->i->j->k->l->r)(v:a×b×c×d×e×f×g×h×i×j×k×l):r:=k11 (F v.1) v.2
abbrev k13{a b c d e f g h i j k l m r:Type}(F:a->b->c->d->e->f->g->h->i->j->k->l->m->r)(v:a×b×c×d×e×f×g×h×i×j×k×l×m):r:=k12 (F v.1) v.2
abbrev k14{a b c d e f g h i j k l m n r:Type}(F:a->b->c->d->e->f->g->h->i->j->k->l->m->n->r)(v:a×b×c×d×e×f×g×h×i×j×k×l×m×n):r:=k13 (F v.1) v.2
abbrev k19{a b c d e f g h i j k l m n o p q s t r:Type}(F:a->b->c->d->e->f->g->h->i->j->k->l->m->n->o->p->q->s->t->r)(v:a×b×c×d×e×f×g×h×i×j×k×l×m×n×o×p×q×s×t):r:=k14 (F v.1 v.2.1 v.2.2.1 v.2.2.2.1 v.f.1) v.f.2
abbrev k20{a b c d e f g h i j k l m n o p q s t u r:Type}(F:a->b->c->d->e->f->g->h->i->j->k->l->m->n->o->p->q->s->t->u->r)(v:a×b×c×d×e×f×g×h×i×j×k×l×m×n×o×p×q×s×t×u):r:=k19 (F v.1) v.2
abbrev k22{a b c d e f g h i j k l m n o p q s t u w a' r:Type}(F:a->b->c->d->e->f->g->h->i->j->k->l->m->n->o->p->q->s->t->u->w->a'->r)(v:a×b×c×d×e×f×g×h×i×j×k×l×m×n×o×p×q×s×t×u×w×a'):r:=k20 (F v.1 v.2.1) v.2.2
abbrev k24{a b c d e f g h i j k l m n o p q s t u w a' b' c' r:Type}(F:a->b->c->d->e->f->g->h->i->j->k->l->m->n->o->p->q->s->t->u->w->a'->b'->c'->r)(v:a×b×c×d×e×f×g×h×i×j×k×l×m×n×o×p×q×s×t×u×w×a'×b'×c'):r:=k22 (F v.1 v.2.1) v.2.2
def T0:Tab:=[(87,qtH),(62,qhP),(227,zgs),(201,qqF 240),(155,qDi 240),(120,quY),(178,qxf),(112,zgK),(152,qGZ),(153,upE),(40,qmi 3 32),(24,zgv),(157,zbM),(22,Go.Tk.putE)]
theorem qSO:qao IP T0:=⟨zxc,zs7,zs6,zs5,zs2,zsZ,zs4,zsY,zs0,zs1,zxb,zxa,zs3,zw9,trivial⟩
abbrev qF6:Type:=Int
def qvR:PArgs:=⟨[.agg [.int .i64,.int .i64,.str,.view 4],.int .i64],[]⟩
def qwi:List PRes:=[⟨false,.int .i64,[]⟩]
abbrev qdJ:Type:=Int->Int->(List UInt8)->(List AV)->Int->Option qF6
def qzW(G_u251q:qdJ):Prop:=FH IP 49 qvR qwi (k5 G_u251q)
def q5m(G_u251q:qdJ):Tab:=(49,FE qvR qwi (k5 G_u251q))::T0
theorem qtv(G_u251q:qdJ)(hG:qzW G_u251q):qao IP (q5m G_u251q):=⟨qam (hG),qSO⟩
abbrev qfC:Type:=Int×Int×Int×Int×Int×List UInt8×List AV
def qKQ:List PSt:=[⟨[(1004900,.junk),(1,.int .i64),(2,.ref 0 0 0),(5,.int .i64),(6,.int .i64)],[(0,.box [.int .i64,.int .i64,.str,.view 4] false)],1,0⟩]
def q4g(x0 x1:Int)(x2 x3 x4:Int)(x5:List UInt8)(x6:List AV):X×St:=(.exit 0,⟨[(5,.int .i64 x1)],[],0,0⟩)
def zi6:List (qfC->X×St):=[(k7 q4g)]
def qlI(G_u251q:qdJ)(x0 x1:Int)(x2 x3 x4:Int)(x5:List UInt8)(x6:List AV):DT (Rd qfC):=
 .bi (br (decide (x2<(x6.length:Int))) (some (decide (x1<=x0))) (some false)) (fun y0=>
 .br (y0)
 (.br (qaD [.int .i64,.int .i64,.str,.slice 4] x6 x2)
 (.bi (G_u251q (intOf (cellAt x6 x2 0)) (intOf (cellAt x6 x2 1)) (strOf (cellAt x6 x2 2)) (qap (cellAt x6 x2 3)) (IntKind.i64.wrap (x0-x1))) (fun y1=>
 .at (.next ((x0,IntKind.i64.wrap (x1+y1),IntKind.i64.wrap (x2+1),x3,x4,x5,x6))))
 (.no))
 (.no))
 (.at (.done 0)))
 (.no)
def qjv(G_u251q:qdJ):qfC->DT (Rd qfC):=(fun v=>qlI G_u251q v.1 v.2.1 v.2.2.1 v.2.2.2.1 v.f.1 v.f.2.1 v.f.2.2)
def qva(G_u251q:qdJ)(v:qfC):Option (Nat×qfC):=qax (qae (fun v=>(qjv G_u251q v).ev) v)
theorem qlh(G_u251q v):qva G_u251q v=qae (fun v=>(qjv G_u251q v).ev) v:=qaa _
def qL6(G_u251q:qdJ):qbS:=LE (τ:=qfC) (hD qKQ) (qva G_u251q) zi6
theorem zhX(G_u251q:qdJ)(hG:qzW G_u251q):Go.Eng.Told IP (qad F49 0).1 (qad F49 0).2 (qL6 G_u251q):=qat (inferInstance:Inhabited qfC) (hs:=qKQ) (st:=qjv G_u251q) (L:=[]) (qtv G_u251q hG) (qac (l:=[]) (by kernel_rfl) trivial) (qlh G_u251q) (fun v=>by kernel_rfl) (fun v=>by kernel_rfl)
def qCc(G_u251q:qdJ)(x0 x1:Int)(x2:List UInt8)(x3:List AV)(x4:Int):DT qF6:=
 .bi (pj 0 (qva G_u251q (x4,1,0,x0,x1,x2,x3))) (fun y0=>
 .at (y0.2.1))
 (.no)
def qea:Nat->qdJ
 |0=>fun _ _ _ _ _=>none
 |n+1=>fun x0 x1 x2 x3 x4=>(qCc ((qea n)) x0 x1 x2 x3 x4).ev
def qAz(x0 x1:Int)(x2:List UInt8)(x3:List AV)(x4:Int):Option qF6:=qjW fun n=>(qea n) x0 x1 x2 x3 x4
theorem qxI:∀n,qzW ((qea n))
 |0=>(fun v y h=>nomatch h)
 |n+1=>have hG:=qxI n
 qag (F:=F49) (L:=[(1004900,qL6 ((qea n)))]) (t:=(k5 (qCc ((qea n))))) (qtv ((qea n)) hG) (qac (l:=[qad F49 0]) (by kernel_rfl) ⟨qas (by kernel_rfl) (zhX ((qea n)) hG),trivial⟩) (by kernel_rfl) (fun v=>by kernel_rfl) (fun v=>rfl)
theorem zfc:FH IP 49 qvR qwi (k5 qAz):=qbM (p:=qvR) (rs:=qwi) (s:=fun n=>(k5 ((qea n)))) fun n=>(qxI n)
def T1:Tab:=(49,FE qvR qwi (k5 qAz))::T0
theorem qNw:qao IP T1:=⟨qam zfc,qSO⟩
abbrev qRO:Type:=Bool
def qY9:PArgs:=⟨[.agg [.int .i64,.int .i64,.str,.view 4],.int .i64],[]⟩
def q1v:List PRes:=[⟨false,.bool,[]⟩]
def qsB(x0 x1:Int)(x2:List UInt8)(x3:List AV)(x4:Int):DT qRO:=
 .bi (qAz x0 x1 x2 x3 x4) (fun y0=>
 .at (decide (y0>x4)))
 (.no)
def qe3(x0 x1:Int)(x2:List UInt8)(x3:List AV)(x4:Int):Option qRO:=qax (qsB x0 x1 x2 x3 x4).ev
theorem qO2(x0 x1 x2 x3 x4):qe3 x0 x1 x2 x3 x4=(qsB x0 x1 x2 x3 x4).ev:=qaa _
theorem ze9:FH IP 14 qY9 q1v (k5 qe3):=fh F14 (k5 qsB) qNw
def T2:Tab:=(14,FE qY9 q1v (k5 qe3))::T1
theorem qGN:qao IP T2:=⟨qam ze9,qNw⟩
abbrev qeD:Type:=Int×List UInt8×List UInt8×List UInt8×Int×Int×Int×Int×List AV×Bool×Int×Int×Bool×List AV×Bool×Int×Int×Bool×List AV×List AV
def qKT:List PSt:=[⟨[(1000700,.junk),(1,.ref 0 0 0),(3,.int .i64)],[(0,.box [.str,.str,.str,.int .i64,.int .i64,.int .i64,.int .i64,.view 2,.bool,.int .i64,.int .i64,.bool,.view 2,.bool,.int .i64,.int .i64,.bool,.view 10,.view 6] false)],1,0⟩]
def q4p(x0:Int)(x1 x2 x3:List UInt8)(x4 x5:Int)(x6 x7:Int)(x8:List AV)(x9:Bool)(x10 x11:Int)(x12:Bool)(x13:List AV)(x14:Bool)(x15 x16:Int)(x17:Bool)(x18 x19:List AV):X×St:=(.ret,
 ⟨[(1,.ref 0 0 0),(2,.bool true)],[(0,
 .box
 [.str x1,.str x2,.str x3,.int .i64 x4,.int .i64 x5,.int .i64 x6,.int .i64 x7,.view 2 x8,.bool x9,
 .int .i64 x10,.int .i64 x11,.bool x12,.view 2 x13,.bool x14,.int .i64 x15,.int .i64 x16,.bool x17,.view 10 x18,
 .view 6 x19]
 false)],1,0⟩)
def q4q(x0:Int)(x1 x2 x3:List UInt8)(x4 x5:Int)(x6 x7:Int)(x8:List AV)(x9:Bool)(x10 x11:Int)(x12:Bool)(x13:List AV)(x14:Bool)(x15 x16:Int)(x17:Bool)(x18 x19:List AV):X×St:=(.exit 0,
 ⟨[(1,.ref 0 0 0),(2,.junk)],[(0,
 .box
 [.str x1,.str x2,.str x3,.int .i64 x4,.int .i64 x5,.int .i64 x6,.int .i64 x7,.view 2 x8,.bool x9,
 .int .i64 x10,.int .i64 x11,.bool x12,.view 2 x13,.bool x14,.int .i64 x15,.int .i64 x16,.bool x17,.view 10 x18,
 .view 6 x19]
 false)],1,0⟩)
def zi9:List (qeD->X×St):=[(k20 q4p),(k20 q4q)]
def qpX(x0:Int)(x1 x2 x3:List UInt8)(x4 x5:Int)(x6 x7:Int)(x8:List AV)(x9:Bool)(x10 x11:Int)(x12:Bool)(x13:List AV)(x14:Bool)(x15 x16:Int)(x17:Bool)(x18 x19:List AV):DT (Rd qeD):=
 .br (decide (x0<(x18.length:Int)))
 (.br (qaD [.str,.int .i64,.int .i64,.int .i64,.str,.slice 4,.int .i64,.int .i64,.str,.slice 4] x18 x0)
 (.bi (br (decide (((strOf (cellAt x18 x0 0)).length:Int)>100)) (some true)
 (br (qaD [.str,.int .i64,.int .i64,.int .i64,.str,.slice 4,.int .i64,.int .i64,.str,.slice 4] x18 x0)
 (br (sm (qe3 (intOf (cellAt x18 x0 2)) (intOf (cellAt x18 x0 3)) (strOf (cellAt x18 x0 4)) (qap (cellAt x18 x0 5)) 100))
 (some (gv (qe3 (intOf (cellAt x18 x0 2)) (intOf (cellAt x18 x0 3)) (strOf (cellAt x18 x0 4)) (qap (cellAt x18 x0 5)) 100))) none)
 none)) (fun y0=>
 .bi (br y0 (some true)
 (br (qaD [.str,.int .i64,.int .i64,.int .i64,.str,.slice 4,.int .i64,.int .i64,.str,.slice 4] x18 x0)
 (br (sm (qe3 (intOf (cellAt x18 x0 6)) (intOf (cellAt x18 x0 7)) (strOf (cellAt x18 x0 8)) (qap (cellAt x18 x0 9)) 100))
 (some (gv (qe3 (intOf (cellAt x18 x0 6)) (intOf (cellAt x18 x0 7)) (strOf (cellAt x18 x0 8)) (qap (cellAt x18 x0 9)) 100))) none)
 none)) (fun y1=>
 .br (y1) (.at (.done 0)) (.at (.next ((IntKind.i64.wrap (x0+1),x1,x2,x3,x4,x5,x6,x7,x8,x9,x10,x11,x12,x13,x14,x15,x16,x17,x18,x19)))))
 (.no))
 (.no))
 (.no))
 (.at (.done 1))
def qn5:qeD->DT (Rd qeD):=(fun v=>qpX v.1 v.2.1 v.2.2.1 v.2.2.2.1 v.f.1 v.f.2.1 v.f.2.2.1 v.f.2.2.2.1 v.h.1 v.h.2.1 v.h.2.2.1 v.h.2.2.2.1 v.h.f.1 v.h.f.2.1 v.h.f.2.2.1 v.h.f.2.2.2.1 v.i.1 v.i.2.1 v.i.2.2.1 v.i.2.2.2)
def qvb(v:qeD):Option (Nat×qeD):=qax (qae (fun v=>(qn5 v).ev) v)
theorem qyK(v):qvb v=qae (fun v=>(qn5 v).ev) v:=qaa _
def qL9:qbS:=LE (τ:=qeD) (hD qKT) (qvb) zi9
theorem zh0:Go.Eng.Told IP (qad F7 0).1 (qad F7 0).2 (qL9):=lp (inferInstance:Inhabited qeD) (hs:=qKT) qn5 qGN qyK
abbrev qfE:Type:=Int×List UInt8×List UInt8×List UInt8×Int×Int×Int×Int×List AV×Bool×Int×Int×Bool×List AV×Bool×Int×Int×Bool×List AV×List AV
def qKU:List PSt:=[⟨[(1000701,.junk),(1,.ref 0 0 0),(4,.int .i64)],[(0,.box [.str,.str,.str,.int .i64,.int .i64,.int .i64,.int .i64,.view 2,.bool,.int .i64,.int .i64,.bool,.view 2,.bool,.int .i64,.int .i64,.bool,.view 10,.view 6] false)],1,0⟩]
def q4r(x0:Int)(x1 x2 x3:List UInt8)(x4 x5:Int)(x6 x7:Int)(x8:List AV)(x9:Bool)(x10 x11:Int)(x12:Bool)(x13:List AV)(x14:Bool)(x15 x16:Int)(x17:Bool)(x18 x19:List AV):X×St:=(.ret,⟨[(2,.bool true)],[],0,0⟩)
def q4s(x0:Int)(x1 x2 x3:List UInt8)(x4 x5:Int)(x6 x7:Int)(x8:List AV)(x9:Bool)(x10 x11:Int)(x12:Bool)(x13:List AV)(x14:Bool)(x15 x16:Int)(x17:Bool)(x18 x19:List AV):X×St:=(.exit 2,⟨[(2,.junk)],[],0,0⟩)
def zja:List (qfE->X×St):=[(k20 q4r),(k20 q4s)]
def qpY(x0:Int)(x1 x2 x3:List UInt8)(x4 x5:Int)(x6 x7:Int)(x8:List AV)(x9:Bool)(x10 x11:Int)(x12:Bool)(x13:List AV)(x14:Bool)(x15 x16:Int)(x17:Bool)(x18 x19:List AV):DT (Rd qfE):=
 .br (decide (x0<(x19.length:Int)))
 (.br (qaD [.str,.int .i64,.int .i64,.int .i64,.str,.slice 4] x19 x0)
 (.bi (br (decide (((strOf (cellAt x19 x0 0)).length:Int)>100)) (some true)
 (br (qaD [.str,.int .i64,.int .i64,.int .i64,.str,.slice 4] x19 x0)
 (br (sm (qe3 (intOf (cellAt x19 x0 2)) (intOf (cellAt x19 x0 3)) (strOf (cellAt x19 x0 4)) (qap (cellAt x19 x0 5)) 100))
 (some (gv (qe3 (intOf (cellAt x19 x0 2)) (intOf (cellAt x19 x0 3)) (strOf (cellAt x19 x0 4)) (qap (cellAt x19 x0 5)) 100))) none)
 none)) (fun y0=>
 .br (y0) (.at (.done 0)) (.at (.next ((IntKind.i64.wrap (x0+1),x1,x2,x3,x4,x5,x6,x7,x8,x9,x10,x11,x12,x13,x14,x15,x16,x17,x18,x19)))))
 (.no))
 (.no))
 (.at (.done 1))
def qn6:qfE->DT (Rd qfE):=(fun v=>qpY v.1 v.2.1 v.2.2.1 v.2.2.2.1 v.f.1 v.f.2.1 v.f.2.2.1 v.f.2.2.2.1 v.h.1 v.h.2.1 v.h.2.2.1 v.h.2.2.2.1 v.h.f.1 v.h.f.2.1 v.h.f.2.2.1 v.h.f.2.2.2.1 v.i.1 v.i.2.1 v.i.2.2.1 v.i.2.2.2)
def qvc(v:qfE):Option (Nat×qfE):=qax (qae (fun v=>(qn6 v).ev) v)
theorem qyL(v):qvc v=qae (fun v=>(qn6 v).ev) v:=qaa _
def qMa:qbS:=LE (τ:=qfE) (hD qKU) (qvc) zja
theorem zh1:Go.Eng.Told IP (qad F7 1).1 (qad F7 1).2 (qMa):=lp (inferInstance:Inhabited qfE) (hs:=qKU) qn6 qGN qyL
abbrev qRR:Type:=Bool
def qZc:PArgs:=⟨[.agg [.str,.str,.str,.int .i64,.int .i64,.int .i64,.int .i64,.view 2,.bool,.int .i64,.int .i64,.bool,.view 2,.bool,.int .i64,.int .i64,.bool,.view 10,.view 6]],[]⟩
def q1y:List PRes:=[⟨false,.bool,[]⟩]
def qsE(x0 x1 x2:List UInt8)(x3 x4:Int)(x5 x6:Int)(x7:List AV)(x8:Bool)(x9 x10:Int)(x11:Bool)(x12:List AV)(x13:Bool)(x14 x15:Int)(x16:Bool)(x17 x18:List AV):DT qRR:=
 .bi (br (decide ((x0.length:Int)>100)) (some true) (some (decide ((x1.length:Int)>100)))) (fun y0=>
 .bi (br y0 (some true) (some (decide ((x2.length:Int)>100)))) (fun y1=>
 .bi (br y1 (some true) (some (decide ((x7.length:Int)>20)))) (fun y2=>
 .bi (br y2 (some true) (some (decide ((x12.length:Int)>20)))) (fun y3=>
 .bi (br y3 (some true) (some (decide ((x17.length:Int)>10)))) (fun y4=>
 .bi (br y4 (some true) (some (decide ((x18.length:Int)>10)))) (fun y5=>
 .br (y5)
 (.at (true))
 (.bi (pj 0 (qvb (0,x0,x1,x2,x3,x4,x5,x6,x7,x8,x9,x10,x11,x12,x13,x14,x15,x16,x17,x18))) (fun y6=>
 .at (true))
 (.bi (pj 1 (qvb (0,x0,x1,x2,x3,x4,x5,x6,x7,x8,x9,x10,x11,x12,x13,x14,x15,x16,x17,x18))) (fun y6=>
 .bi (pj 0
 (qvc
 (0,y6.2))) (fun y7=>
 .at (true))
 (.bi (pj 1
 (qvc
 (0,y6.2))) (fun y7=>
 .at (false))
 (.no)))
 (.no))))
 (.no))
 (.no))
 (.no))
 (.no))
 (.no))
 (.no)
def qoU(x0 x1 x2:List UInt8)(x3 x4:Int)(x5 x6:Int)(x7:List AV)(x8:Bool)(x9 x10:Int)(x11:Bool)(x12:List AV)(x13:Bool)(x14 x15:Int)(x16:Bool)(x17 x18:List AV):Option qRR:=qax (qsE x0 x1 x2 x3 x4 x5 x6 x7 x8 x9 x10 x11 x12 x13 x14 x15 x16 x17 x18).ev
theorem qO5(x0 x1 x2 x3 x4 x5 x6 x7 x8 x9 x10 x11 x12 x13 x14 x15 x16 x17 x18):qoU x0 x1 x2 x3 x4 x5 x6 x7 x8 x9 x10 x11 x12 x13 x14 x15 x16 x17 x18=(qsE x0 x1 x2 x3 x4 x5 x6 x7 x8 x9 x10 x11 x12 x13 x14 x15 x16 x17 x18).ev:=qaa _
theorem zfh:FH IP 7 qZc q1y (k19 qoU):=qag (F:=F7) (L:=[(1000700,qL9),(1000701,qMa)]) (t:=(k19 qsE)) qGN (qac (l:=[qad F7 0,qad F7 1]) (by kernel_rfl) ⟨qas (by kernel_rfl) zh0,qas (by kernel_rfl) zh1,trivial⟩) (by kernel_rfl) (fun v=>by kernel_rfl) (fun _=>qaa _)
def T3:Tab:=(7,FE qZc q1y (k19 qoU))::T2
theorem qTU:qao IP T3:=⟨qam zfh,qGN⟩
abbrev qQO:Type:=Bool
def qX3:PArgs:=⟨[.int .i32],[]⟩
def q0p:List PRes:=[⟨false,.bool,[]⟩]
def qrv(x0:Int):DT qQO:=
 .at (x0 != 10)
def qoF(x0:Int):Option qQO:=qax (qrv x0).ev
theorem qN0(x0):qoF x0=(qrv x0).ev:=qaa _
theorem zdV:FH IP 141 qX3 q0p qoF:=fh zoB qrv qTU
def T5:Tab:=(141,FE qX3 q0p qoF)::T3
theorem qNx:qao IP T5:=⟨qam zdV,qTU⟩
abbrev qfj:Type:=List UInt8×Int
def qKt:List PSt:=[⟨[(1014000,.junk),(0,.str),(1,.fn (.func 141) []),(5,.int .i64)],[],0,0⟩]
def q3A(x0:List UInt8)(x1:Int):X×St:=(.exit 0,⟨[(0,.str x0),(5,.int .i64 x1)],[],0,0⟩)
def ziJ:List (qfj->X×St):=[(k2 q3A)]
def qpK(x0:List UInt8)(x1:Int):DT (Rd qfj):=
 .bi (br (decide (x1<(x0.length:Int)))
 (br (inB x0.length x1) (br (sm (qoF (IntKind.i32.wrap (qai x0 x1)))) (some (gv (qoF (IntKind.i32.wrap (qai x0 x1))))) none) none) (some false)) (fun y0=>
 .br (y0) (.at (.next ((x0,IntKind.i64.wrap (x1+1))))) (.at (.done 0)))
 (.no)
def qnW:qfj->DT (Rd qfj):=(fun v=>qpK v.1 v.2)
def qAK(v:qfj):Option (Nat×qfj):=qax (qae (fun v=>(qnW v).ev) v)
theorem qyu(v):qAK v=qae (fun v=>(qnW v).ev) v:=qaa _
def qLJ:qbS:=LE (τ:=qfj) (hD qKt) (qAK) ziJ
theorem zhA:Go.Eng.Told IP (qad qzO 0).1 (qad qzO 0).2 (qLJ):=lp (inferInstance:Inhabited qfj) (hs:=qKt) qnW qNx qyu
abbrev qQ9:Type:=List UInt8
def qYs:PArgs:=⟨[.str,.fn (.func 141) []],[]⟩
def q0O:List PRes:=[⟨false,.str,[]⟩]
def qrU(x0:List UInt8):DT qQ9:=
 .bi (pj 0 (qAK (x0,0))) (fun y0=>
 .br (leB y0.2 y0.1.length&&true) (.at (List.take y0.2.toNat y0.1)) (.no))
 (.no)
def qmt(x0:List UInt8):Option qQ9:=qax (qrU x0).ev
theorem qOr(x0):qmt x0=(qrU x0).ev:=qaa _
theorem zem:FH IP 140 qYs q0O qmt:=qag (F:=qzO) (L:=[(1014000,qLJ)]) (t:=qrU) qNx (qac (l:=[qad qzO 0]) (by kernel_rfl) ⟨qas (by kernel_rfl) zhA,trivial⟩) (by kernel_rfl) (fun v=>by kernel_rfl) (fun _=>qaa _)
def T6:Tab:=(140,FE qYs q0O qmt)::T5
theorem qGO:qao IP T6:=⟨qam zem,qNx⟩
abbrev qfi:Type:=List UInt8×Int
def qKs:List PSt:=[⟨[(1008600,.junk),(0,.str),(3,.int .i64)],[],0,0⟩]
def q3y(x0:List UInt8)(x1:Int):X×St:=(.ret,⟨[(2,.int .i64 x1),(3,.int .i64 x1)],[],0,0⟩)
def q3z(x0:List UInt8)(x1:Int):X×St:=(.exit 0,⟨[(2,.junk),(3,.int .i64 x1)],[],0,0⟩)
def ziI:List (qfi->X×St):=[(k2 q3y),(k2 q3z)]
def qpJ(x0:List UInt8)(x1:Int):DT (Rd qfi):=
 .br (decide (x1<(x0.length:Int)))
 (.br (inB x0.length x1)
 (.br (qai x0 x1==32)
 (.br (qai x0 x1==32)
 (.at (.next ((x0,IntKind.i64.wrap (x1+1)))))
 (.br (qai x0 x1==35)
 (.br (leB x1 x0.length)
 (.bi (qmt (List.drop x1.toNat x0)) (fun y0=>
 .at (.next ((x0,IntKind.i64.wrap (x1+(y0.length:Int))))))
 (.no))
 (.no))
 (.at (.done 0))))
 (.br (qai x0 x1==9)
 (.br (qai x0 x1==9)
 (.at (.next ((x0,IntKind.i64.wrap (x1+1)))))
 (.br (qai x0 x1==35)
 (.br (leB x1 x0.length)
 (.bi (qmt (List.drop x1.toNat x0)) (fun y0=>
 .at (.next ((x0,IntKind.i64.wrap (x1+(y0.length:Int))))))
 (.no))
 (.no))
 (.at (.done 0))))
 (.br (qai x0 x1==10)
 (.at (.next ((x0,IntKind.i64.wrap (x1+1)))))
 (.br (qai x0 x1==35)
 (.br (leB x1 x0.length)
 (.bi (qmt (List.drop x1.toNat x0)) (fun y0=>
 .at (.next ((x0,IntKind.i64.wrap (x1+(y0.length:Int))))))
 (.no))
 (.no))
 (.at (.done 0))))))
 (.no))
 (.at (.done 1))
def qlC:qfi->DT (Rd qfi):=(fun v=>qpJ v.1 v.2)
def qu5(v:qfi):Option (Nat×qfi):=qax (qae (fun v=>(qlC v).ev) v)
theorem qld(v):qu5 v=qae (fun v=>(qlC v).ev) v:=qaa _
def qLI:qbS:=LE (τ:=qfi) (hD qKs) (qu5) ziI
theorem zhz:Go.Eng.Told IP (qad F86 0).1 (qad F86 0).2 (qLI):=lp (inferInstance:Inhabited qfi) (hs:=qKs) qlC qGO qld
abbrev qQ5:Type:=Int
def qYo:PArgs:=⟨[.str],[]⟩
def q0K:List PRes:=[⟨false,.int .i64,[]⟩]
def qrQ(x0:List UInt8):DT qQ5:=
 .bi (pj 0 (qu5 (x0,0))) (fun y0=>
 .at (y0.2))
 (.bi (pj 1 (qu5 (x0,0))) (fun y0=>
 .at (y0.2))
 (.no))
def qcv(x0:List UInt8):Option qQ5:=qax (qrQ x0).ev
theorem qOm(x0):qcv x0=(qrQ x0).ev:=qaa _
theorem zei:FH IP 86 qYo q0K qcv:=qag (F:=F86) (L:=[(1008600,qLI)]) (t:=qrQ) qGO (qac (l:=[qad F86 0]) (by kernel_rfl) ⟨qas (by kernel_rfl) zhz,trivial⟩) (by kernel_rfl) (fun v=>by kernel_rfl) (fun _=>qaa _)
def T7:Tab:=(86,FE qYo q0K qcv)::T6
theorem qNy:qao IP T7:=⟨qam zei,qGO⟩
abbrev qQ7:Type:=Bool
def qYq:PArgs:=⟨[.int .i32],[]⟩
def q0M:List PRes:=[⟨false,.bool,[]⟩]
def qrS(x0:Int):DT qQ7:=
 .bi (br (decide (x0>=97)) (some (decide (x0<=122))) (some false)) (fun y0=>
 .at (y0))
 (.no)
def qoL(x0:Int):Option qQ7:=qax (qrS x0).ev
theorem qOo(x0):qoL x0=(qrS x0).ev:=qaa _
theorem zek:FH IP 145 qYq q0M qoL:=fh zoC qrS qNy
def T8:Tab:=(145,FE qYq q0M qoL)::T7
theorem zdw:qao IP T8:=⟨qam zek,qNy⟩
abbrev qRk:Type:=Bool
def qYF:PArgs:=⟨[.int .i32],[]⟩
def q01:List PRes:=[⟨false,.bool,[]⟩]
def qsd(x0:Int):DT qRk:=
 .bi (br (decide (x0>=48)) (some (decide (x0<=57))) (some false)) (fun y0=>
 .at (y0))
 (.no)
def qi6(x0:Int):Option qRk:=qax (qsd x0).ev
theorem qOE(x0):qi6 x0=(qsd x0).ev:=qaa _
theorem zeC:FH IP 147 qYF q01 qi6:=fh zoE qsd zdw
def T9:Tab:=(147,FE qYF q01 qi6)::T8
theorem zks:qao IP T9:=⟨qam zeC,zdw⟩
abbrev qQ6:Type:=Bool
def qYp:PArgs:=⟨[.int .i32],[]⟩
def q0L:List PRes:=[⟨false,.bool,[]⟩]
def qrR(x0:Int):DT qQ6:=
 .bi (qoL x0) (fun y0=>
 .bi (br y0 (some true) (br (sm (qi6 x0)) (some (gv (qi6 x0))) none)) (fun y1=>
 .bi (br y1 (some true) (some (x0==95))) (fun y2=>
 .at (y2))
 (.no))
 (.no))
 (.no)
def qms(x0:Int):Option qQ6:=qax (qrR x0).ev
theorem qOn(x0):qms x0=(qrR x0).ev:=qaa _
theorem zej:FH IP 146 qYp q0L qms:=fh zoD qrR zks
def T10:Tab:=(146,FE qYp q0L qms)::T9
theorem qSU:qao IP T10:=⟨qam zej,zks⟩
abbrev qiT:Type:=List UInt8×Int
def qWz:List PSt:=[⟨[(1014000,.junk),(0,.str),(1,.fn (.func 146) []),(5,.int .i64)],[],0,0⟩]
def q8f(x0:List UInt8)(x1:Int):X×St:=(.exit 0,⟨[(0,.str x0),(5,.int .i64 x1)],[],0,0⟩)
def zoe:List (qiT->X×St):=[(k2 q8f)]
def qw0(x0:List UInt8)(x1:Int):DT (Rd qiT):=
 .bi (br (decide (x1<(x0.length:Int)))
 (br (inB x0.length x1) (br (sm (qms (IntKind.i32.wrap (qai x0 x1)))) (some (gv (qms (IntKind.i32.wrap (qai x0 x1))))) none) none) (some false)) (fun y0=>
 .br (y0) (.at (.next ((x0,IntKind.i64.wrap (x1+1))))) (.at (.done 0)))
 (.no)
def qwZ:qiT->DT (Rd qiT):=(fun v=>qw0 v.1 v.2)
def qLw(v:qiT):Option (Nat×qiT):=qax (qae (fun v=>(qwZ v).ev) v)
theorem qEi(v):qLw v=qae (fun v=>(qwZ v).ev) v:=qaa _
def qXe:qbS:=LE (τ:=qiT) (hD qWz) (qLw) zoe
theorem znw:Go.Eng.Told IP (qad qzO 0).1 (qad qzO 0).2 (qXe):=lp (inferInstance:Inhabited qiT) (hs:=qWz) qwZ qSU qEi
abbrev qQX:Type:=List UInt8
def qYc:PArgs:=⟨[.str,.fn (.func 146) []],[]⟩
def q0y:List PRes:=[⟨false,.str,[]⟩]
def qrF(x0:List UInt8):DT qQX:=
 .bi (pj 0 (qLw (x0,0))) (fun y0=>
 .br (leB y0.2 y0.1.length&&true) (.at (List.take y0.2.toNat y0.1)) (.no))
 (.no)
def qtO(x0:List UInt8):Option qQX:=qax (qrF x0).ev
theorem qOa(x0):qtO x0=(qrF x0).ev:=qaa _
theorem zd5:FH IP 140 qYc q0y qtO:=qag (F:=qzO) (L:=[(1014000,qXe)]) (t:=qrF) qSU (qac (l:=[qad qzO 0]) (by kernel_rfl) ⟨qas (by kernel_rfl) znw,trivial⟩) (by kernel_rfl) (fun v=>by kernel_rfl) (fun _=>qaa _)
def T11:Tab:=(140,FE qYc q0y qtO)::T10
theorem q80:qao IP T11:=⟨qam zd5,qSU⟩
abbrev qti:Type:=List AV
def qvJ:PArgs:=⟨[],[]⟩
def qwa:List PRes:=[⟨false,.view 1,[]⟩]
def qgf:DT qti:=
 .at ([AV.str ([]++[112]++[114]++[111]++[100]++[117]++[99]++[116]),AV.str ([]++[99]++[117]++[114]++[114]++[101]++[110]++[99]++[121]),
 AV.str ([]++[99]++[97]++[108]++[101]++[110]++[100]++[97]++[114]),AV.str ([]++[102]++[114]++[111]++[109]),
 AV.str ([]++[101]++[118]++[101]++[114]++[121]),AV.str ([]++[111]++[118]++[101]++[114]++[100]++[114]++[97]++[102]++[116]),
 AV.str ([]++[116]++[97]++[120]),AV.str ([]++[99]++[114]++[101]++[100]++[105]++[116]),AV.str ([]++[100]++[101]++[98]++[105]++[116]),
 AV.str ([]++[109]++[97]++[114]++[103]++[105]++[110]++[97]++[108]),AV.str ([]++[119]++[104]++[111]++[108]++[101]),
 AV.str ([]++[97]++[99]++[116]++[51]++[54]++[48]),AV.str ([]++[97]++[99]++[116]++[51]++[54]++[53]),
 AV.str ([]++[97]++[99]++[116]++[117]++[97]++[108]),AV.str ([]++[116]++[104]++[105]++[114]++[116]++[121]),
 AV.str ([]++[100]++[111]++[119]++[110]),AV.str ([]++[117]++[112]),AV.str ([]++[102]++[108]++[111]++[111]++[114]),
 AV.str ([]++[99]++[101]++[105]++[108]),AV.str ([]++[104]++[97]++[108]++[102]++[95]++[117]++[112]),
 AV.str ([]++[104]++[97]++[108]++[102]++[95]++[101]++[118]++[101]++[110]),AV.str ([]++[107]++[101]++[101]++[112]),
 AV.str ([]++[100]++[114]++[111]++[112]),AV.str ([]++[102]++[101]++[101]),AV.str ([]++[108]++[105]++[109]++[105]++[116]),
 AV.str ([]++[119]++[104]++[101]++[110]),AV.str ([]++[97]++[109]++[111]++[117]++[110]++[116]++[95]++[111]++[102]),
 AV.str ([]++[115]++[105]++[110]++[103]++[108]++[101]),AV.str ([]++[100]++[97]++[105]++[108]++[121]),
 AV.str ([]++[109]++[111]++[110]++[116]++[104]++[108]++[121]),AV.str ([]++[109]++[111]++[110]++[116]++[104]),
 AV.str ([]++[114]++[101]++[116]++[117]++[114]++[110]),AV.str ([]++[99]++[108]++[111]++[115]++[101]),
 AV.str ([]++[101]++[118]++[101]++[110]++[116]),AV.str ([]++[105]++[102]),AV.str ([]++[116]++[104]++[101]++[110]),
 AV.str ([]++[101]++[108]++[115]++[101]),AV.str ([]++[97]++[110]++[100]),AV.str ([]++[111]++[114]),AV.str ([]++[110]++[111]++[116]),
 AV.str ([]++[109]++[105]++[110]),AV.str ([]++[109]++[97]++[120])])
def qgC:Option qti:=qax (qgf).ev
theorem qoQ:qgC=(qgf).ev:=qaa _
theorem qAe:FH IP 126 qvJ qwa (fun _=>qgC):=qag (F:=q5d) (L:=[]) (t:=(fun _=>qgf)) q80 (qac (l:=[]) (by kernel_rfl) trivial) (by kernel_rfl) (fun v=>by kernel_rfl) (fun _=>qaa _)
def T12:Tab:=(126,FE qvJ qwa (fun _=>qgC))::T11
theorem qS7:qao IP T12:=⟨qam qAe,q80⟩
abbrev qct:Type:=List AV×List UInt8×Int×Int
def quX:List PSt:=[⟨[(1018600,.junk),(0,.view 1),(1,.str),(7,.int .i64),(8,.int .i64)],[],0,0⟩]
def qC1(x0:List AV)(x1:List UInt8)(x2 x3:Int):X×St:=(.ret,⟨[(4,.int .i64 x3)],[],0,0⟩)
def qC2(x0:List AV)(x1:List UInt8)(x2 x3:Int):X×St:=(.exit 0,⟨[(4,.junk)],[],0,0⟩)
def q3x:List (qct->X×St):=[(k4 qC1),(k4 qC2)]
def qg0(x0:List AV)(x1:List UInt8)(x2 x3:Int):DT (Rd qct):=
 .br (decide (x3<x2))
 (.br (qaD [.str] x0 x3)
 (.br (x1==strOf (cellAt x0 x3 0)) (.at (.done 0)) (.at (.next ((x0,x1,x2,IntKind.i64.wrap (x3+1))))))
 (.no))
 (.at (.done 1))
def qgZ:qct->DT (Rd qct):=(fun v=>qg0 v.1 v.2.1 v.2.2.1 v.2.2.2)
def qkp(v:qct):Option (Nat×qct):=qax (qae (fun v=>(qgZ v).ev) v)
theorem qkq(v):qkp v=qae (fun v=>(qgZ v).ev) v:=qaa _
def qvp:qbS:=LE (τ:=qct) (hD quX) (qkp) q3x
theorem q2Q:Go.Eng.Told IP (qad qGb 0).1 (qad qGb 0).2 (qvp):=lp (inferInstance:Inhabited qct) (hs:=quX) qgZ qS7 qkq
abbrev qC4:Type:=Int
def qEG:PArgs:=⟨[.view 1,.str],[]⟩
def qEX:List PRes:=[⟨false,.int .i64,[]⟩]
def qjA(x0:List AV)(x1:List UInt8):DT qC4:=
 .bi (pj 0 (qkp (x0,x1,(x0.length:Int),0))) (fun y0=>
 .at (y0.2.2.2))
 (.bi (pj 1 (qkp (x0,x1,(x0.length:Int),0))) (fun y0=>
 .at (-1))
 (.no))
def qnk(x0:List AV)(x1:List UInt8):Option qC4:=qax (qjA x0 x1).ev
theorem qtU(x0 x1):qnk x0 x1=(qjA x0 x1).ev:=qaa _
theorem qUr:FH IP 186 qEG qEX (k2 qnk):=qag (F:=qGb) (L:=[(1018600,qvp)]) (t:=(k2 qjA)) qS7 (qac (l:=[qad qGb 0]) (by kernel_rfl) ⟨qas (by kernel_rfl) q2Q,trivial⟩) (by kernel_rfl) (fun v=>by kernel_rfl) (fun _=>qaa _)
def T13:Tab:=(186,FE qEG qEX (k2 qnk))::T12
theorem q81:qao IP T13:=⟨qam qUr,qS7⟩
end
end Go.Proofs.H16
namespace Go.Proofs.H16
open Go Go.Eng
set_option maxRecDepth 100000
noncomputable section
abbrev qSG:Type:=Bool
def qZT:PArgs:=⟨[.view 1,.str],[]⟩
def q2n:List PRes:=[⟨false,.bool,[]⟩]
def qor(x0:List AV)(x1:List UInt8):DT qSG:=
 .bi (qnk x0 x1) (fun y0=>
 .at (decide (y0>=0)))
 (.no)
def quI(x0:List AV)(x1:List UInt8):Option qSG:=qax (qor x0 x1).ev
theorem qAC(x0 x1):quI x0 x1=(qor x0 x1).ev:=qaa _
theorem zfV:FH IP 125 qZT q2n (k2 quI):=fh q5c (k2 qor) q81
def T14:Tab:=(125,FE qZT q2n (k2 quI))::T13
theorem q82:qao IP T14:=⟨qam zfV,q81⟩
abbrev qtj:Type:=Bool
def qvO:PArgs:=⟨[.str],[]⟩
def qwf:List PRes:=[⟨false,.bool,[]⟩]
def qgg(x0:List UInt8):DT qtj:=
 .bi (qgC) (fun y0=>
 .bi (quI y0 x0) (fun y1=>
 .at (y1))
 (.no))
 (.no)
def qbU(x0:List UInt8):Option qtj:=qax (qgg x0).ev
theorem qoS(x0):qbU x0=(qgg x0).ev:=qaa _
theorem qGW:FH IP 65 qvO qwf qbU:=fh F65 qgg q82
def T15:Tab:=(65,FE qvO qwf qbU)::T14
theorem q83:qao IP T15:=⟨qam qGW,q82⟩
abbrev qQP:Type:=Bool
def qX4:PArgs:=⟨[.int .i32],[]⟩
def q0q:List PRes:=[⟨false,.bool,[]⟩]
def qrw(x0:Int):DT qQP:=
 .bi (qms x0) (fun y0=>
 .bi (br y0 (some true) (some (x0==46))) (fun y1=>
 .bi (br y1 (some true) (some (x0==37))) (fun y2=>
 .at (y2))
 (.no))
 (.no))
 (.no)
def qoG(x0:Int):Option qQP:=qax (qrw x0).ev
theorem qN1(x0):qoG x0=(qrw x0).ev:=qaa _
theorem zdW:FH IP 149 qX4 q0q qoG:=fh zoG qrw q83
def T16:Tab:=(149,FE qX4 q0q qoG)::T15
theorem qTv:qao IP T16:=⟨qam zdW,q83⟩
abbrev qiU:Type:=List UInt8×Int
def qWA:List PSt:=[⟨[(1014000,.junk),(0,.str),(1,.fn (.func 149) []),(5,.int .i64)],[],0,0⟩]
def q8g(x0:List UInt8)(x1:Int):X×St:=(.exit 0,⟨[(0,.str x0),(5,.int .i64 x1)],[],0,0⟩)
def zof:List (qiU->X×St):=[(k2 q8g)]
def qw2(x0:List UInt8)(x1:Int):DT (Rd qiU):=
 .bi (br (decide (x1<(x0.length:Int)))
 (br (inB x0.length x1) (br (sm (qoG (IntKind.i32.wrap (qai x0 x1)))) (some (gv (qoG (IntKind.i32.wrap (qai x0 x1))))) none) none) (some false)) (fun y0=>
 .br (y0) (.at (.next ((x0,IntKind.i64.wrap (x1+1))))) (.at (.done 0)))
 (.no)
def qw1:qiU->DT (Rd qiU):=(fun v=>qw2 v.1 v.2)
def qLx(v:qiU):Option (Nat×qiU):=qax (qae (fun v=>(qw1 v).ev) v)
theorem qEj(v):qLx v=qae (fun v=>(qw1 v).ev) v:=qaa _
def qXf:qbS:=LE (τ:=qiU) (hD qWA) (qLx) zof
theorem znx:Go.Eng.Told IP (qad qzO 0).1 (qad qzO 0).2 (qXf):=lp (inferInstance:Inhabited qiU) (hs:=qWA) qw1 qTv qEj
abbrev qQY:Type:=List UInt8
def qYd:PArgs:=⟨[.str,.fn (.func 149) []],[]⟩
def q0z:List PRes:=[⟨false,.str,[]⟩]
def qrG(x0:List UInt8):DT qQY:=
 .bi (pj 0 (qLx (x0,0))) (fun y0=>
 .br (leB y0.2 y0.1.length&&true) (.at (List.take y0.2.toNat y0.1)) (.no))
 (.no)
def qtP(x0:List UInt8):Option qQY:=qax (qrG x0).ev
theorem qOb(x0):qtP x0=(qrG x0).ev:=qaa _
theorem zd6:FH IP 140 qYd q0z qtP:=qag (F:=qzO) (L:=[(1014000,qXf)]) (t:=qrG) qTv (qac (l:=[qad qzO 0]) (by kernel_rfl) ⟨qas (by kernel_rfl) znx,trivial⟩) (by kernel_rfl) (fun v=>by kernel_rfl) (fun _=>qaa _)
def T17:Tab:=(140,FE qYd q0z qtP)::T16
theorem qTA:qao IP T17:=⟨qam zd6,qTv⟩
abbrev qfe:Type:=List UInt8×Int
def qKk:List PSt:=[⟨[(1014000,.junk),(0,.str),(1,.fn (.func 147) []),(5,.int .i64)],[],0,0⟩]
def q3h(x0:List UInt8)(x1:Int):X×St:=(.exit 0,⟨[(0,.str x0),(5,.int .i64 x1)],[],0,0⟩)
def ziA:List (qfe->X×St):=[(k2 q3h)]
def qpC(x0:List UInt8)(x1:Int):DT (Rd qfe):=
 .bi (br (decide (x1<(x0.length:Int)))
 (br (inB x0.length x1) (br (sm (qi6 (IntKind.i32.wrap (qai x0 x1)))) (some (gv (qi6 (IntKind.i32.wrap (qai x0 x1))))) none) none) (some false)) (fun y0=>
 .br (y0) (.at (.next ((x0,IntKind.i64.wrap (x1+1))))) (.at (.done 0)))
 (.no)
def qnS:qfe->DT (Rd qfe):=(fun v=>qpC v.1 v.2)
def qAJ(v:qfe):Option (Nat×qfe):=qax (qae (fun v=>(qnS v).ev) v)
theorem qyo(v):qAJ v=qae (fun v=>(qnS v).ev) v:=qaa _
def qLA:qbS:=LE (τ:=qfe) (hD qKk) (qAJ) ziA
theorem zhr:Go.Eng.Told IP (qad qzO 0).1 (qad qzO 0).2 (qLA):=lp (inferInstance:Inhabited qfe) (hs:=qKk) qnS qTA qyo
abbrev qQZ:Type:=List UInt8
def qYe:PArgs:=⟨[.str,.fn (.func 147) []],[]⟩
def q0A:List PRes:=[⟨false,.str,[]⟩]
def qrH(x0:List UInt8):DT qQZ:=
 .bi (pj 0 (qAJ (x0,0))) (fun y0=>
 .br (leB y0.2 y0.1.length&&true) (.at (List.take y0.2.toNat y0.1)) (.no))
 (.no)
def qhJ(x0:List UInt8):Option qQZ:=qax (qrH x0).ev
theorem qOc(x0):qhJ x0=(qrH x0).ev:=qaa _
theorem zd7:FH IP 140 qYe q0A qhJ:=qag (F:=qzO) (L:=[(1014000,qLA)]) (t:=qrH) qTA (qac (l:=[qad qzO 0]) (by kernel_rfl) ⟨qas (by kernel_rfl) zhr,trivial⟩) (by kernel_rfl) (fun v=>by kernel_rfl) (fun _=>qaa _)
def T18:Tab:=(140,FE qYe q0A qhJ)::T17
theorem q84:qao IP T18:=⟨qam zd7,qTA⟩
abbrev qQW:Type:=Bool
def qYb:PArgs:=⟨[.str],[]⟩
def q0x:List PRes:=[⟨false,.bool,[]⟩]
def qrE(x0:List UInt8):DT qQW:=
 .bi (br (!x0== []) (br (sm (qhJ x0)) (some (gv (qhJ x0)==x0)) none) (some false)) (fun y0=>
 .bi (br y0 (br ((x0.length:Int)==1) (some true) (br (inB x0.length 0) (some (qai x0 0 != 48)) none)) (some false)) (fun y1=>
 .at (y1))
 (.no))
 (.no)
def qmp(x0:List UInt8):Option qQW:=qax (qrE x0).ev
theorem qN9(x0):qmp x0=(qrE x0).ev:=qaa _
theorem zd4:FH IP 200 qYb q0x qmp:=fh zoY qrE q84
def T19:Tab:=(200,FE qYb q0x qmp)::T18
theorem q85:qao IP T19:=⟨qam zd4,q84⟩
abbrev zj5:Type:=Bool
def zmD:PArgs:=⟨[.str,.str],[]⟩
def zmQ:List PRes:=[⟨false,.bool,[]⟩]
def qNk(x0 x1:List UInt8):DT zj5:=
 .bi (br (decide ((x0.length:Int)>=(x1.length:Int)))
 (br (leB (IntKind.i64.wrap ((x0.length:Int)-(x1.length:Int))) x0.length) (some (List.drop (IntKind.i64.wrap ((x0.length:Int)-(x1.length:Int))).toNat x0==x1))
 none)
 (some false)) (fun y0=>
 .at (y0))
 (.no)
def q5O(x0 x1:List UInt8):Option zj5:=qax (qNk x0 x1).ev
theorem q5P(x0 x1):q5O x0 x1=(qNk x0 x1).ev:=qaa _
theorem zqj:FH IP 265 zmD zmQ (k2 q5O):=fh zpa (k2 qNk) q85
def T20:Tab:=(265,FE zmD zmQ (k2 q5O))::T19
theorem q86:qao IP T20:=⟨qam zqj,q85⟩
abbrev zj3:Type:=List UInt8×Bool
def zmB:PArgs:=⟨[.str,.str],[]⟩
def zmO:List PRes:=[⟨false,.tup [.str,.bool],[]⟩]
def qNi(x0 x1:List UInt8):DT zj3:=
 .bi (q5O x0 x1) (fun y0=>
 .br (!y0)
 (.at ((x0,false)))
 (.br (leB (IntKind.i64.wrap ((x0.length:Int)-(x1.length:Int))) x0.length&&true)
 (.at ((List.take (IntKind.i64.wrap ((x0.length:Int)-(x1.length:Int))).toNat x0,true)))
 (.no)))
 (.no)
def q5K(x0 x1:List UInt8):Option zj3:=qax (qNi x0 x1).ev
theorem q5L(x0 x1):q5K x0 x1=(qNi x0 x1).ev:=qaa _
theorem zqh:FH IP 239 zmB zmO (k2 q5K):=fh zo3 (k2 qNi) q86
def T21:Tab:=(239,FE zmB zmO (k2 q5K))::T20
theorem q87:qao IP T21:=⟨qam zqh,q86⟩
abbrev q8O:Type:=List UInt8×Bool
def zbA:PArgs:=⟨[.str,.str],[]⟩
def zcs:List PRes:=[⟨false,.tup [.str,.bool],[]⟩]
def qCL(x0 x1:List UInt8):DT q8O:=
 .bi (q5K x0 x1) (fun y0=>
 .at ((y0)))
 (.no)
def qDK(x0 x1:List UInt8):Option q8O:=qax (qCL x0 x1).ev
theorem qVO(x0 x1):qDK x0 x1=(qCL x0 x1).ev:=qaa _
theorem zll:FH IP 206 zbA zcs (k2 qDK):=fh zoZ (k2 qCL) q87
def T22:Tab:=(206,FE zbA zcs (k2 qDK))::T21
theorem q88:qao IP T22:=⟨qam zll,q87⟩
abbrev q8j:Type:=Int
def zaZ:PArgs:=⟨[.str,.str],[]⟩
def zbP:List PRes:=[⟨false,.int .i64,[]⟩]
def qBY(x0 x1:List UInt8):DT q8j:=
 .bi (br ((x1.length:Int)==0) (some true) (some (x1==x0))) (fun y0=>
 .br (y0)
 (.at (0))
 (.br ((x1.length:Int)==1)
 (.br (inB x1.length 0) (.at (Lib.indexByte x0 (qai x1 0).toNat.toUInt8)) (.no))
 (.br (decide ((x1.length:Int)>=(x0.length:Int))) (.at (-1)) (.no))))
 (.no)
def qDC(x0 x1:List UInt8):Option q8j:=qax (qBY x0 x1).ev
theorem qU8(x0 x1):qDC x0 x1=(qBY x0 x1).ev:=qaa _
theorem zkH:FH IP 199 zaZ zbP (k2 qDC):=qag (F:=zkf) (L:=[]) (t:=(k2 qBY)) q88 (qac (l:=[qad zkf 0]) (by kernel_rfl) ⟨qM9 (by kernel_rfl),trivial⟩) (by kernel_rfl) (fun v=>by kernel_rfl) (fun _=>qaa _)
def T23:Tab:=(199,FE zaZ zbP (k2 qDC))::T22
theorem q89:qao IP T23:=⟨qam zkH,q88⟩
abbrev q8l:Type:=List UInt8×List UInt8×Bool
def za1:PArgs:=⟨[.str,.str],[]⟩
def zbR:List PRes:=[⟨false,.tup [.str,.str,.bool],[]⟩]
def qB1(x0 x1:List UInt8):DT q8l:=
 .bi (qDC x0 x1) (fun y0=>
 .br (decide (y0>=0))
 (.br (leB y0 x0.length&&true)
 (.br (leB (IntKind.i64.wrap (y0+(x1.length:Int))) x0.length)
 (.at ((List.take y0.toNat x0,List.drop (IntKind.i64.wrap (y0+(x1.length:Int))).toNat x0,true)))
 (.no))
 (.no))
 (.at ((x0,[],false))))
 (.no)
def qJ7(x0 x1:List UInt8):Option q8l:=qax (qB1 x0 x1).ev
theorem qVc(x0 x1):qJ7 x0 x1=(qB1 x0 x1).ev:=qaa _
theorem zkJ:FH IP 240 za1 zbR (k2 qJ7):=fh zo4 (k2 qB1) q89
def T24:Tab:=(240,FE za1 zbR (k2 qJ7))::T23
theorem q9a:qao IP T24:=⟨qam zkJ,q89⟩
abbrev qRj:Type:=List UInt8×List UInt8×Bool
def qYE:PArgs:=⟨[.str,.str],[]⟩
def q00:List PRes:=[⟨false,.tup [.str,.str,.bool],[]⟩]
def qsc(x0 x1:List UInt8):DT qRj:=
 .bi (qJ7 x0 x1) (fun y0=>
 .at ((y0)))
 (.no)
def qt7(x0 x1:List UInt8):Option qRj:=qax (qsc x0 x1).ev
theorem qOD(x0 x1):qt7 x0 x1=(qsc x0 x1).ev:=qaa _
theorem zeB:FH IP 207 qYE q00 (k2 qt7):=fh zo0 (k2 qsc) q9a
def T25:Tab:=(207,FE qYE q00 (k2 qt7))::T24
theorem qTQ:qao IP T25:=⟨qam zeB,q9a⟩
abbrev qfw:Type:=List UInt8×List UInt8
def qKI:List PSt:=[⟨[(1015600,.junk),(6,.str),(7,.str)],[],0,0⟩]
def q31(x0 x1:List UInt8):X×St:=(.exit 0,⟨[(6,.str x0),(7,.str x1)],[],0,0⟩)
def ziY:List (qfw->X×St):=[(k2 q31)]
def qpP(x0 x1:List UInt8):DT (Rd qfw):=
 .br (decide ((x1.length:Int)<4))
 (.br (decide (x1.length+1<=4611686018427387904)) (.at (.next ((x0,x1++[48])))) (.no))
 (.at (.done 0))
def qlH:qfw->DT (Rd qfw):=(fun v=>qpP v.1 v.2)
def qAR(v:qfw):Option (Nat×qfw):=qax (qae (fun v=>(qlH v).ev) v)
theorem qyD(v):qAR v=qae (fun v=>(qlH v).ev) v:=qaa _
def qLY:qbS:=LE (τ:=qfw) (hD qKI) (qAR) ziY
theorem zhP:Go.Eng.Told IP (qad zc6 0).1 (qad zc6 0).2 (qLY):=lp (inferInstance:Inhabited qfw) (hs:=qKI) qlH qTQ qyD
abbrev qRF:Type:=Int×Int
def qY0:PArgs:=⟨[.str],[]⟩
def q1m:List PRes:=[⟨false,.tup [.int .i64,.int .i64],[]⟩]
def qst(x0:List UInt8):DT qRF:=
 .bi (qDK x0 [37]) (fun y0=>
 .bi (qt7 y0.1 [46]) (fun y1=>
 .bi (br (!y0.2) (some true) (br (sm (qmp y1.1)) (some !gv (qmp y1.1)) none)) (fun y2=>
 .bi (br y2 (some true)
 (br y1.2.2
 (br (y1.2.1== []) (some true)
 (br (decide ((y1.2.1.length:Int)>4)) (some true)
 (br (sm (qhJ y1.2.1))
 (br (!gv (qhJ y1.2.1)==y1.2.1) (some true)
 (br (inB y1.2.1.length (IntKind.i64.wrap ((y1.2.1.length:Int)-1))) (some (qai y1.2.1 (IntKind.i64.wrap ((y1.2.1.length:Int)-1))==48))
 none))
 none)))
 (some false))) (fun y3=>
 .br (y3)
 (.at ((0,2)))
 (.br (decide ((y1.1.length:Int)>3))
 (.at ((0,1)))
 (.bi (pj 0 (qAR (y1.1,y1.2.1))) (fun y4=>
 .br (decide (y4.1.length+y4.2.length<=4611686018427387904))
 (.br (pOk (y4.1++y4.2)&&nOk (Lib.atoiAll (y4.1++y4.2)))
 (.br (decide (qQH (Lib.atoiAll (y4.1++y4.2))>1000000)) (.at ((0,1))) (.at ((qQH (Lib.atoiAll (y4.1++y4.2)),0))))
 (.br (pOk (y4.1++y4.2)&&qig (Lib.atoiAll (y4.1++y4.2)))
 (.br (decide (Lib.atoiSat (y4.1++y4.2)>1000000)) (.at ((0,1))) (.at ((Lib.atoiSat (y4.1++y4.2),0))))
 (.br (pOk (y4.1++y4.2)&&qdp (Lib.atoiAll (y4.1++y4.2))) (.at ((0,0))) (.no))))
 (.no))
 (.no))))
 (.no))
 (.no))
 (.no))
 (.no)
def qke(x0:List UInt8):Option qRF:=qax (qst x0).ev
theorem qOU(x0):qke x0=(qst x0).ev:=qaa _
theorem zeZ:FH IP 156 qY0 q1m qke:=qag (F:=zc6) (L:=[(1015600,qLY)]) (t:=qst) qTQ (qac (l:=[qad zc6 0]) (by kernel_rfl) ⟨qas (by kernel_rfl) zhP,trivial⟩) (by kernel_rfl) (fun v=>by kernel_rfl) (fun _=>qaa _)
def T26:Tab:=(156,FE qY0 q1m qke)::T25
theorem q9b:qao IP T26:=⟨qam zeZ,qTQ⟩
abbrev qQ8:Type:=Int×Int×List UInt8×Int
def qYr:PArgs:=⟨[.str],[]⟩
def q0N:List PRes:=[⟨false,.tup [.agg [.int .i64,.int .i64,.str],.int .i64],[]⟩]
def qrT(x0:List UInt8):DT qQ8:=
 .bi (qmp x0) (fun y0=>
 .br (y0)
 (.br (pOk x0&&nOk (Lib.parseIntB 64 x0))
 (.at ((2,0,x0,0)))
 (.br (pOk x0&&qig (Lib.parseIntB 64 x0))
 (.at ((0,0,[],6)))
 (.br (pOk x0&&qdp (Lib.parseIntB 64 x0)) (.at ((0,0,[],6))) (.no))))
 (.bi (qke x0) (fun y1=>
 .br (y1.2==0)
 (.at ((3,0,x0,0)))
 (.br (y1.2==1) (.at ((0,0,[],6))) (.at ((0,0,[],2)))))
 (.no)))
 (.no)
def qtX(x0:List UInt8):Option qQ8:=qax (qrT x0).ev
theorem qOq(x0):qtX x0=(qrT x0).ev:=qaa _
theorem zel:FH IP 148 qYr q0N qtX:=fh zoF qrT q9b
def T27:Tab:=(148,FE qYr q0N qtX)::T26
theorem q9c:qao IP T27:=⟨qam zel,q9b⟩
abbrev qRl:Type:=List AV
def qYG:PArgs:=⟨[],[]⟩
def q02:List PRes:=[⟨false,.view 1,[]⟩]
def qse:DT qRl:=
 .at ([AV.str ([]++[61]++[61]),AV.str ([]++[33]++[61]),AV.str ([]++[60]++[61]),AV.str ([]++[123]),AV.str ([]++[125]),AV.str ([]++[40]),AV.str ([]++[41]),
 AV.str ([]++[44]),AV.str ([]++[59]),AV.str ([]++[58]),AV.str ([]++[36]),AV.str ([]++[43]),AV.str ([]++[45]),AV.str ([]++[42]),AV.str ([]++[47]),
 AV.str ([]++[60])])
def qt9:Option qRl:=qax (qse).ev
theorem qOF:qt9=(qse).ev:=qaa _
theorem zeD:FH IP 150 qYG q02 (fun _=>qt9):=qag (F:=zoH) (L:=[]) (t:=(fun _=>qse)) q9c (qac (l:=[]) (by kernel_rfl) trivial) (by kernel_rfl) (fun v=>by kernel_rfl) (fun _=>qaa _)
def T28:Tab:=(150,FE qYG q02 (fun _=>qt9))::T27
theorem q9d:qao IP T28:=⟨qam zeD,q9c⟩
abbrev zj4:Type:=Bool
def zmC:PArgs:=⟨[.str,.str],[]⟩
def zmP:List PRes:=[⟨false,.bool,[]⟩]
def qNj(x0 x1:List UInt8):DT zj4:=
 .bi (br (decide ((x0.length:Int)>=(x1.length:Int))) (br (leB (x1.length:Int) x0.length&&true) (some (List.take (x1.length:Int).toNat x0==x1)) none) (some false)) (fun y0=>
 .at (y0))
 (.no)
def q5M(x0 x1:List UInt8):Option zj4:=qax (qNj x0 x1).ev
theorem q5N(x0 x1):q5M x0 x1=(qNj x0 x1).ev:=qaa _
theorem zqi:FH IP 190 zmC zmP (k2 q5M):=fh zoR (k2 qNj) q9d
def T29:Tab:=(190,FE zmC zmP (k2 q5M))::T28
theorem q9e:qao IP T29:=⟨qam zqi,q9d⟩
abbrev q8P:Type:=Bool
def zbB:PArgs:=⟨[.str,.str],[]⟩
def zct:List PRes:=[⟨false,.bool,[]⟩]
def qCM(x0 x1:List UInt8):DT q8P:=
 .bi (q5M x0 x1) (fun y0=>
 .at (y0))
 (.no)
def qDL(x0 x1:List UInt8):Option q8P:=qax (qCM x0 x1).ev
theorem qVP(x0 x1):qDL x0 x1=(qCM x0 x1).ev:=qaa _
theorem zlm:FH IP 129 zbB zct (k2 qDL):=fh zoy (k2 qCM) q9e
def T30:Tab:=(129,FE zbB zct (k2 qDL))::T29
theorem qTR:qao IP T30:=⟨qam zlm,q9e⟩
abbrev qfx:Type:=List UInt8×List AV×Int×Int×Int×Int×List UInt8
def qKJ:List PSt:=[⟨[(1008800,.junk),(0,.str),(2,.ref 0 0 0),(34,.view 1),(35,.int .i64),(36,.int .i64)],[(0,.box [.int .i64,.int .i64,.str] false)],1,0⟩]
def q33(x0:List UInt8)(x1:List AV)(x2 x3:Int)(x4 x5:Int)(x6:List UInt8):X×St:=(.ret,
 ⟨[(2,.ref 0 0 0),(3,.int .i64 0)],[(0,.box [.int .i64 4,.int .i64 0,.str (strOf (cellAt x1 x3 0))] false)],1,0⟩)
def q34(x0:List UInt8)(x1:List AV)(x2 x3:Int)(x4 x5:Int)(x6:List UInt8):X×St:=(.exit 1,⟨[(2,.ref 0 0 0),(3,.junk)],[(0,.box [.int .i64 x4,.int .i64 x5,.str x6] false)],1,0⟩)
def ziZ:List (qfx->X×St):=[(k7 q33),(k7 q34)]
def qpQ(x0:List UInt8)(x1:List AV)(x2 x3:Int)(x4 x5:Int)(x6:List UInt8):DT (Rd qfx):=
 .br (decide (x3<x2))
 (.br (qaD [.str] x1 x3)
 (.bi (qDL x0 (strOf (cellAt x1 x3 0))) (fun y0=>
 .br (y0) (.at (.done 0)) (.at (.next ((x0,x1,x2,IntKind.i64.wrap (x3+1),x4,x5,x6)))))
 (.no))
 (.no))
 (.at (.done 1))
def qn1:qfx->DT (Rd qfx):=(fun v=>qpQ v.1 v.2.1 v.2.2.1 v.2.2.2.1 v.f.1 v.f.2.1 v.f.2.2)
def qu9(v:qfx):Option (Nat×qfx):=qax (qae (fun v=>(qn1 v).ev) v)
theorem qyE(v):qu9 v=qae (fun v=>(qn1 v).ev) v:=qaa _
def qLZ:qbS:=LE (τ:=qfx) (hD qKJ) (qu9) ziZ
theorem zhQ:Go.Eng.Told IP (qad F88 0).1 (qad F88 0).2 (qLZ):=lp (inferInstance:Inhabited qfx) (hs:=qKJ) qn1 qTR qyE
abbrev qRG:Type:=Int×Int×List UInt8×Int
def qY1:PArgs:=⟨[.str],[]⟩
def q1n:List PRes:=[⟨false,.tup [.agg [.int .i64,.int .i64,.str],.int .i64],[]⟩]
def qsu(x0:List UInt8):DT qRG:=
 .br (inB x0.length 0)
 (.bi (qoL (IntKind.i32.wrap (qai x0 0))) (fun y0=>
 .br (y0)
 (.bi (qtO x0) (fun y1=>
 .bi (qbU y1) (fun y2=>
 .br (y2)
 (.at ((5,0,y1,0)))
 (.br (decide ((y1.length:Int)>16)) (.at ((0,0,[],4))) (.at ((1,0,y1,0)))))
 (.no))
 (.no))
 (.bi (qi6 (IntKind.i32.wrap (qai x0 0))) (fun y1=>
 .br (y1)
 (.bi (qtP x0) (fun y2=>
 .bi (qtX y2) (fun y3=>
 .at ((y3)))
 (.no))
 (.no))
 (.bi (qt9) (fun y2=>
 .bi (pj 0 (qu9 (x0,y2,(y2.length:Int),0,0,0,[]))) (fun y3=>
 .at ((4,0,strOf (cellAt y3.2.1 y3.2.2.2.1 0),0)))
 (.bi (pj 1 (qu9 (x0,y2,(y2.length:Int),0,0,0,[]))) (fun y3=>
 .at ((0,0,[],2)))
 (.no)))
 (.no)))
 (.no)))
 (.no))
 (.no)
def qe2(x0:List UInt8):Option qRG:=qax (qsu x0).ev
theorem qOV(x0):qe2 x0=(qsu x0).ev:=qaa _
theorem ze0:FH IP 88 qY1 q1n qe2:=qag (F:=F88) (L:=[(1008800,qLZ)]) (t:=qsu) qTR (qac (l:=[qad F88 0]) (by kernel_rfl) ⟨qas (by kernel_rfl) zhQ,trivial⟩) (by kernel_rfl) (fun v=>by kernel_rfl) (fun _=>qaa _)
def T31:Tab:=(88,FE qY1 q1n qe2)::T30
theorem qTS:qao IP T31:=⟨qam ze0,qTR⟩
abbrev qeX:Type:=(List UInt8×Int)⊕(List UInt8×Int×List AV)
def qWx:List PSt:=[⟨[(1003900,.junk),(0,.str),(5,.nils 3),(6,.int .i64)],[],0,0⟩,⟨[(1003900,.junk),(0,.str),(5,.own 0 0),(6,.int .i64)],[(0,.arr 3 false)],1,0⟩]
def q75(x0:List UInt8)(x1:Int):X×St:=(.ret,⟨[(2,.nils ⟨3,.nil⟩),(3,.int .i64 0),(4,.int .i64 0)],[],0,0⟩)
def q76(x0:List UInt8)(x1:Int):X×St:=(.ret,
 ⟨[(2,.nils ⟨3,.nil⟩),(3,.int .i64 (IntKind.i64.wrap (x1+((Lib.countByte (List.take (gv (qcv x0)).toNat x0) 10):Int)))),
 (4,.int .i64 (gv (qe2 (List.drop (gv (qcv x0)).toNat x0))).2.2.2)],[],0,0⟩)
def q77(x0:List UInt8)(x1:Int)(x2:List AV):X×St:=(.ret,⟨[(2,.own 0 0 none),(3,.int .i64 0),(4,.int .i64 0)],[(0,.arr 3 x2 false)],1,0⟩)
def q78(x0:List UInt8)(x1:Int)(x2:List AV):X×St:=(.ret,
 ⟨[(2,.nils ⟨3,.nil⟩),(3,.int .i64 (IntKind.i64.wrap (x1+((Lib.countByte (List.take (gv (qcv x0)).toNat x0) 10):Int)))),
 (4,.int .i64 (gv (qe2 (List.drop (gv (qcv x0)).toNat x0))).2.2.2)],[],0,0⟩)
def zoc:List (qeX->X×St):=[fun w=>(k2 q75) ((sl w)),fun w=>(k2 q76) ((sl w)),fun w=>(k3 q77) ((sr w)),fun w=>(k3 q78) ((sr w))]
def qoe(x0:List UInt8)(x1:Int):DT (Rd qeX):=
 .bi (qcv x0) (fun y0=>
 .br (leB y0 x0.length&&true)
 (.br (leB y0 x0.length)
 (.br (List.drop y0.toNat x0== [])
 (.at (.done 0))
 (.bi (qe2 (List.drop y0.toNat x0)) (fun y1=>
 .br (y1.2.2.2 != 0)
 (.at (.done 1))
 (.br (leB (y1.2.2.1.length:Int) (List.drop y0.toNat x0).length)
 (.at (.next ((.inr (List.drop (y1.2.2.1.length:Int).toNat (List.drop y0.toNat x0),IntKind.i64.wrap (x1+((Lib.countByte (List.take y0.toNat x0) 10):Int)),[AV.agg [.int .i64 y1.1,.int .i64 (IntKind.i64.wrap (x1+((Lib.countByte (List.take y0.toNat x0) 10):Int))),AV.str y1.2.2.1]])))))
 (.no)))
 (.no)))
 (.no))
 (.no))
 (.no)
def qof(x0:List UInt8)(x1:Int)(x2:List AV):DT (Rd qeX):=
 .bi (qcv x0) (fun y0=>
 .br (leB y0 x0.length&&true)
 (.br (leB y0 x0.length)
 (.br (List.drop y0.toNat x0== [])
 (.at (.done 2))
 (.bi (qe2 (List.drop y0.toNat x0)) (fun y1=>
 .br (y1.2.2.2 != 0)
 (.at (.done 3))
 (.br (room (x2.length+1) 32)
 (.br (leB (y1.2.2.1.length:Int) (List.drop y0.toNat x0).length)
 (.at (.next ((.inr (List.drop (y1.2.2.1.length:Int).toNat (List.drop y0.toNat x0),IntKind.i64.wrap (x1+((Lib.countByte (List.take y0.toNat x0) 10):Int)),x2++[AV.agg [.int .i64 y1.1,.int .i64 (IntKind.i64.wrap (x1+((Lib.countByte (List.take y0.toNat x0) 10):Int))),AV.str y1.2.2.1]])))))
 (.no))
 (.no)))
 (.no)))
 (.no))
 (.no))
 (.no)
def qhR:qeX->DT (Rd qeX):=(Sum.elim (fun v=>qoe v.1 v.2) (fun v=>qof v.1 v.2.1 v.2.2))
def qqA(v:qeX):Option (Nat×qeX):=qax (qae (fun v=>(qhR v).ev) v)
theorem qvm(v):qqA v=qae (fun v=>(qhR v).ev) v:=qaa _
def qXc:qbS:=LE (τ:=qeX) (hD qWx) (qqA) zoc
theorem znu:Go.Eng.Told IP (qad F39 0).1 (qad F39 0).2 (qXc):=qat (inferInstance:Inhabited qeX) (hs:=qWx) (st:=qhR) (L:=[]) qTS (qac (l:=[]) (by kernel_rfl) trivial) (qvm) (fun v=>match v with|(.inl v)=>by kernel_rfl|(.inr v)=>by kernel_rfl) (fun v=>match v with|(.inl v)=>by kernel_rfl|(.inr v)=>by kernel_rfl)
abbrev qFQ:Type:=List AV×Int×Int
def qX2:PArgs:=⟨[.str],[]⟩
def q0o:List PRes:=[⟨false,.tup [.view 3,.int .i64,.int .i64],[]⟩]
def qru(x0:List UInt8):DT qFQ:=
 .br (decide ((x0.length:Int)>2048))
 (.at (([],0,5)))
 (.bi (pj 0 (qqA (Sum.inl (x0,1)))) (fun y0=>
 .at (([],0,0)))
 (.bi (pj 1 (qqA (Sum.inl (x0,1)))) (fun y0=>
 .at (([],IntKind.i64.wrap ((sl y0).2+((Lib.countByte (List.take (gv (qcv (sl y0).1)).toNat (sl y0).1) 10):Int)),(gv (qe2 (List.drop (gv (qcv (sl y0).1)).toNat (sl y0).1))).2.2.2)))
 (.bi (pj 2 (qqA (Sum.inl (x0,1)))) (fun y0=>
 .at (((sr y0).2.2,0,0)))
 (.bi (pj 3 (qqA (Sum.inl (x0,1)))) (fun y0=>
 .at (([],IntKind.i64.wrap ((sr y0).2.1+((Lib.countByte (List.take (gv (qcv (sr y0).1)).toNat (sr y0).1) 10):Int)),(gv (qe2 (List.drop (gv (qcv (sr y0).1)).toNat (sr y0).1))).2.2.2)))
 (.no)))))
def qj7(x0:List UInt8):Option qFQ:=qax (qru x0).ev
theorem qNZ(x0):qj7 x0=(qru x0).ev:=qaa _
theorem qGV:FH IP 39 qX2 q0o qj7:=qag (F:=F39) (L:=[(1003900,qXc)]) (t:=qru) qTS (qac (l:=[qad F39 0]) (by kernel_rfl) ⟨qas (by kernel_rfl) znu,trivial⟩) (by kernel_rfl) (fun v=>by kernel_rfl) (fun _=>qaa _)
def T32:Tab:=(39,FE qX2 q0o qj7)::T31
theorem q9f:qao IP T32:=⟨qam qGV,qTS⟩
abbrev qRY:Type:=Bool
def qZj:PArgs:=⟨[.int .i64],[]⟩
def q1F:List PRes:=[⟨false,.bool,[]⟩]
def qsL(x0:Int):DT qRY:=
 .bi (br (x0.tmod 4==0) (br (x0.tmod 100 != 0) (some true) (some (x0.tmod 400==0))) (some false)) (fun y0=>
 .at (y0))
 (.no)
def qoW(x0:Int):Option qRY:=qax (qsL x0).ev
theorem qPc(x0):qoW x0=(qsL x0).ev:=qaa _
theorem zfo:FH IP 176 qZj q1F qoW:=fh zoP qsL q9f
def T40:Tab:=(176,FE qZj q1F qoW)::T32
theorem q9m:qao IP T40:=⟨qam zfo,q9f⟩
abbrev qRf:Type:=Int
def qYA:PArgs:=⟨[.int .i64,.int .i64],[]⟩
def q0W:List PRes:=[⟨false,.int .i64,[]⟩]
def qr8(x0 x1:Int):DT qRf:=
 .bi (br (x1==2) (br (sm (qoW x0)) (some (gv (qoW x0))) none) (some false)) (fun y0=>
 .br (y0)
 (.at (29))
 (.br (decide (x1=Int.ofNat 0))
 (.at (0))
 (.br (decide (x1=Int.ofNat 1))
 (.at (31))
 (.br (decide (x1=Int.ofNat 2))
 (.at (28))
 (.br (decide (x1=Int.ofNat 3))
 (.at (31))
 (.br (decide (x1=Int.ofNat 4))
 (.at (30))
 (.br (decide (x1=Int.ofNat 5))
 (.at (31))
 (.br (decide (x1=Int.ofNat 6))
 (.at (30))
 (.br (decide (x1=Int.ofNat 7))
 (.at (31))
 (.br (decide (x1=Int.ofNat 8))
 (.at (31))
 (.br (decide (x1=Int.ofNat 9))
 (.at (30))
 (.br (decide (x1=Int.ofNat 10))
 (.at (31))
 (.br (decide (x1=Int.ofNat 11))
 (.at (30))
 (.br (decide (x1=Int.ofNat 12)) (.at (31)) (.no)))))))))))))))
 (.no)
def qi5(x0 x1:Int):Option qRf:=qax (qr8 x0 x1).ev
theorem qOz(x0 x1):qi5 x0 x1=(qr8 x0 x1).ev:=qaa _
theorem zew:FH IP 119 qYA q0W (k2 qi5):=fh zow (k2 qr8) q9m
def T41:Tab:=(119,FE qYA q0W (k2 qi5))::T40
theorem q9n:qao IP T41:=⟨qam zew,q9m⟩
abbrev qRC:Type:=Int
def qYY:PArgs:=⟨[.int .i64],[]⟩
def q1k:List PRes:=[⟨false,.int .i64,[]⟩]
def qsr(x0:Int):DT qRC:=
 .br (decide (x0>2100))
 (.at (IntKind.i64.wrap (IntKind.i64.wrap (365*IntKind.i64.wrap (x0-2000))+IntKind.i64.wrap (IntKind.i64.wrap ((IntKind.i64.wrap (IntKind.i64.wrap (x0-2000)+3)).tdiv 4)-1))))
 (.at (IntKind.i64.wrap (IntKind.i64.wrap (365*IntKind.i64.wrap (x0-2000))+IntKind.i64.wrap ((IntKind.i64.wrap (IntKind.i64.wrap (x0-2000)+3)).tdiv 4))))
def qmy(x0:Int):Option qRC:=qax (qsr x0).ev
theorem qOS(x0):qmy x0=(qsr x0).ev:=qaa _
theorem zeU:FH IP 118 qYY q1k qmy:=fh zov qsr q9n
def T42:Tab:=(118,FE qYY q1k qmy)::T41
theorem qTV:qao IP T42:=⟨qam zeU,q9n⟩
end
end Go.Proofs.H16
namespace Go.Proofs.H16
open Go Go.Eng
set_option maxRecDepth 100000
noncomputable section
abbrev qQM:Type:=List AV
def qX0:PArgs:=⟨[],[]⟩
def q0m:List PRes:=[⟨false,.view 1,[]⟩]
def qrs:DT qQM:=
 .at ([AV.str ([]++[97]++[99]++[116]++[51]++[54]++[48]),AV.str ([]++[97]++[99]++[116]++[51]++[54]++[53]),
 AV.str ([]++[97]++[99]++[116]++[117]++[97]++[108]),AV.str ([]++[116]++[104]++[105]++[114]++[116]++[121])])
def qhG:Option qQM:=qax (qrs).ev
theorem qNX:qhG=(qrs).ev:=qaa _
theorem zdT:FH IP 60 qX0 q0m (fun _=>qhG):=qag (F:=F60) (L:=[]) (t:=(fun _=>qrs)) qTV (qac (l:=[]) (by kernel_rfl) trivial) (by kernel_rfl) (fun v=>by kernel_rfl) (fun _=>qaa _)
def T47:Tab:=(60,FE qX0 q0m (fun _=>qhG))::T42
theorem q9r:qao IP T47:=⟨qam zdT,qTV⟩
abbrev qQN:Type:=List AV
def qX1:PArgs:=⟨[],[]⟩
def q0n:List PRes:=[⟨false,.view 1,[]⟩]
def qrt:DT qQN:=
 .at ([AV.str ([]++[100]++[111]++[119]++[110]),AV.str ([]++[117]++[112]),AV.str ([]++[102]++[108]++[111]++[111]++[114]),
 AV.str ([]++[99]++[101]++[105]++[108]),AV.str ([]++[104]++[97]++[108]++[102]++[95]++[117]++[112]),
 AV.str ([]++[104]++[97]++[108]++[102]++[95]++[101]++[118]++[101]++[110])])
def qhH:Option qQN:=qax (qrt).ev
theorem qNY:qhH=(qrt).ev:=qaa _
theorem zdU:FH IP 61 qX1 q0n (fun _=>qhH):=qag (F:=F61) (L:=[]) (t:=(fun _=>qrt)) q9r (qac (l:=[]) (by kernel_rfl) trivial) (by kernel_rfl) (fun v=>by kernel_rfl) (fun _=>qaa _)
def T48:Tab:=(61,FE qX1 q0n (fun _=>qhH))::T47
theorem qTX:qao IP T48:=⟨qam zdU,q9r⟩
abbrev q8W:Type:=List AV
def zbK:PArgs:=⟨[],[]⟩
def zcC:List PRes:=[⟨false,.view 1,[]⟩]
def qCY:DT q8W:=
 .at ([AV.str ([]++[109]++[111]++[110]++[116]++[104]),AV.str ([]++[100]++[101]++[98]++[105]++[116]),
 AV.str ([]++[114]++[101]++[116]++[117]++[114]++[110]),AV.str ([]++[99]++[108]++[111]++[115]++[101])])
def qqx:Option q8W:=qax (qCY).ev
theorem qVZ:qqx=(qCY).ev:=qaa _
theorem zlx:FH IP 20 zbK zcC (fun _=>qqx):=qag (F:=F20) (L:=[]) (t:=(fun _=>qCY)) qTX (qac (l:=[]) (by kernel_rfl) trivial) (by kernel_rfl) (fun v=>by kernel_rfl) (fun _=>qaa _)
def T50:Tab:=(20,FE zbK zcC (fun _=>qqx))::T48
theorem q9t:qao IP T50:=⟨qam zlx,qTX⟩
abbrev q8V:Type:=List AV
def zbI:PArgs:=⟨[],[]⟩
def zcA:List PRes:=[⟨false,.view 1,[]⟩]
def qCV:DT q8V:=
 .at ([AV.str ([]++[115]++[105]++[110]++[103]++[108]++[101]),AV.str ([]++[100]++[97]++[105]++[108]++[121]),
 AV.str ([]++[109]++[111]++[110]++[116]++[104]++[108]++[121])])
def ql5:Option q8V:=qax (qCV).ev
theorem qVX:ql5=(qCV).ev:=qaa _
theorem zlu:FH IP 23 zbI zcA (fun _=>ql5):=qag (F:=F23) (L:=[]) (t:=(fun _=>qCV)) q9t (qac (l:=[]) (by kernel_rfl) trivial) (by kernel_rfl) (fun v=>by kernel_rfl) (fun _=>qaa _)
def T52:Tab:=(23,FE zbI zcA (fun _=>ql5))::T50
theorem qT0:qao IP T52:=⟨qam zlu,q9t⟩
end
end Go.Proofs.H16
namespace Go.Proofs.H16
open Go Go.Eng
set_option maxRecDepth 100000
noncomputable section
abbrev qiP:Type:=List UInt8×Int×Int
def qWm:List PSt:=[⟨[(1005000,.junk),(0,.str),(7,.int .i64),(8,.int .i64)],[],0,0⟩]
def q7K(x0:List UInt8)(x1 x2:Int):X×St:=(.ret,⟨[(0,.str x0),(2,.str []),(3,.bool false)],[],0,0⟩)
def q7L(x0:List UInt8)(x1 x2:Int):X×St:=(.exit 0,⟨[(0,.str x0),(2,.junk),(3,.junk)],[],0,0⟩)
def zn1:List (qiP->X×St):=[(k3 q7K),(k3 q7L)]
def qwL(x0:List UInt8)(x1 x2:Int):DT (Rd qiP):=
 .br (decide (x2<x1))
 (.br (inB x0.length x2)
 (.bi (br (decide (qai x0 x2<65)) (some true) (br (inB x0.length x2) (some (decide (qai x0 x2>90))) none)) (fun y0=>
 .br (y0) (.at (.done 0)) (.at (.next ((x0,x1,IntKind.i64.wrap (x2+1))))))
 (.no))
 (.no))
 (.at (.done 1))
def qwK:qiP->DT (Rd qiP):=(fun v=>qwL v.1 v.2.1 v.2.2)
def qD3(v:qiP):Option (Nat×qiP):=qax (qae (fun v=>(qwK v).ev) v)
theorem qD4(v):qD3 v=qae (fun v=>(qwK v).ev) v:=qaa _
def qW1:qbS:=LE (τ:=qiP) (hD qWm) (qD3) zn1
theorem znj:Go.Eng.Told IP (qad F50 0).1 (qad F50 0).2 (qW1):=lp (inferInstance:Inhabited qiP) (hs:=qWm) qwK qT0 qD4
abbrev q8L:Type:=List UInt8×Bool
def zbx:PArgs:=⟨[.str],[]⟩
def zcp:List PRes:=[⟨false,.tup [.str,.bool],[]⟩]
def qCI(x0:List UInt8):DT q8L:=
 .bi (pj 0 (qD3 (x0,(x0.length:Int),0))) (fun y0=>
 .at (([],false)))
 (.bi (pj 1 (qD3 (x0,(x0.length:Int),0))) (fun y0=>
 .br (decide (y0.1.length<=1000000)&&qDg y0.1)
 (.bi (br ((y0.1.length:Int)==3) (br (sm (qbU (Lib.toLowerA y0.1))) (some !gv (qbU (Lib.toLowerA y0.1))) none) (some false)) (fun y1=>
 .at ((Lib.toLowerA y0.1,y1)))
 (.no))
 (.no))
 (.no))
def qyc(x0:List UInt8):Option q8L:=qax (qCI x0).ev
theorem qVL(x0):qyc x0=(qCI x0).ev:=qaa _
theorem zli:FH IP 50 zbx zcp qyc:=qag (F:=F50) (L:=[(1005000,qW1)]) (t:=qCI) qT0 (qac (l:=[qad F50 0]) (by kernel_rfl) ⟨qas (by kernel_rfl) znj,trivial⟩) (by kernel_rfl) (fun v=>by kernel_rfl) (fun _=>qaa _)
def T55:Tab:=(50,FE zbx zcp qyc)::T52
theorem q9v:qao IP T55:=⟨qam zli,qT0⟩
abbrev qQT:Type:=Bool
def qX8:PArgs:=⟨[.str],[]⟩
def q0u:List PRes:=[⟨false,.bool,[]⟩]
def qrB(x0:List UInt8):DT qQT:=
 .bi (qj7 x0) (fun y0=>
 .bi (br (y0.2.2==0) (some ((y0.1.length:Int)==1)) (some false)) (fun y1=>
 .bi (br y1 (br (qaD [.int .i64,.int .i64,.str] y0.1 0) (some (intOf (cellAt y0.1 0 0)==1)) none) (some false)) (fun y2=>
 .bi (br y2 (br (qaD [.int .i64,.int .i64,.str] y0.1 0) (some (strOf (cellAt y0.1 0 2)==x0)) none) (some false)) (fun y3=>
 .at (y3))
 (.no))
 (.no))
 (.no))
 (.no)
def qhI(x0:List UInt8):Option qQT:=qax (qrB x0).ev
theorem qN6(x0):qhI x0=(qrB x0).ev:=qaa _
theorem zd1:FH IP 51 qX8 q0u qhI:=fh F51 qrB q9v
def T56:Tab:=(51,FE qX8 q0u qhI)::T55
theorem q9w:qao IP T56:=⟨qam zd1,q9v⟩
abbrev qRB:Type:=Bool
def qYX:PArgs:=⟨[.int .i64],[]⟩
def q1j:List PRes:=[⟨false,.bool,[]⟩]
def qoo(x0:Int):DT qRB:=
 .bi (br (decide (x0>=0)) (some (decide (x0<=73048))) (some false)) (fun y0=>
 .at (y0))
 (.no)
def qkd(x0:Int):Option qRB:=qax (qoo x0).ev
theorem qx7(x0):qkd x0=(qoo x0).ev:=qaa _
theorem zeT:FH IP 52 qYX q1j qkd:=fh F52 qoo q9w
def T57:Tab:=(52,FE qYX q1j qkd)::T56
theorem q9x:qao IP T57:=⟨qam zeT,q9w⟩
abbrev qQU:Type:=Bool
def qX9:PArgs:=⟨[.int .i64],[]⟩
def q0v:List PRes:=[⟨false,.bool,[]⟩]
def qrC(x0:Int):DT qQU:=
 .bi (br (decide (x0>=0)) (some (decide (x0<=1000000))) (some false)) (fun y0=>
 .at (y0))
 (.no)
def qj9(x0:Int):Option qQU:=qax (qrC x0).ev
theorem qN7(x0):qj9 x0=(qrC x0).ev:=qaa _
theorem zd2:FH IP 53 qX9 q0v qj9:=fh F53 qrC q9x
def T58:Tab:=(53,FE qX9 q0v qj9)::T57
theorem qT2:qao IP T58:=⟨qam zd2,q9x⟩
abbrev qhA:Type:=List AV×Int×Int×List AV×Bool×Int×Int×Bool
def qWn:List PSt:=[⟨[(1005400,.junk),(1,.ref 0 0 0),(6,.view 2),(7,.int .i64),(8,.int .i64)],[(0,.box [.view 2,.bool,.int .i64,.int .i64,.bool] false)],1,0⟩]
def q7M(x0:List AV)(x1 x2:Int)(x3:List AV)(x4:Bool)(x5 x6:Int)(x7:Bool):X×St:=(.ret,
 ⟨[(1,.ref 0 0 0),(2,.bool false)],[(0,.box [.view 2 x3,.bool x4,.int .i64 x5,.int .i64 x6,.bool x7] false)],1,0⟩)
def q7N(x0:List AV)(x1 x2:Int)(x3:List AV)(x4:Bool)(x5 x6:Int)(x7:Bool):X×St:=(.exit 0,
 ⟨[(1,.ref 0 0 0),(2,.junk)],[(0,.box [.view 2 x3,.bool x4,.int .i64 x5,.int .i64 x6,.bool x7] false)],1,0⟩)
def zn2:List (qhA->X×St):=[(k8 q7M),(k8 q7N)]
def qwN(x0:List AV)(x1 x2:Int)(x3:List AV)(x4:Bool)(x5 x6:Int)(x7:Bool):DT (Rd qhA):=
 .br (decide (x2<x1))
 (.br (qaD [.int .i64,.int .i64] x0 x2)
 (.bi (br (decide (intOf (cellAt x0 x2 0)<0)) (some true) (br (sm (qj9 (intOf (cellAt x0 x2 1)))) (some !gv (qj9 (intOf (cellAt x0 x2 1)))) none)) (fun y0=>
 .br (y0) (.at (.done 0)) (.at (.next ((x0,x1,IntKind.i64.wrap (x2+1),x3,x4,x5,x6,x7)))))
 (.no))
 (.no))
 (.at (.done 1))
def qwM:qhA->DT (Rd qhA):=(fun v=>qwN v.1 v.2.1 v.2.2.1 v.2.2.2.1 v.f.1 v.f.2.1 v.f.2.2.1 v.f.2.2.2)
def qD5(v:qhA):Option (Nat×qhA):=qax (qae (fun v=>(qwM v).ev) v)
theorem qD6(v):qD5 v=qae (fun v=>(qwM v).ev) v:=qaa _
def qW2:qbS:=LE (τ:=qhA) (hD qWn) (qD5) zn2
theorem znk:Go.Eng.Told IP (qad F54 0).1 (qad F54 0).2 (qW2):=lp (inferInstance:Inhabited qhA) (hs:=qWn) qwM qT2 qD6
abbrev q8X:Type:=Bool
def zbL:PArgs:=⟨[.int .i64,.view 1],[]⟩
def zcD:List PRes:=[⟨false,.bool,[]⟩]
def qCZ(x0:Int)(x1:List AV):DT q8X:=
 .bi (br (decide (x0>=1)) (some (decide (x0<=(x1.length:Int)))) (some false)) (fun y0=>
 .at (y0))
 (.no)
def qqy(x0:Int)(x1:List AV):Option q8X:=qax (qCZ x0 x1).ev
theorem qV0(x0 x1):qqy x0 x1=(qCZ x0 x1).ev:=qaa _
theorem zly:FH IP 55 zbL zcD (k2 qqy):=fh F55 (k2 qCZ) qT2
def T59:Tab:=(55,FE zbL zcD (k2 qqy))::T58
theorem q9y:qao IP T59:=⟨qam zly,qT2⟩
abbrev q8M:Type:=Bool
def zby:PArgs:=⟨[.agg [.view 2,.bool,.int .i64,.int .i64,.bool]],[]⟩
def zcq:List PRes:=[⟨false,.bool,[]⟩]
def qCJ(x0:List AV)(x1:Bool)(x2 x3:Int)(x4:Bool):DT q8M:=
 .bi (pj 0 (qD5 (x0,(x0.length:Int),0,x0,x1,x2,x3,x4))) (fun y0=>
 .at (false))
 (.bi (pj 1 (qD5 (x0,(x0.length:Int),0,x0,x1,x2,x3,x4))) (fun y0=>
 .bi (qhG) (fun y1=>
 .bi (qqy y0.f.2.1 y1) (fun y2=>
 .br (y2)
 (.bi (qhH) (fun y3=>
 .bi (qqy y0.f.2.2.1 y3) (fun y4=>
 .at (y4))
 (.no))
 (.no))
 (.at (false)))
 (.no))
 (.no))
 (.no))
def qqw(x0:List AV)(x1:Bool)(x2 x3:Int)(x4:Bool):Option q8M:=qax (qCJ x0 x1 x2 x3 x4).ev
theorem qVM(x0 x1 x2 x3 x4):qqw x0 x1 x2 x3 x4=(qCJ x0 x1 x2 x3 x4).ev:=qaa _
theorem zlj:FH IP 54 zby zcq (k5 qqw):=qag (F:=F54) (L:=[(1005400,qW2)]) (t:=(k5 qCJ)) q9y (qac (l:=[qad F54 0]) (by kernel_rfl) ⟨qas (by kernel_rfl) znk,trivial⟩) (by kernel_rfl) (fun v=>by kernel_rfl) (fun _=>qaa _)
def T60:Tab:=(54,FE zby zcq (k5 qqw))::T59
theorem q9z:qao IP T60:=⟨qam zlj,q9y⟩
abbrev qF2:Type:=Int
def qvL:PArgs:=⟨[.agg [.int .i64,.int .i64,.str,.view 4]],[]⟩
def qwc:List PRes:=[⟨false,.int .i64,[]⟩]
abbrev qdG:Type:=Int->Int->(List UInt8)->(List AV)->Option qF2
def qzR(G_u230q:qdG):Prop:=FH IP 113 qvL qwc (k4 G_u230q)
def q5h(G_u230q:qdG):Tab:=(113,FE qvL qwc (k4 G_u230q))::T60
theorem qtr(G_u230q:qdG)(hG:qzR G_u230q):qao IP (q5h G_u230q):=⟨qam (hG),q9z⟩
abbrev qfu:Type:=Int×List AV×Int×Int
def qKG:List PSt:=[⟨[(1011300,.junk),(3,.int .i64),(7,.view 4),(8,.int .i64),(9,.int .i64)],[],0,0⟩]
def q3Z(x0:Int)(x1:List AV)(x2 x3:Int):X×St:=(.exit 0,⟨[(3,.int .i64 x0)],[],0,0⟩)
def ziW:List (qfu->X×St):=[(k4 q3Z)]
def qpN(G_u230q:qdG)(x0:Int)(x1:List AV)(x2 x3:Int):DT (Rd qfu):=
 .br (decide (x3<x2))
 (.br (qaD [.int .i64,.int .i64,.str,.slice 4] x1 x3)
 (.bi (G_u230q (intOf (cellAt x1 x3 0)) (intOf (cellAt x1 x3 1)) (strOf (cellAt x1 x3 2)) (qap (cellAt x1 x3 3))) (fun y0=>
 .at (.next ((IntKind.i64.wrap (x0+y0),x1,x2,IntKind.i64.wrap (x3+1)))))
 (.no))
 (.no))
 (.at (.done 0))
def qnZ(G_u230q:qdG):qfu->DT (Rd qfu):=(fun v=>qpN G_u230q v.1 v.2.1 v.2.2.1 v.2.2.2)
def qAP(G_u230q:qdG)(v:qfu):Option (Nat×qfu):=qax (qae (fun v=>(qnZ G_u230q v).ev) v)
theorem qyB(G_u230q v):qAP G_u230q v=qae (fun v=>(qnZ G_u230q v).ev) v:=qaa _
def qLW(G_u230q:qdG):qbS:=LE (τ:=qfu) (hD qKG) (qAP G_u230q) ziW
theorem zhN(G_u230q:qdG)(hG:qzR G_u230q):Go.Eng.Told IP (qad zcX 0).1 (qad zcX 0).2 (qLW G_u230q):=qat (inferInstance:Inhabited qfu) (hs:=qKG) (st:=qnZ G_u230q) (L:=[]) (qtr G_u230q hG) (qac (l:=[]) (by kernel_rfl) trivial) (qyB G_u230q) (fun v=>by kernel_rfl) (fun v=>by kernel_rfl)
def qB6(G_u230q:qdG)(x0 x1:Int)(x2:List UInt8)(x3:List AV):DT qF2:=
 .bi (pj 0 (qAP G_u230q (1,x3,(x3.length:Int),0))) (fun y0=>
 .at (y0.1))
 (.no)
def qhw:Nat->qdG
 |0=>fun _ _ _ _=>none
 |n+1=>fun x0 x1 x2 x3=>(qB6 ((qhw n)) x0 x1 x2 x3).ev
def qAw(x0 x1:Int)(x2:List UInt8)(x3:List AV):Option qF2:=qjW fun n=>(qhw n) x0 x1 x2 x3
theorem qxE:∀n,qzR ((qhw n))
 |0=>(fun v y h=>nomatch h)
 |n+1=>have hG:=qxE n
 qag (F:=zcX) (L:=[(1011300,qLW ((qhw n)))]) (t:=(k4 (qB6 ((qhw n))))) (qtr ((qhw n)) hG) (qac (l:=[qad zcX 0]) (by kernel_rfl) ⟨qas (by kernel_rfl) (zhN ((qhw n)) hG),trivial⟩) (by kernel_rfl) (fun v=>by kernel_rfl) (fun v=>rfl)
theorem zeV:FH IP 113 qvL qwc (k4 qAw):=qbM (p:=qvL) (rs:=qwc) (s:=fun n=>(k4 ((qhw n)))) fun n=>(qxE n)
def T61:Tab:=(113,FE qvL qwc (k4 qAw))::T60
theorem q9A:qao IP T61:=⟨qam zeV,q9z⟩
abbrev qF3:Type:=Int
def qvM:PArgs:=⟨[.agg [.int .i64,.int .i64,.str,.view 4]],[]⟩
def qwd:List PRes:=[⟨false,.int .i64,[]⟩]
abbrev qdH:Type:=Int->Int->(List UInt8)->(List AV)->Option qF3
def qzS(G_u231q:qdH):Prop:=FH IP 114 qvM qwd (k4 G_u231q)
def q5i(G_u231q:qdH):Tab:=(114,FE qvM qwd (k4 G_u231q))::T61
theorem qts(G_u231q:qdH)(hG:qzS G_u231q):qao IP (q5i G_u231q):=⟨qam (hG),q9A⟩
abbrev qfv:Type:=Int×List AV×Int×Int
def qKH:List PSt:=[⟨[(1011400,.junk),(3,.int .i64),(7,.view 4),(8,.int .i64),(9,.int .i64)],[],0,0⟩]
def q30(x0:Int)(x1:List AV)(x2 x3:Int):X×St:=(.exit 0,⟨[(3,.int .i64 x0)],[],0,0⟩)
def ziX:List (qfv->X×St):=[(k4 q30)]
def qpO(G_u231q:qdH)(x0:Int)(x1:List AV)(x2 x3:Int):DT (Rd qfv):=
 .br (decide (x3<x2))
 (.br (qaD [.int .i64,.int .i64,.str,.slice 4] x1 x3)
 (.bi (G_u231q (intOf (cellAt x1 x3 0)) (intOf (cellAt x1 x3 1)) (strOf (cellAt x1 x3 2)) (qap (cellAt x1 x3 3))) (fun y0=>
 .at (.next ((if y0>x0 then y0 else x0,x1,x2,IntKind.i64.wrap (x3+1)))))
 (.no))
 (.no))
 (.at (.done 0))
def qn0(G_u231q:qdH):qfv->DT (Rd qfv):=(fun v=>qpO G_u231q v.1 v.2.1 v.2.2.1 v.2.2.2)
def qAQ(G_u231q:qdH)(v:qfv):Option (Nat×qfv):=qax (qae (fun v=>(qn0 G_u231q v).ev) v)
theorem qyC(G_u231q v):qAQ G_u231q v=qae (fun v=>(qn0 G_u231q v).ev) v:=qaa _
def qLX(G_u231q:qdH):qbS:=LE (τ:=qfv) (hD qKH) (qAQ G_u231q) ziX
theorem zhO(G_u231q:qdH)(hG:qzS G_u231q):Go.Eng.Told IP (qad zcY 0).1 (qad zcY 0).2 (qLX G_u231q):=qat (inferInstance:Inhabited qfv) (hs:=qKH) (st:=qn0 G_u231q) (L:=[]) (qts G_u231q hG) (qac (l:=[]) (by kernel_rfl) trivial) (qyC G_u231q) (fun v=>by kernel_rfl) (fun v=>by kernel_rfl)
def qB7(G_u231q:qdH)(x0 x1:Int)(x2:List UInt8)(x3:List AV):DT qF3:=
 .bi (pj 0 (qAQ G_u231q (0,x3,(x3.length:Int),0))) (fun y0=>
 .at (IntKind.i64.wrap (y0.1+1)))
 (.no)
def qhx:Nat->qdH
 |0=>fun _ _ _ _=>none
 |n+1=>fun x0 x1 x2 x3=>(qB7 ((qhx n)) x0 x1 x2 x3).ev
def quf(x0 x1:Int)(x2:List UInt8)(x3:List AV):Option qF3:=qjW fun n=>(qhx n) x0 x1 x2 x3
theorem qxF:∀n,qzS ((qhx n))
 |0=>(fun v y h=>nomatch h)
 |n+1=>have hG:=qxF n
 qag (F:=zcY) (L:=[(1011400,qLX ((qhx n)))]) (t:=(k4 (qB7 ((qhx n))))) (qts ((qhx n)) hG) (qac (l:=[qad zcY 0]) (by kernel_rfl) ⟨qas (by kernel_rfl) (zhO ((qhx n)) hG),trivial⟩) (by kernel_rfl) (fun v=>by kernel_rfl) (fun v=>rfl)
theorem zeW:FH IP 114 qvM qwd (k4 quf):=qbM (p:=qvM) (rs:=qwd) (s:=fun n=>(k4 ((qhx n)))) fun n=>(qxF n)
def T62:Tab:=(114,FE qvM qwd (k4 quf))::T61
theorem q9B:qao IP T62:=⟨qam zeW,q9A⟩
abbrev qQR:Type:=Int
def qX6:PArgs:=⟨[.int .i64],[]⟩
def q0s:List PRes:=[⟨false,.int .i64,[]⟩]
def qrz(x0:Int):DT qQR:=
 .br (x0==1)
 (.br (x0==1)
 (.at (0))
 (.br (x0==9)
 (.br (x0==9)
 (.at (1))
 (.br (x0==19)
 (.at (3))
 (.bi (br (decide (x0>=5)) (some (decide (x0<=18))) (some false)) (fun y0=>
 .br (y0) (.at (2)) (.at (-1)))
 (.no))))
 (.br (x0==16)
 (.at (1))
 (.br (x0==19)
 (.at (3))
 (.bi (br (decide (x0>=5)) (some (decide (x0<=18))) (some false)) (fun y0=>
 .br (y0) (.at (2)) (.at (-1)))
 (.no))))))
 (.br (x0==2)
 (.br (x0==2)
 (.at (0))
 (.br (x0==9)
 (.br (x0==9)
 (.at (1))
 (.br (x0==19)
 (.at (3))
 (.bi (br (decide (x0>=5)) (some (decide (x0<=18))) (some false)) (fun y0=>
 .br (y0) (.at (2)) (.at (-1)))
 (.no))))
 (.br (x0==16)
 (.at (1))
 (.br (x0==19)
 (.at (3))
 (.bi (br (decide (x0>=5)) (some (decide (x0<=18))) (some false)) (fun y0=>
 .br (y0) (.at (2)) (.at (-1)))
 (.no))))))
 (.br (x0==3)
 (.br (x0==3)
 (.at (0))
 (.br (x0==9)
 (.br (x0==9)
 (.at (1))
 (.br (x0==19)
 (.at (3))
 (.bi (br (decide (x0>=5)) (some (decide (x0<=18))) (some false)) (fun y0=>
 .br (y0) (.at (2)) (.at (-1)))
 (.no))))
 (.br (x0==16)
 (.at (1))
 (.br (x0==19)
 (.at (3))
 (.bi (br (decide (x0>=5)) (some (decide (x0<=18))) (some false)) (fun y0=>
 .br (y0) (.at (2)) (.at (-1)))
 (.no))))))
 (.br (x0==4)
 (.at (0))
 (.br (x0==9)
 (.br (x0==9)
 (.at (1))
 (.br (x0==19)
 (.at (3))
 (.bi (br (decide (x0>=5)) (some (decide (x0<=18))) (some false)) (fun y0=>
 .br (y0) (.at (2)) (.at (-1)))
 (.no))))
 (.br (x0==16)
 (.at (1))
 (.br (x0==19)
 (.at (3))
 (.bi (br (decide (x0>=5)) (some (decide (x0<=18))) (some false)) (fun y0=>
 .br (y0) (.at (2)) (.at (-1)))
 (.no))))))))
def qj8(x0:Int):Option qQR:=qax (qrz x0).ev
theorem qN4(x0):qj8 x0=(qrz x0).ev:=qaa _
theorem zdZ:FH IP 174 qX6 q0s qj8:=fh zoN qrz q9B
def T63:Tab:=(174,FE qX6 q0s qj8)::T62
theorem q9C:qao IP T63:=⟨qam zdZ,q9B⟩
abbrev qRh:Type:=Bool
def qYC:PArgs:=⟨[.agg [.int .i64,.int .i64,.str,.view 4]],[]⟩
def q0Y:List PRes:=[⟨false,.bool,[]⟩]
def qsa(x0 x1:Int)(x2:List UInt8)(x3:List AV):DT qRh:=
 .br (x0==1)
 (.bi (qj8 x0) (fun y0=>
 .br (y0==(x3.length:Int))
 (.br (decide (x1>=0))
 (.br (decide (x1<=9223372036854775807))
 (.br (x2== []) (.at (true)) (.at (x0==4)))
 (.at (false)))
 (.at (false)))
 (.at (false)))
 (.no))
 (.br (x0==2)
 (.bi (qj8 x0) (fun y0=>
 .br (y0==(x3.length:Int))
 (.br (decide (x1>=0))
 (.br (decide (x1<=1000000000000))
 (.br (x2== []) (.at (true)) (.at (x0==4)))
 (.at (false)))
 (.at (false)))
 (.at (false)))
 (.no))
 (.br (x0==3)
 (.bi (qj8 x0) (fun y0=>
 .br (y0==(x3.length:Int))
 (.br (decide (x1>=0))
 (.br (decide (x1<=1000000))
 (.br (x2== []) (.at (true)) (.at (x0==4)))
 (.at (false)))
 (.at (false)))
 (.at (false)))
 (.no))
 (.bi (qj8 x0) (fun y0=>
 .br (y0==(x3.length:Int))
 (.br (decide (x1>=0))
 (.br (decide (x1<=0))
 (.br (x2== []) (.at (true)) (.at (x0==4)))
 (.at (false)))
 (.at (false)))
 (.at (false)))
 (.no))))
def qt6(x0 x1:Int)(x2:List UInt8)(x3:List AV):Option qRh:=qax (qsa x0 x1 x2 x3).ev
theorem qOB(x0 x1 x2 x3):qt6 x0 x1 x2 x3=(qsa x0 x1 x2 x3).ev:=qaa _
theorem zez:FH IP 116 qYC q0Y (k4 qt6):=fh zot (k4 qsa) q9C
def T64:Tab:=(116,FE qYC q0Y (k4 qt6))::T63
theorem q9D:qao IP T64:=⟨qam zez,q9C⟩
abbrev qF4:Type:=Bool
def qvN:PArgs:=⟨[.agg [.int .i64,.int .i64,.str,.view 4],.fn (.func 116) []],[]⟩
def qwe:List PRes:=[⟨false,.bool,[]⟩]
abbrev qcz:Type:=Int->Int->(List UInt8)->(List AV)->Option qF4
abbrev zcR:Type:=Bool
def qYI:PArgs:=⟨[.view 4,.fn (.func 173) [.ptr [.fn (.func 116) []]]],[]⟩
def q04:List PRes:=[⟨false,.bool,[]⟩]
abbrev qhb:Type:=(List AV)->Option zcR
abbrev zcU:Type:=Int
def qZR:PArgs:=⟨[.view 4,.fn (.func 173) [.ptr [.fn (.func 116) []]]],[]⟩
def q2m:List PRes:=[⟨false,.int .i64,[]⟩]
abbrev qhd:Type:=(List AV)->Option zcU
abbrev qFX:Type:=Bool
def qvF:PArgs:=⟨[.agg [.int .i64,.int .i64,.str,.view 4],.ptr [.fn (.func 116) []]],[]⟩
def qv6:List PRes:=[⟨false,.bool,[]⟩]
abbrev qcx:Type:=Int->Int->(List UInt8)->(List AV)->Option qFX
def qzT(G_u232q:qcz)(G_u1q:qhb)(G_u5q:qhd)(G_u156q:qcx):Prop:=FH IP 115 qvN qwe (k4 G_u232q)/\FH IP 172 qYI q04 G_u1q/\FH IP 217 qZR q2m G_u5q/\FH IP 173 qvF qv6 (k4 G_u156q)
def q5j(G_u232q:qcz)(G_u1q:qhb)(G_u5q:qhd)(G_u156q:qcx):Tab:=(115,FE qvN qwe (k4 G_u232q))::(172,FE qYI q04 G_u1q)::(217,FE qZR q2m G_u5q)::(173,FE qvF qv6 (k4 G_u156q))::T64
theorem qgn(G_u232q:qcz)(G_u1q:qhb)(G_u5q:qhd)(G_u156q:qcx)(hG:qzT G_u232q G_u1q G_u5q G_u156q):qao IP (q5j G_u232q G_u1q G_u5q G_u156q):=⟨qam (hG.1),qam (hG.2.1),qam (hG.2.2.1),qam (hG.2.2.2),q9D⟩
abbrev qnc:Type:=List AV×Int×Int
def zaB:List PSt:=[⟨[(1021700,.junk),(0,.view 4),(1,.fn (.func 173) [.ptr [.fn (.func 116) []]]),(7,.int .i64),(8,.int .i64)],[],0,0⟩]
def zjz(x0:List AV)(x1 x2:Int):X×St:=(.ret,⟨[(4,.int .i64 x2)],[],0,0⟩)
def zjA(x0:List AV)(x1 x2:Int):X×St:=(.exit 0,⟨[(4,.junk)],[],0,0⟩)
def ztp:List (qnc->X×St):=[(k3 zjz),(k3 zjA)]
def qBP(G_u232q:qcz)(G_u1q:qhb)(G_u5q:qhd)(G_u156q:qcx)(x0:List AV)(x1 x2:Int):DT (Rd qnc):=
 .br (decide (x2<x1))
 (.br (qaD [.int .i64,.int .i64,.str,.slice 4] x0 x2)
 (.bi (G_u156q (intOf (cellAt x0 x2 0)) (intOf (cellAt x0 x2 1)) (strOf (cellAt x0 x2 2)) (qap (cellAt x0 x2 3))) (fun y0=>
 .br (y0) (.at (.done 0)) (.at (.next ((x0,x1,IntKind.i64.wrap (x2+1))))))
 (.no))
 (.no))
 (.at (.done 1))
def qFn(G_u232q:qcz)(G_u1q:qhb)(G_u5q:qhd)(G_u156q:qcx):qnc->DT (Rd qnc):=(fun v=>qBP G_u232q G_u1q G_u5q G_u156q v.1 v.2.1 v.2.2)
def qWH(G_u232q:qcz)(G_u1q:qhb)(G_u5q:qhd)(G_u156q:qcx)(v:qnc):Option (Nat×qnc):=qax (qae (fun v=>(qFn G_u232q G_u1q G_u5q G_u156q v).ev) v)
theorem qLs(G_u232q G_u1q G_u5q G_u156q v):qWH G_u232q G_u1q G_u5q G_u156q v=qae (fun v=>(qFn G_u232q G_u1q G_u5q G_u156q v).ev) v:=qaa _
def zaN(G_u232q:qcz)(G_u1q:qhb)(G_u5q:qhd)(G_u156q:qcx):qbS:=LE (τ:=qnc) (hD zaB) (qWH G_u232q G_u1q G_u5q G_u156q) ztp
theorem ztc(G_u232q:qcz)(G_u1q:qhb)(G_u5q:qhd)(G_u156q:qcx)(hG:qzT G_u232q G_u1q G_u5q G_u156q):Go.Eng.Told IP (qad qSJ 0).1 (qad qSJ 0).2 (zaN G_u232q G_u1q G_u5q G_u156q):=qat (inferInstance:Inhabited qnc) (hs:=zaB) (st:=qFn G_u232q G_u1q G_u5q G_u156q) (L:=[]) (qgn G_u232q G_u1q G_u5q G_u156q hG) (qac (l:=[]) (by kernel_rfl) trivial) (qLs G_u232q G_u1q G_u5q G_u156q) (fun v=>by kernel_rfl) (fun v=>by kernel_rfl)
def qB8(G_u232q:qcz)(G_u1q:qhb)(G_u5q:qhd)(G_u156q:qcx)(x0 x1:Int)(x2:List UInt8)(x3:List AV):DT qF4:=
 .bi (qt6 x0 x1 x2 x3) (fun y0=>
 .bi (br y0 (br (sm (G_u1q x3)) (some !gv (G_u1q x3)) none) (some false)) (fun y1=>
 .at (y1))
 (.no))
 (.no)
def q2Z(G_u232q:qcz)(G_u1q:qhb)(G_u5q:qhd)(G_u156q:qcx)(x0:List AV):DT zcR:=
 .bi (G_u5q x0) (fun y0=>
 .at (decide (y0>=0)))
 (.no)
def q21(G_u232q:qcz)(G_u1q:qhb)(G_u5q:qhd)(G_u156q:qcx)(x0:List AV):DT zcU:=
 .bi (pj 0
 (qWH G_u232q G_u1q G_u5q G_u156q (x0,(x0.length:Int),0))) (fun y0=>
 .at (y0.2.2))
 (.bi (pj 1
 (qWH G_u232q G_u1q G_u5q G_u156q (x0,(x0.length:Int),0))) (fun y0=>
 .at (-1))
 (.no))
def qBZ(G_u232q:qcz)(G_u1q:qhb)(G_u5q:qhd)(G_u156q:qcx)(x0 x1:Int)(x2:List UInt8)(x3:List AV):DT qFX:=
 .bi (G_u232q x0 x1 x2 x3) (fun y0=>
 .at (!y0))
 (.no)
def qav:Nat->qcz×qhb×qhd×qcx
 |0=>(fun _ _ _ _=>none,fun _=>none,fun _=>none,fun _ _ _ _=>none)
 |n+1=>(fun x0 x1 x2 x3=>(qB8 ((qav n).1) ((qav n).2.1) ((qav n).2.2.1) ((qav n).2.2.2) x0 x1 x2 x3).ev,fun x0=>(q2Z ((qav n).1) ((qav n).2.1) ((qav n).2.2.1) ((qav n).2.2.2) x0).ev,fun x0=>(q21 ((qav n).1) ((qav n).2.1) ((qav n).2.2.1) ((qav n).2.2.2) x0).ev,fun x0 x1 x2 x3=>(qBZ ((qav n).1) ((qav n).2.1) ((qav n).2.2.1) ((qav n).2.2.2) x0 x1 x2 x3).ev)
def qAx(x0 x1:Int)(x2:List UInt8)(x3:List AV):Option qF4:=qjW fun n=>(qav n).1 x0 x1 x2 x3
def zlK(x0:List AV):Option zcR:=qjW fun n=>(qav n).2.1 x0
def zlM(x0:List AV):Option zcU:=qjW fun n=>(qav n).2.2.1 x0
def qU9(x0 x1:Int)(x2:List UInt8)(x3:List AV):Option qFX:=qjW fun n=>(qav n).2.2.2 x0 x1 x2 x3
theorem qhW:∀n,qzT ((qav n).1) ((qav n).2.1) ((qav n).2.2.1) ((qav n).2.2.2)
 |0=>⟨(fun v y h=>nomatch h),(fun v y h=>nomatch h),(fun v y h=>nomatch h),(fun v y h=>nomatch h)⟩
 |n+1=>have hG:=qhW n
 ⟨qag (F:=zj7) (L:=[]) (t:=(k4 (qB8 ((qav n).1) ((qav n).2.1) ((qav n).2.2.1) ((qav n).2.2.2)))) (qgn ((qav n).1) ((qav n).2.1) ((qav n).2.2.1) ((qav n).2.2.2) hG) (qac (l:=[]) (by kernel_rfl) trivial) (by kernel_rfl) (fun v=>by kernel_rfl) (fun v=>rfl),qag (F:=zj9) (L:=[]) (t:=(q2Z ((qav n).1) ((qav n).2.1) ((qav n).2.2.1) ((qav n).2.2.2))) (qgn ((qav n).1) ((qav n).2.1) ((qav n).2.2.1) ((qav n).2.2.2) hG) (qac (l:=[]) (by kernel_rfl) trivial) (by kernel_rfl) (fun v=>by kernel_rfl) (fun v=>rfl),qag (F:=qSJ) (L:=[(1021700,zaN ((qav n).1) ((qav n).2.1) ((qav n).2.2.1) ((qav n).2.2.2))]) (t:=(q21 ((qav n).1) ((qav n).2.1) ((qav n).2.2.1) ((qav n).2.2.2))) (qgn ((qav n).1) ((qav n).2.1) ((qav n).2.2.1) ((qav n).2.2.2) hG) (qac (l:=[qad qSJ 0]) (by kernel_rfl) ⟨qas (by kernel_rfl) (ztc ((qav n).1) ((qav n).2.1) ((qav n).2.2.1) ((qav n).2.2.2) hG),trivial⟩) (by kernel_rfl) (fun v=>by kernel_rfl) (fun v=>rfl),qag (F:=zka) (L:=[]) (t:=(k4 (qBZ ((qav n).1) ((qav n).2.1) ((qav n).2.2.1) ((qav n).2.2.2)))) (qgn ((qav n).1) ((qav n).2.1) ((qav n).2.2.1) ((qav n).2.2.2) hG) (qac (l:=[]) (by kernel_rfl) trivial) (by kernel_rfl) (fun v=>by kernel_rfl) (fun v=>rfl)⟩
theorem zeX:FH IP 115 qvN qwe (k4 qAx):=qbM (p:=qvN) (rs:=qwe) (s:=fun n=>(k4 ((qav n).1))) fun n=>(qhW n).1
theorem zqe:FH IP 172 qYI q04 zlK:=qbM (p:=qYI) (rs:=q04) (s:=fun n=>((qav n).2.1)) fun n=>(qhW n).2.1
theorem zqg:FH IP 217 qZR q2m zlM:=qbM (p:=qZR) (rs:=q2m) (s:=fun n=>((qav n).2.2.1)) fun n=>(qhW n).2.2.1
theorem zeh:FH IP 173 qvF qv6 (k4 qU9):=qbM (p:=qvF) (rs:=qv6) (s:=fun n=>(k4 ((qav n).2.2.2))) fun n=>(qhW n).2.2.2
def T65:Tab:=(115,FE qvN qwe (k4 qAx))::T64
theorem zkj:qao IP T65:=⟨qam zeX,q9D⟩
def T66:Tab:=(172,FE qYI q04 zlK)::T65
theorem zkk:qao IP T66:=⟨qam zqe,zkj⟩
def T67:Tab:=(217,FE qZR q2m zlM)::T66
theorem zkl:qao IP T67:=⟨qam zqg,zkk⟩
def T68:Tab:=(173,FE qvF qv6 (k4 qU9))::T67
theorem q9E:qao IP T68:=⟨qam zeh,zkl⟩
abbrev qQS:Type:=Bool
def qX7:PArgs:=⟨[.str],[]⟩
def q0t:List PRes:=[⟨false,.bool,[]⟩]
def qrA(x0:List UInt8):DT qQS:=
 .bi (qj7 x0) (fun y0=>
 .bi (br (y0.2.2==0) (some ((y0.1.length:Int)==1)) (some false)) (fun y1=>
 .bi (br y1 (br (qaD [.int .i64,.int .i64,.str] y0.1 0) (some (intOf (cellAt y0.1 0 0)==1)) none) (some false)) (fun y2=>
 .bi (br y2 (br (qaD [.int .i64,.int .i64,.str] y0.1 0) (some (strOf (cellAt y0.1 0 2)==x0)) none) (some false)) (fun y3=>
 .at (y3))
 (.no))
 (.no))
 (.no))
 (.no)
def qoH(x0:List UInt8):Option qQS:=qax (qrA x0).ev
theorem qN5(x0):qoH x0=(qrA x0).ev:=qaa _
theorem zd0:FH IP 175 qX7 q0t qoH:=fh zoO qrA q9E
def T69:Tab:=(175,FE qX7 q0t qoH)::T68
theorem q9F:qao IP T69:=⟨qam zd0,q9E⟩
abbrev qRE:Type:=Bool
def qYZ:PArgs:=⟨[.agg [.int .i64,.int .i64,.str,.view 4]],[]⟩
def q1l:List PRes:=[⟨false,.bool,[]⟩]
def qss(x0 x1:Int)(x2:List UInt8)(x3:List AV):DT qRE:=
 .bi (br (x0 != 4) (some true) (br (sm (qoH x2)) (some (gv (qoH x2))) none)) (fun y0=>
 .at (y0))
 (.no)
def qug(x0 x1:Int)(x2:List UInt8)(x3:List AV):Option qRE:=qax (qss x0 x1 x2 x3).ev
theorem qOT(x0 x1 x2 x3):qug x0 x1 x2 x3=(qss x0 x1 x2 x3).ev:=qaa _
theorem zeY:FH IP 117 qYZ q1l (k4 qug):=fh zou (k4 qss) q9F
def T70:Tab:=(117,FE qYZ q1l (k4 qug))::T69
theorem q9G:qao IP T70:=⟨qam zeY,q9F⟩
abbrev qF0:Type:=Bool
def qvI:PArgs:=⟨[.agg [.int .i64,.int .i64,.str,.view 4],.fn (.func 117) []],[]⟩
def qv9:List PRes:=[⟨false,.bool,[]⟩]
abbrev qcy:Type:=Int->Int->(List UInt8)->(List AV)->Option qF0
abbrev zcQ:Type:=Bool
def qXT:PArgs:=⟨[.view 4,.fn (.func 173) [.ptr [.fn (.func 117) []]]],[]⟩
def q0f:List PRes:=[⟨false,.bool,[]⟩]
abbrev qha:Type:=(List AV)->Option zcQ
abbrev zcT:Type:=Int
def qZQ:PArgs:=⟨[.view 4,.fn (.func 173) [.ptr [.fn (.func 117) []]]],[]⟩
def q2l:List PRes:=[⟨false,.int .i64,[]⟩]
abbrev qhc:Type:=(List AV)->Option zcT
abbrev qFS:Type:=Bool
def qvE:PArgs:=⟨[.agg [.int .i64,.int .i64,.str,.view 4],.ptr [.fn (.func 117) []]],[]⟩
def qv5:List PRes:=[⟨false,.bool,[]⟩]
abbrev qcw:Type:=Int->Int->(List UInt8)->(List AV)->Option qFS
def qzQ(G_u190q:qcy)(G_u0q:qha)(G_u4q:qhc)(G_u129q:qcw):Prop:=FH IP 115 qvI qv9 (k4 G_u190q)/\FH IP 172 qXT q0f G_u0q/\FH IP 217 qZQ q2l G_u4q/\FH IP 173 qvE qv5 (k4 G_u129q)
def q5g(G_u190q:qcy)(G_u0q:qha)(G_u4q:qhc)(G_u129q:qcw):Tab:=(115,FE qvI qv9 (k4 G_u190q))::(172,FE qXT q0f G_u0q)::(217,FE qZQ q2l G_u4q)::(173,FE qvE qv5 (k4 G_u129q))::T70
theorem qgm(G_u190q:qcy)(G_u0q:qha)(G_u4q:qhc)(G_u129q:qcw)(hG:qzQ G_u190q G_u0q G_u4q G_u129q):qao IP (q5g G_u190q G_u0q G_u4q G_u129q):=⟨qam (hG.1),qam (hG.2.1),qam (hG.2.2.1),qam (hG.2.2.2),q9G⟩
abbrev qnb:Type:=List AV×Int×Int
def zaA:List PSt:=[⟨[(1021700,.junk),(0,.view 4),(1,.fn (.func 173) [.ptr [.fn (.func 117) []]]),(7,.int .i64),(8,.int .i64)],[],0,0⟩]
def zjx(x0:List AV)(x1 x2:Int):X×St:=(.ret,⟨[(4,.int .i64 x2)],[],0,0⟩)
def zjy(x0:List AV)(x1 x2:Int):X×St:=(.exit 0,⟨[(4,.junk)],[],0,0⟩)
def zto:List (qnb->X×St):=[(k3 zjx),(k3 zjy)]
def qBO(G_u190q:qcy)(G_u0q:qha)(G_u4q:qhc)(G_u129q:qcw)(x0:List AV)(x1 x2:Int):DT (Rd qnb):=
 .br (decide (x2<x1))
 (.br (qaD [.int .i64,.int .i64,.str,.slice 4] x0 x2)
 (.bi (G_u129q (intOf (cellAt x0 x2 0)) (intOf (cellAt x0 x2 1)) (strOf (cellAt x0 x2 2)) (qap (cellAt x0 x2 3))) (fun y0=>
 .br (y0) (.at (.done 0)) (.at (.next ((x0,x1,IntKind.i64.wrap (x2+1))))))
 (.no))
 (.no))
 (.at (.done 1))
def qFm(G_u190q:qcy)(G_u0q:qha)(G_u4q:qhc)(G_u129q:qcw):qnb->DT (Rd qnb):=(fun v=>qBO G_u190q G_u0q G_u4q G_u129q v.1 v.2.1 v.2.2)
def qWF(G_u190q:qcy)(G_u0q:qha)(G_u4q:qhc)(G_u129q:qcw)(v:qnb):Option (Nat×qnb):=qax (qae (fun v=>(qFm G_u190q G_u0q G_u4q G_u129q v).ev) v)
theorem qLq(G_u190q G_u0q G_u4q G_u129q v):qWF G_u190q G_u0q G_u4q G_u129q v=qae (fun v=>(qFm G_u190q G_u0q G_u4q G_u129q v).ev) v:=qaa _
def zaM(G_u190q:qcy)(G_u0q:qha)(G_u4q:qhc)(G_u129q:qcw):qbS:=LE (τ:=qnb) (hD zaA) (qWF G_u190q G_u0q G_u4q G_u129q) zto
theorem ztb(G_u190q:qcy)(G_u0q:qha)(G_u4q:qhc)(G_u129q:qcw)(hG:qzQ G_u190q G_u0q G_u4q G_u129q):Go.Eng.Told IP (qad qSJ 0).1 (qad qSJ 0).2 (zaM G_u190q G_u0q G_u4q G_u129q):=qat (inferInstance:Inhabited qnb) (hs:=zaA) (st:=qFm G_u190q G_u0q G_u4q G_u129q) (L:=[]) (qgm G_u190q G_u0q G_u4q G_u129q hG) (qac (l:=[]) (by kernel_rfl) trivial) (qLq G_u190q G_u0q G_u4q G_u129q) (fun v=>by kernel_rfl) (fun v=>by kernel_rfl)
def qB2(G_u190q:qcy)(G_u0q:qha)(G_u4q:qhc)(G_u129q:qcw)(x0 x1:Int)(x2:List UInt8)(x3:List AV):DT qF0:=
 .bi (qug x0 x1 x2 x3) (fun y0=>
 .bi (br y0 (br (sm (G_u0q x3)) (some !gv (G_u0q x3)) none) (some false)) (fun y1=>
 .at (y1))
 (.no))
 (.no)
def q2Y(G_u190q:qcy)(G_u0q:qha)(G_u4q:qhc)(G_u129q:qcw)(x0:List AV):DT zcQ:=
 .bi (G_u4q x0) (fun y0=>
 .at (decide (y0>=0)))
 (.no)
def q20(G_u190q:qcy)(G_u0q:qha)(G_u4q:qhc)(G_u129q:qcw)(x0:List AV):DT zcT:=
 .bi (pj 0
 (qWF G_u190q G_u0q G_u4q G_u129q
 (x0,(x0.length:Int),0))) (fun y0=>
 .at (y0.2.2))
 (.bi (pj 1
 (qWF G_u190q G_u0q G_u4q G_u129q
 (x0,(x0.length:Int),0))) (fun y0=>
 .at (-1))
 (.no))
def qBX(G_u190q:qcy)(G_u0q:qha)(G_u4q:qhc)(G_u129q:qcw)(x0 x1:Int)(x2:List UInt8)(x3:List AV):DT qFS:=
 .bi (G_u190q x0 x1 x2 x3) (fun y0=>
 .at (!y0))
 (.no)
end
end Go.Proofs.H16

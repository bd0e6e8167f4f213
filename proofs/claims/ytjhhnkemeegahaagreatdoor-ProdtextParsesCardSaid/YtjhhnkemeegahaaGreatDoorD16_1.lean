/- Functions over plain data. Printed by a program of mine. -/
import Derived.Test.YtjhhnkemeegahaaGreatDoorIP16
import Derived.Test.YtjhhnkemeegahaaGreatDoorSpA
set_option linter.all false
namespace Go.Proofs.H16
open Go Go.Eng
set_option maxRecDepth 100000
noncomputable section
abbrev k2{a b r:Type}(F:a->b->r)(v:a×b):r:=F v.1 v.2
abbrev k3{a b c r:Type}(F:a->b->c->r)(v:a×b×c):r:=k2 (F v.1) v.2
abbrev k4{a b c d r:Type}(F:a->b->c->d->r)(v:a×b×c×d):r:=k3 (F v.1) v.2
abbrev k5{a b c d e r:Type}(F:a->b->c->d->e->r)(v:a×b×c×d×e):r:=k4 (F v.1) v.2
abbrev k6{a b c d e f r:Type}(F:a->b->c->d->e->f->r)(v:a×b×c×d×e×f):r:=k5 (F v.1) v.2
abbrev k7{a b c d e f g r:Type}(F:a->b->c->d->e->f->g->r)(v:a×b×c×d×e×f×g):r:=k6 (F v.1) v.2
abbrev k8{a b c d e f g h r:Type}(F:a->b->c->d->e->f->g->h->r)(v:a×b×c×d×e×f×g×h):r:=k7 (F v.1) v.2
abbrev k9{a b c d e f g h i r:Type}(F:a->b->c->d->e->f->g->h->i->r)(v:a×b×c×d×e×f×g×h×i):r:=k8 (F v.1) v.2
abbrev k10{a b c d e f g h i j r:Type}(F:a->b->c->d->e->f->g->h->i->j->r)(v:a×b×c×d×e×f×g×h×i×j):r:=k9 (F v.1) v.2
abbrev k11{a b c d e f g h i j k r:Type}(F:a->b->c->d->e->f->g->h->i->j->k->r)(v:a×b×c×d×e×f×g×h×i×j×k):r:=k10 (F v.1) v.2
abbrev k12{a b c d e f g h i j k l r:Type}(F:a->b->c->d->e->f->g->h->i->j->k->l->r)(v:a×b×c×d×e×f×g×h×i×j×k×l):r:=k11 (F v.1) v.2
abbrev k13{a b c d e f g h i j k l m r:Type}(F:a->b->c->d->e->f->g->h->i->j->k->l->m->r)(v:a×b×c×d×e×f×g×h×i×j×k×l×m):r:=k12 (F v.1) v.2
abbrev k14{a b c d e f g h i j k l m n r:Type}(F:a->b->c->d->e->f->g->h->i->j->k->l->m->n->r)(v:a×b×c×d×e×f×g×h×i×j×k×l×m×n):r:=k13 (F v.1) v.2
abbrev k19{a b c d e f g h i j k l m n o p q s t r:Type}(F:a->b->c->d->e->f->g->h->i->j->k->l->m->n->o->p->q->s->t->r)(v:a×b×c×d×e×f×g×h×i×j×k×l×m×n×o×p×q×s×t):r:=k14 (F v.1 v.2.1 v.2.2.1 v.2.2.2.1 v.f.1) v.f.2
abbrev k20{a b c d e f g h i j k l m n o p q s t u r:Type}(F:a->b->c->d->e->f->g->h->i->j->k->l->m->n->o->p->q->s->t->u->r)(v:a×b×c×d×e×f×g×h×i×j×k×l×m×n×o×p×q×s×t×u):r:=k19 (F v.1) v.2
abbrev k22{a b c d e f g h i j k l m n o p q s t u w a' r:Type}(F:a->b->c->d->e->f->g->h->i->j->k->l->m->n->o->p->q->s->t->u->w->a'->r)(v:a×b×c×d×e×f×g×h×i×j×k×l×m×n×o×p×q×s×t×u×w×a'):r:=k20 (F v.1 v.2.1) v.2.2
abbrev k24{a b c d e f g h i j k l m n o p q s t u w a' b' c' r:Type}(F:a->b->c->d->e->f->g->h->i->j->k->l->m->n->o->p->q->s->t->u->w->a'->b'->c'->r)(v:a×b×c×d×e×f×g×h×i×j×k×l×m×n×o×p×q×s×t×u×w×a'×b'×c'):r:=k22 (F v.1 v.2.1) v.2.2
abbrev k36{a b c d e f g h i j k l m n o p q s t u w a' b' c' d' e' f' g' h' i' j' k' l' m' n' o' r:Type}(F:a->b->c->d->e->f->g->h->i->j->k->l->m->n->o->p->q->s->t->u->w->a'->b'->c'->d'->e'->f'->g'->h'->i'->j'->k'->l'->m'->n'->o'->r)(v:a×b×c×d×e×f×g×h×i×j×k×l×m×n×o×p×q×s×t×u×w×a'×b'×c'×d'×e'×f'×g'×h'×i'×j'×k'×l'×m'×n'×o'):r:=k24 (F v.1 v.2.1 v.2.2.1 v.2.2.2.1 v.f.1 v.f.2.1 v.f.2.2.1 v.f.2.2.2.1 v.h.1 v.h.2.1 v.h.2.2.1 v.h.2.2.2.1) v.h.f
abbrev k37{a b c d e f g h i j k l m n o p q s t u w a' b' c' d' e' f' g' h' i' j' k' l' m' n' o' p' r:Type}(F:a->b->c->d->e->f->g->h->i->j->k->l->m->n->o->p->q->s->t->u->w->a'->b'->c'->d'->e'->f'->g'->h'->i'->j'->k'->l'->m'->n'->o'->p'->r)(v:a×b×c×d×e×f×g×h×i×j×k×l×m×n×o×p×q×s×t×u×w×a'×b'×c'×d'×e'×f'×g'×h'×i'×j'×k'×l'×m'×n'×o'×p'):r:=k36 (F v.1) v.2
abbrev k38{a b c d e f g h i j k l m n o p q s t u w a' b' c' d' e' f' g' h' i' j' k' l' m' n' o' p' q' r:Type}(F:a->b->c->d->e->f->g->h->i->j->k->l->m->n->o->p->q->s->t->u->w->a'->b'->c'->d'->e'->f'->g'->h'->i'->j'->k'->l'->m'->n'->o'->p'->q'->r)(v:a×b×c×d×e×f×g×h×i×j×k×l×m×n×o×p×q×s×t×u×w×a'×b'×c'×d'×e'×f'×g'×h'×i'×j'×k'×l'×m'×n'×o'×p'×q'):r:=k37 (F v.1) v.2
abbrev k39{a b c d e f g h i j k l m n o p q s t u w a' b' c' d' e' f' g' h' i' j' k' l' m' n' o' p' q' s' r:Type}(F:a->b->c->d->e->f->g->h->i->j->k->l->m->n->o->p->q->s->t->u->w->a'->b'->c'->d'->e'->f'->g'->h'->i'->j'->k'->l'->m'->n'->o'->p'->q'->s'->r)(v:a×b×c×d×e×f×g×h×i×j×k×l×m×n×o×p×q×s×t×u×w×a'×b'×c'×d'×e'×f'×g'×h'×i'×j'×k'×l'×m'×n'×o'×p'×q'×s'):r:=k38 (F v.1) v.2
def T0:Tb IP:=⟨[(87,qrA),(62,qlI),(227,zdz),(201,qo2 240),(155,qAK 240),(120,qsO),(178,quT),(112,zdQ),(152,qD8),(153,upE),(40,qlh 3 32),(24,zdD),(157,q8U)],⟨zut,zus,zqw,zqv,zqs,zqp,zqu,zqo,zqq,zqr,zur,zuq,zqt,trivial⟩⟩
abbrev qDi:Type:=Int
def qtB:PArgs:=⟨[.agg [.int .i64,.int .i64,.str,.view 4],.int .i64],[]⟩
def qtX:List PRes:=[⟨false,.int .i64,[]⟩]
abbrev qdn:Type:=Int->Int->(List UInt8)->(List AV)->Int->Option qDi
def qxh(G_u246q:qdn):Prop:=FH IP 49 qtB qtX (k5 G_u246q)
def q2x(G_u246q:qdn):Tab:=(49,FE qtB qtX (k5 G_u246q))::T0.t
theorem qro(G_u246q:qdn)(hG:qxh G_u246q):qan IP (q2x G_u246q):=⟨qam (hG),T0.ok⟩
abbrev qe2:Type:=Int×Int×Int×Int×Int×List UInt8×List AV
def qIb:List PSt:=[⟨[(1004900,.junk),(1,.int .i64),(2,.ref 0 0 0),(5,.int .i64),(6,.int .i64)],[(0,.box [.int .i64,.int .i64,.str,.view 4] false)],1,0⟩]
def q1l(x0 x1:Int)(x2 x3 x4:Int)(x5:List UInt8)(x6:List AV):X×St:=(.exit 0,⟨[(5,.int .i64 x1)],[],0,0⟩)
def zfZ:List (qe2->X×St):=[(k7 q1l)]
def qkB(G_u246q:qdn)(x0 x1:Int)(x2 x3 x4:Int)(x5:List UInt8)(x6:List AV):DT (Rd qe2):=
 .bi (br (decide (x2<(x6.length:Int))) (some (decide (x1<=x0))) (some false)) (fun y0=>
 .br (y0)
 (.br (qaG [.int .i64,.int .i64,.str,.slice 4] x6 x2)
 (.bi (G_u246q (intOf (cellAt x6 x2 0)) (intOf (cellAt x6 x2 1)) (strOf (cellAt x6 x2 2)) (qap (cellAt x6 x2 3)) (IntKind.i64.wrap (x0-x1))) (fun y1=>
 .at (.next ((x0,IntKind.i64.wrap (x1+y1),IntKind.i64.wrap (x2+1),x3,x4,x5,x6))))
 (.no))
 (.no))
 (.at (.done 0)))
 (.no)
def qiC(G_u246q:qdn):qe2->DT (Rd qe2):=(fun v=>qkB G_u246q v.1 v.2.1 v.2.2.1 v.2.2.2.1 v.f.1 v.f.2.1 v.f.2.2)
def qsX(G_u246q:qdn)(v:qe2):Option (Nat×qe2):=qaC (qae (fun v=>(qiC G_u246q v).ev) v)
theorem qka(G_u246q v):qsX G_u246q v=qae (fun v=>(qiC G_u246q v).ev) v:=qaa _
def qJo(G_u246q:qdn):qbJ:=LE (τ:=qe2) (hD qIb) (qsX G_u246q) zfZ
theorem zeV(G_u246q:qdn)(hG:qxh G_u246q):Go.Eng.Told IP (qad F49 0).1 (qad F49 0).2 (qJo G_u246q):=qas (inferInstance:Inhabited qe2) (hs:=qIb) (st:=qiC G_u246q) (L:=[]) (qro G_u246q hG) (qac (l:=[]) (by kernel_rfl) trivial) (qka G_u246q) (fun v=>by kernel_rfl) (fun v=>by kernel_rfl)
def qzM(G_u246q:qdn)(x0 x1:Int)(x2:List UInt8)(x3:List AV)(x4:Int):DT qDi:=
 .bi (pj 0 (qsX G_u246q (x4,1,0,x0,x1,x2,x3))) (fun y0=>
 .at (y0.2.1))
 (.no)
def qdK:Nat->qdn
 |0=>fun _ _ _ _ _=>none
 |n+1=>fun x0 x1 x2 x3 x4=>(qzM ((qdK n)) x0 x1 x2 x3 x4).ev
def qxU(x0 x1:Int)(x2:List UInt8)(x3:List AV)(x4:Int):Option qDi:=qi4 fun n=>(qdK n) x0 x1 x2 x3 x4
theorem qvk:∀n,qxh ((qdK n))
 |0=>(fun v y h=>nomatch h)
 |n+1=>have hG:=qvk n
 qag (F:=F49) (L:=[(1004900,qJo ((qdK n)))]) (t:=(k5 (qzM ((qdK n))))) (qro ((qdK n)) hG) (qac (l:=[qad F49 0]) (by kernel_rfl) ⟨qar (by kernel_rfl) (zeV ((qdK n)) hG),trivial⟩) (by kernel_rfl) (fun v=>by kernel_rfl) (fun v=>rfl)
theorem zce:FH IP 49 qtB qtX (k5 qxU):=qbH (p:=qtB) (rs:=qtX) (s:=fun n=>(k5 ((qdK n)))) fun n=>(qvk n)
def T1:=T0.a zce
def qqK(x0 x1:Int)(x2:List UInt8)(x3:List AV)(x4:Int):DT Bool:=
 .bi (qxU x0 x1 x2 x3 x4) (fun y0=>
 .at (decide (y0>x4)))
 (.no)
def qfU(x0 x1:Int)(x2:List UInt8)(x3:List AV)(x4:Int):=qaC (qqK x0 x1 x2 x3 x4).ev
theorem qMa(x0 x1 x2 x3 x4):qfU x0 x1 x2 x3 x4=(qqK x0 x1 x2 x3 x4).ev:=qaa _
theorem zcb:FH IP 14 ⟨[.agg [.int .i64,.int .i64,.str,.view 4],.int .i64],[]⟩ [⟨false,.bool,[]⟩] (k5 qfU):=fh F14 (k5 qqK) T1
def T2:=T1.a zcb
def qpO(x0:Int):DT Bool:=
 .at (x0 != 10)
def qnl(x0:Int):=qaC (qpO x0).ev
theorem qLc(x0):qnl x0=(qpO x0).ev:=qaa _
theorem zaX:FH IP 141 ⟨[.int .i32],[]⟩ [⟨false,.bool,[]⟩] qnl:=fh zmd qpO T2
def T5:=T2.a zaX
abbrev qeJ:Type:=List UInt8×Int
def qHO:List PSt:=[⟨[(1014000,.junk),(0,.str),(1,.fn (.func 141) []),(5,.int .i64)],[],0,0⟩]
def q0H(x0:List UInt8)(x1:Int):X×St:=(.exit 0,⟨[(0,.str x0),(5,.int .i64 x1)],[],0,0⟩)
def zfC:List (qeJ->X×St):=[(k2 q0H)]
def qoc(x0:List UInt8)(x1:Int):DT (Rd qeJ):=
 .bi (br (decide (x1<(x0.length:Int)))
 (br (inB x0.length x1) (br (sm (qnl (IntKind.i32.wrap (qal x0 x1)))) (some (gv (qnl (IntKind.i32.wrap (qal x0 x1))))) none) none) (some false)) (fun y0=>
 .br (y0) (.at (.next ((x0,IntKind.i64.wrap (x1+1))))) (.at (.done 0)))
 (.no)
def qmG:qeJ->DT (Rd qeJ):=(fun v=>qoc v.1 v.2)
def qyb(v:qeJ):=lo qmG v
theorem qvT(v):qyb v=qae (fun v=>(qmG v).ev) v:=qaa _
def qI1:qbJ:=LE (τ:=qeJ) (hD qHO) (qyb) zfC
theorem zey:TL IP qw9 0 qI1:=lp (ih qeJ) (hs:=qHO) qmG T5 qvT
def qp9(x0:List UInt8):DT (List UInt8):=
 .bi (pj 0 (qyb (x0,0))) (fun y0=>
 .br (leB y0.2 y0.1.length&&true) (.at (List.take y0.2.toNat y0.1)) (.no))
 (.no)
def qlr(x0:List UInt8):=qaC (qp9 x0).ev
theorem qLz(x0):qlr x0=(qp9 x0).ev:=qaa _
theorem zbo:FH IP 140 ⟨[.str,.fn (.func 141) []],[]⟩ [⟨false,.str,[]⟩] qlr:=f1 qw9 1014000 zey qp9 T5
def T6:=T5.a zbo
abbrev qeI:Type:=List UInt8×Int
def qHN:List PSt:=[⟨[(1008600,.junk),(0,.str),(3,.int .i64)],[],0,0⟩]
def q0F(x0:List UInt8)(x1:Int):X×St:=(.ret,⟨[(2,.int .i64 x1),(3,.int .i64 x1)],[],0,0⟩)
def q0G(x0:List UInt8)(x1:Int):X×St:=(.exit 0,⟨[(2,.junk),(3,.int .i64 x1)],[],0,0⟩)
def zfB:List (qeI->X×St):=[(k2 q0F),(k2 q0G)]
def qob(x0:List UInt8)(x1:Int):DT (Rd qeI):=
 .br (decide (x1<(x0.length:Int)))
 (.br (inB x0.length x1)
 (.br (qal x0 x1==32)
 (.br (qal x0 x1==32)
 (.at (.next ((x0,IntKind.i64.wrap (x1+1)))))
 (.br (qal x0 x1==35)
 (.br (leB x1 x0.length)
 (.bi (qlr (List.drop x1.toNat x0)) (fun y0=>
 .at (.next ((x0,IntKind.i64.wrap (x1+(y0.length:Int))))))
 (.no))
 (.no))
 (.at (.done 0))))
 (.br (qal x0 x1==9)
 (.br (qal x0 x1==9)
 (.at (.next ((x0,IntKind.i64.wrap (x1+1)))))
 (.br (qal x0 x1==35)
 (.br (leB x1 x0.length)
 (.bi (qlr (List.drop x1.toNat x0)) (fun y0=>
 .at (.next ((x0,IntKind.i64.wrap (x1+(y0.length:Int))))))
 (.no))
 (.no))
 (.at (.done 0))))
 (.br (qal x0 x1==10)
 (.at (.next ((x0,IntKind.i64.wrap (x1+1)))))
 (.br (qal x0 x1==35)
 (.br (leB x1 x0.length)
 (.bi (qlr (List.drop x1.toNat x0)) (fun y0=>
 .at (.next ((x0,IntKind.i64.wrap (x1+(y0.length:Int))))))
 (.no))
 (.no))
 (.at (.done 0))))))
 (.no))
 (.at (.done 1))
def qkv:qeI->DT (Rd qeI):=(fun v=>qob v.1 v.2)
def qsS(v:qeI):=lo qkv v
theorem qj6(v):qsS v=qae (fun v=>(qkv v).ev) v:=qaa _
def qI0:qbJ:=LE (τ:=qeI) (hD qHN) (qsS) zfB
theorem zex:TL IP F86 0 qI0:=lp (ih qeI) (hs:=qHN) qkv T6 qj6
def qp5(x0:List UInt8):DT Int:=
 .bi (pj 0 (qsS (x0,0))) (fun y0=>
 .at (y0.2))
 (.bi (pj 1 (qsS (x0,0))) (fun y0=>
 .at (y0.2))
 (.no))
def qcj(x0:List UInt8):=qaC (qp5 x0).ev
theorem qLu(x0):qcj x0=(qp5 x0).ev:=qaa _
theorem zbk:FH IP 86 ⟨[.str],[]⟩ [⟨false,.int .i64,[]⟩] qcj:=f1 F86 1008600 zex qp5 T6
def T7:=T6.a zbk
def qp7(x0:Int):DT Bool:=
 .bi (br (decide (x0>=97)) (some (decide (x0<=122))) (some false)) (fun y0=>
 .at (y0))
 (.no)
def qnq(x0:Int):=qaC (qp7 x0).ev
theorem qLx(x0):qnq x0=(qp7 x0).ev:=qaa _
theorem zbm:FH IP 145 ⟨[.int .i32],[]⟩ [⟨false,.bool,[]⟩] qnq:=fh zme qp7 T7
def T8:=T7.a zbm
def qqm(x0:Int):DT Bool:=
 .bi (br (decide (x0>=48)) (some (decide (x0<=57))) (some false)) (fun y0=>
 .at (y0))
 (.no)
def qij(x0:Int):=qaC (qqm x0).ev
theorem qLM(x0):qij x0=(qqm x0).ev:=qaa _
theorem zbE:FH IP 147 ⟨[.int .i32],[]⟩ [⟨false,.bool,[]⟩] qij:=fh zmg qqm T8
def T9:=T8.a zbE
def qp6(x0:Int):DT Bool:=
 .bi (qnq x0) (fun y0=>
 .bi (br y0 (some true) (br (sm (qij x0)) (some (gv (qij x0))) none)) (fun y1=>
 .bi (br y1 (some true) (some (x0==95))) (fun y2=>
 .at (y2))
 (.no))
 (.no))
 (.no)
def qlq(x0:Int):=qaC (qp6 x0).ev
theorem qLw(x0):qlq x0=(qp6 x0).ev:=qaa _
theorem zbl:FH IP 146 ⟨[.int .i32],[]⟩ [⟨false,.bool,[]⟩] qlq:=fh zmf qp6 T9
def T10:=T9.a zbl
abbrev qh7:Type:=List UInt8×Int
def qTB:List PSt:=[⟨[(1014000,.junk),(0,.str),(1,.fn (.func 146) []),(5,.int .i64)],[],0,0⟩]
def q5n(x0:List UInt8)(x1:Int):X×St:=(.exit 0,⟨[(0,.str x0),(5,.int .i64 x1)],[],0,0⟩)
def zlN:List (qh7->X×St):=[(k2 q5n)]
def qux(x0:List UInt8)(x1:Int):DT (Rd qh7):=
 .bi (br (decide (x1<(x0.length:Int)))
 (br (inB x0.length x1) (br (sm (qlq (IntKind.i32.wrap (qal x0 x1)))) (some (gv (qlq (IntKind.i32.wrap (qal x0 x1))))) none) none) (some false)) (fun y0=>
 .br (y0) (.at (.next ((x0,IntKind.i64.wrap (x1+1))))) (.at (.done 0)))
 (.no)
def quw:qh7->DT (Rd qh7):=(fun v=>qux v.1 v.2)
def qIR(v:qh7):=lo quw v
theorem qBx(v):qIR v=qae (fun v=>(quw v).ev) v:=qaa _
def qUw:qbJ:=LE (τ:=qh7) (hD qTB) (qIR) zlN
theorem zk2:TL IP qw9 0 qUw:=lp (ih qh7) (hs:=qTB) quw T10 qBx
def qpW(x0:List UInt8):DT (List UInt8):=
 .bi (pj 0 (qIR (x0,0))) (fun y0=>
 .br (leB y0.2 y0.1.length&&true) (.at (List.take y0.2.toNat y0.1)) (.no))
 (.no)
def qrH(x0:List UInt8):=qaC (qpW x0).ev
theorem qLk(x0):qrH x0=(qpW x0).ev:=qaa _
theorem za7:FH IP 140 ⟨[.str,.fn (.func 146) []],[]⟩ [⟨false,.str,[]⟩] qrH:=f1 qw9 1014000 zk2 qpW T10
def T11:=T10.a za7
def qqp:DT (List AV):=
 .at ([AV.str ([]++[112]++[114]++[111]++[100]++[117]++[99]++[116]),AV.str ([]++[99]++[117]++[114]++[114]++[101]++[110]++[99]++[121]),
 AV.str ([]++[99]++[97]++[108]++[101]++[110]++[100]++[97]++[114]),AV.str ([]++[102]++[114]++[111]++[109]),
 AV.str ([]++[101]++[118]++[101]++[114]++[121]),AV.str ([]++[111]++[118]++[101]++[114]++[100]++[114]++[97]++[102]++[116]),
 AV.str ([]++[116]++[97]++[120]),AV.str ([]++[99]++[114]++[101]++[100]++[105]++[116]),AV.str ([]++[100]++[101]++[98]++[105]++[116]),
 AV.str ([]++[109]++[97]++[114]++[103]++[105]++[110]++[97]++[108]),AV.str ([]++[119]++[104]++[111]++[108]++[101]),
 AV.str ([]++[97]++[99]++[116]++[51]++[54]++[48]),AV.str ([]++[97]++[99]++[116]++[51]++[54]++[53]),
 AV.str ([]++[97]++[99]++[116]++[117]++[97]++[108]),AV.str ([]++[116]++[104]++[105]++[114]++[116]++[121]),
 AV.str ([]++[100]++[111]++[119]++[110]),AV.str ([]++[117]++[112]),AV.str ([]++[102]++[108]++[111]++[111]++[114]),
 AV.str ([]++[99]++[101]++[105]++[108]),AV.str ([]++[104]++[97]++[108]++[102]++[95]++[117]++[112]),
 AV.str ([]++[104]++[97]++[108]++[102]++[95]++[101]++[118]++[101]++[110]),AV.str ([]++[107]++[101]++[101]++[112]),
 AV.str ([]++[100]++[114]++[111]++[112]),AV.str ([]++[102]++[101]++[101]),AV.str ([]++[108]++[105]++[109]++[105]++[116]),
 AV.str ([]++[119]++[104]++[101]++[110]),AV.str ([]++[97]++[109]++[111]++[117]++[110]++[116]++[95]++[111]++[102]),
 AV.str ([]++[115]++[105]++[110]++[103]++[108]++[101]),AV.str ([]++[100]++[97]++[105]++[108]++[121]),
 AV.str ([]++[109]++[111]++[110]++[116]++[104]++[108]++[121]),AV.str ([]++[109]++[111]++[110]++[116]++[104]),
 AV.str ([]++[114]++[101]++[116]++[117]++[114]++[110]),AV.str ([]++[99]++[108]++[111]++[115]++[101]),
 AV.str ([]++[101]++[118]++[101]++[110]++[116]),AV.str ([]++[105]++[102]),AV.str ([]++[116]++[104]++[101]++[110]),
 AV.str ([]++[101]++[108]++[115]++[101]),AV.str ([]++[97]++[110]++[100]),AV.str ([]++[111]++[114]),AV.str ([]++[110]++[111]++[116]),
 AV.str ([]++[109]++[105]++[110]),AV.str ([]++[109]++[97]++[120])])
def qrY:=qaC (qqp).ev
theorem qLP:qrY=(qqp).ev:=qaa _
theorem qRG:FH IP 126 ⟨[],[]⟩ [⟨false,.view 1,[]⟩] (fun _=>qrY):=fh zl9 (fun _=>qqp) T11
def T12:=T11.a qRG
abbrev qhU:Type:=List AV×List UInt8×Int×Int
def qTe:List PSt:=[⟨[(1018600,.junk),(0,.view 1),(1,.str),(7,.int .i64),(8,.int .i64)],[],0,0⟩]
def q4u(x0:List AV)(x1:List UInt8)(x2 x3:Int):X×St:=(.ret,⟨[(4,.int .i64 x3)],[],0,0⟩)
def q4v(x0:List AV)(x1:List UInt8)(x2 x3:Int):X×St:=(.exit 0,⟨[(4,.junk)],[],0,0⟩)
def zlq:List (qhU->X×St):=[(k4 q4u),(k4 q4v)]
def qug(x0:List AV)(x1:List UInt8)(x2 x3:Int):DT (Rd qhU):=
 .br (decide (x3<x2))
 (.br (qaG [.str] x0 x3)
 (.br (x1==strOf (cellAt x0 x3 0)) (.at (.done 0)) (.at (.next ((x0,x1,x2,IntKind.i64.wrap (x3+1))))))
 (.no))
 (.at (.done 1))
def quf:qhU->DT (Rd qhU):=(fun v=>qug v.1 v.2.1 v.2.2.1 v.2.2.2)
def qBp(v:qhU):=lo quf v
theorem qBq(v):qBp v=qae (fun v=>(quf v).ev) v:=qaa _
def qT9:qbJ:=LE (τ:=qhU) (hD qTe) (qBp) zlq
theorem zkF:TL IP zaf 0 qT9:=lp (ih qhU) (hs:=qTe) quf T12 qBq
def qzz(x0:List AV)(x1:List UInt8):DT Int:=
 .bi (pj 0 (qBp (x0,x1,(x0.length:Int),0))) (fun y0=>
 .at (y0.2.2.2))
 (.bi (pj 1 (qBp (x0,x1,(x0.length:Int),0))) (fun y0=>
 .at (-1))
 (.no))
def qHx(x0:List AV)(x1:List UInt8):=qaC (qzz x0 x1).ev
theorem qSn(x0 x1):qHx x0 x1=(qzz x0 x1).ev:=qaa _
theorem zhV:FH IP 186 ⟨[.view 1,.str],[]⟩ [⟨false,.int .i64,[]⟩] (k2 qHx):=f1 zaf 1018600 zkF (k2 qzz) T12
def T13:=T12.a zhV
end
end Go.Proofs.H16
namespace Go.Proofs.H16
open Go Go.Eng
set_option maxRecDepth 100000
noncomputable section
def qKE(x0:List AV)(x1:List UInt8):DT Bool:=
 .bi (qHx x0 x1) (fun y0=>
 .at (decide (y0>=0)))
 (.no)
def qS3(x0:List AV)(x1:List UInt8):=qaC (qKE x0 x1).ev
theorem q22(x0 x1):qS3 x0 x1=(qKE x0 x1).ev:=qaa _
theorem znV:FH IP 125 ⟨[.view 1,.str],[]⟩ [⟨false,.bool,[]⟩] (k2 qS3):=fh zl8 (k2 qKE) T13
def T14:=T13.a znV
def qqC(x0:List UInt8):DT Bool:=
 .bi (qrY) (fun y0=>
 .bi (qS3 y0 x0) (fun y1=>
 .at (y1))
 (.no))
 (.no)
def qg1(x0:List UInt8):=qaC (qqC x0).ev
theorem qL2(x0):qg1 x0=(qqC x0).ev:=qaa _
theorem qRH:FH IP 65 ⟨[.str],[]⟩ [⟨false,.bool,[]⟩] qg1:=fh F65 qqC T14
def T15:=T14.a qRH
def qpP(x0:Int):DT Bool:=
 .bi (qlq x0) (fun y0=>
 .bi (br y0 (some true) (some (x0==46))) (fun y1=>
 .bi (br y1 (some true) (some (x0==37))) (fun y2=>
 .at (y2))
 (.no))
 (.no))
 (.no)
def qnm(x0:Int):=qaC (qpP x0).ev
theorem qLd(x0):qnm x0=(qpP x0).ev:=qaa _
theorem zaY:FH IP 149 ⟨[.int .i32],[]⟩ [⟨false,.bool,[]⟩] qnm:=fh zmi qpP T15
def T16:=T15.a zaY
abbrev qh8:Type:=List UInt8×Int
def qTC:List PSt:=[⟨[(1014000,.junk),(0,.str),(1,.fn (.func 149) []),(5,.int .i64)],[],0,0⟩]
def q5o(x0:List UInt8)(x1:Int):X×St:=(.exit 0,⟨[(0,.str x0),(5,.int .i64 x1)],[],0,0⟩)
def zlO:List (qh8->X×St):=[(k2 q5o)]
def quz(x0:List UInt8)(x1:Int):DT (Rd qh8):=
 .bi (br (decide (x1<(x0.length:Int)))
 (br (inB x0.length x1) (br (sm (qnm (IntKind.i32.wrap (qal x0 x1)))) (some (gv (qnm (IntKind.i32.wrap (qal x0 x1))))) none) none) (some false)) (fun y0=>
 .br (y0) (.at (.next ((x0,IntKind.i64.wrap (x1+1))))) (.at (.done 0)))
 (.no)
def quy:qh8->DT (Rd qh8):=(fun v=>quz v.1 v.2)
def qIS(v:qh8):=lo quy v
theorem qBy(v):qIS v=qae (fun v=>(quy v).ev) v:=qaa _
def qUx:qbJ:=LE (τ:=qh8) (hD qTC) (qIS) zlO
theorem zk3:TL IP qw9 0 qUx:=lp (ih qh8) (hs:=qTC) quy T16 qBy
def qpX(x0:List UInt8):DT (List UInt8):=
 .bi (pj 0 (qIS (x0,0))) (fun y0=>
 .br (leB y0.2 y0.1.length&&true) (.at (List.take y0.2.toNat y0.1)) (.no))
 (.no)
def qrI(x0:List UInt8):=qaC (qpX x0).ev
theorem qLl(x0):qrI x0=(qpX x0).ev:=qaa _
theorem za8:FH IP 140 ⟨[.str,.fn (.func 149) []],[]⟩ [⟨false,.str,[]⟩] qrI:=f1 qw9 1014000 zk3 qpX T16
def T17:=T16.a za8
abbrev qh9:Type:=List UInt8×Int
def qTD:List PSt:=[⟨[(1014000,.junk),(0,.str),(1,.fn (.func 147) []),(5,.int .i64)],[],0,0⟩]
def q5p(x0:List UInt8)(x1:Int):X×St:=(.exit 0,⟨[(0,.str x0),(5,.int .i64 x1)],[],0,0⟩)
def zlP:List (qh9->X×St):=[(k2 q5p)]
def quB(x0:List UInt8)(x1:Int):DT (Rd qh9):=
 .bi (br (decide (x1<(x0.length:Int)))
 (br (inB x0.length x1) (br (sm (qij (IntKind.i32.wrap (qal x0 x1)))) (some (gv (qij (IntKind.i32.wrap (qal x0 x1))))) none) none) (some false)) (fun y0=>
 .br (y0) (.at (.next ((x0,IntKind.i64.wrap (x1+1))))) (.at (.done 0)))
 (.no)
def quA:qh9->DT (Rd qh9):=(fun v=>quB v.1 v.2)
def qIT(v:qh9):=lo quA v
theorem qBz(v):qIT v=qae (fun v=>(quA v).ev) v:=qaa _
def qUy:qbJ:=LE (τ:=qh9) (hD qTD) (qIT) zlP
theorem zk4:TL IP qw9 0 qUy:=lp (ih qh9) (hs:=qTD) quA T17 qBz
def qpY(x0:List UInt8):DT (List UInt8):=
 .bi (pj 0 (qIT (x0,0))) (fun y0=>
 .br (leB y0.2 y0.1.length&&true) (.at (List.take y0.2.toNat y0.1)) (.no))
 (.no)
def qgY(x0:List UInt8):=qaC (qpY x0).ev
theorem qLm(x0):qgY x0=(qpY x0).ev:=qaa _
theorem za9:FH IP 140 ⟨[.str,.fn (.func 147) []],[]⟩ [⟨false,.str,[]⟩] qgY:=f1 qw9 1014000 zk4 qpY T17
def T18:=T17.a za9
def qpV(x0:List UInt8):DT Bool:=
 .bi (br (!x0== []) (br (sm (qgY x0)) (some (gv (qgY x0)==x0)) none) (some false)) (fun y0=>
 .bi (br y0 (br ((x0.length:Int)==1) (some true) (br (inB x0.length 0) (some (qal x0 0 != 48)) none)) (some false)) (fun y1=>
 .at (y1))
 (.no))
 (.no)
def qln(x0:List UInt8):=qaC (qpV x0).ev
theorem qLj(x0):qln x0=(qpV x0).ev:=qaa _
theorem za6:FH IP 200 ⟨[.str],[]⟩ [⟨false,.bool,[]⟩] qln:=fh zmx qpV T18
def T19:=T18.a za6
def qKD(x0 x1:List UInt8):DT Bool:=
 .bi (br (decide ((x0.length:Int)>=(x1.length:Int)))
 (br (leB (IntKind.i64.wrap ((x0.length:Int)-(x1.length:Int))) x0.length) (some (List.drop (IntKind.i64.wrap ((x0.length:Int)-(x1.length:Int))).toNat x0==x1))
 none)
 (some false)) (fun y0=>
 .at (y0))
 (.no)
def q20(x0 x1:List UInt8):=qaC (qKD x0 x1).ev
theorem q21(x0 x1):q20 x0 x1=(qKD x0 x1).ev:=qaa _
theorem znU:FH IP 265 ⟨[.str,.str],[]⟩ [⟨false,.bool,[]⟩] (k2 q20):=fh zmJ (k2 qKD) T19
def T20:=T19.a znU
def qKB(x0 x1:List UInt8):DT (List UInt8×Bool):=
 .bi (q20 x0 x1) (fun y0=>
 .br (!y0)
 (.at ((x0,false)))
 (.br (leB (IntKind.i64.wrap ((x0.length:Int)-(x1.length:Int))) x0.length&&true)
 (.at ((List.take (IntKind.i64.wrap ((x0.length:Int)-(x1.length:Int))).toNat x0,true)))
 (.no)))
 (.no)
def q2W(x0 x1:List UInt8):=qaC (qKB x0 x1).ev
theorem q2X(x0 x1):q2W x0 x1=(qKB x0 x1).ev:=qaa _
theorem znS:FH IP 239 ⟨[.str,.str],[]⟩ [⟨false,.tup [.str,.bool],[]⟩] (k2 q2W):=fh zmC (k2 qKB) T20
def T21:=T20.a znS
def qAl(x0 x1:List UInt8):DT (List UInt8×Bool):=
 .bi (q2W x0 x1) (fun y0=>
 .at ((y0)))
 (.no)
def qBe(x0 x1:List UInt8):=qaC (qAl x0 x1).ev
theorem qSQ(x0 x1):qBe x0 x1=(qAl x0 x1).ev:=qaa _
theorem ziD:FH IP 206 ⟨[.str,.str],[]⟩ [⟨false,.tup [.str,.bool],[]⟩] (k2 qBe):=fh zmy (k2 qAl) T21
def T22:=T21.a ziD
def qzw(x0 x1:List UInt8):DT Int:=
 .bi (br ((x1.length:Int)==0) (some true) (some (x1==x0))) (fun y0=>
 .br (y0)
 (.at (0))
 (.br ((x1.length:Int)==1)
 (.br (inB x1.length 0) (.at (Lib.indexByte x0 (qal x1 0).toNat.toUInt8)) (.no))
 (.br (decide ((x1.length:Int)>=(x0.length:Int))) (.at (-1)) (.no))))
 (.no)
def qA5(x0 x1:List UInt8):=qaC (qzw x0 x1).ev
theorem qSm(x0 x1):qA5 x0 x1=(qzw x0 x1).ev:=qaa _
theorem zhU:FH IP 199 ⟨[.str,.str],[]⟩ [⟨false,.int .i64,[]⟩] (k2 qA5):=qag (F:=zhn) (L:=[]) (t:=(k2 qzw)) T22.ok (qac (l:=[qad zhn 0]) (by kernel_rfl) ⟨qKq (by kernel_rfl),trivial⟩) (by kernel_rfl) (fun v=>by kernel_rfl) (fun _=>qaa _)
def T23:=T22.a zhU
def qzC(x0 x1:List UInt8):DT (List UInt8×List UInt8×Bool):=
 .bi (qA5 x0 x1) (fun y0=>
 .br (decide (y0>=0))
 (.br (leB y0 x0.length&&true)
 (.br (leB (IntKind.i64.wrap (y0+(x1.length:Int))) x0.length)
 (.at ((List.take y0.toNat x0,List.drop (IntKind.i64.wrap (y0+(x1.length:Int))).toNat x0,true)))
 (.no))
 (.no))
 (.at ((x0,[],false))))
 (.no)
def qHy(x0 x1:List UInt8):=qaC (qzC x0 x1).ev
theorem qSq(x0 x1):qHy x0 x1=(qzC x0 x1).ev:=qaa _
theorem zhX:FH IP 240 ⟨[.str,.str],[]⟩ [⟨false,.tup [.str,.str,.bool],[]⟩] (k2 qHy):=fh zmD (k2 qzC) T23
def T24:=T23.a zhX
def qql(x0 x1:List UInt8):DT (List UInt8×List UInt8×Bool):=
 .bi (qHy x0 x1) (fun y0=>
 .at ((y0)))
 (.no)
def qrV(x0 x1:List UInt8):=qaC (qql x0 x1).ev
theorem qLL(x0 x1):qrV x0 x1=(qql x0 x1).ev:=qaa _
theorem zbD:FH IP 207 ⟨[.str,.str],[]⟩ [⟨false,.tup [.str,.str,.bool],[]⟩] (k2 qrV):=fh zmz (k2 qql) T24
def T25:=T24.a zbD
abbrev qeW:Type:=List UInt8×List UInt8
def qH3:List PSt:=[⟨[(1015600,.junk),(6,.str),(7,.str)],[],0,0⟩]
def q08(x0 x1:List UInt8):X×St:=(.exit 0,⟨[(6,.str x0),(7,.str x1)],[],0,0⟩)
def zfR:List (qeW->X×St):=[(k2 q08)]
def qoh(x0 x1:List UInt8):DT (Rd qeW):=
 .br (decide ((x1.length:Int)<4))
 (.br (decide (x1.length+1<=4611686018427387904)) (.at (.next ((x0,x1++[48])))) (.no))
 (.at (.done 0))
def qkA:qeW->DT (Rd qeW):=(fun v=>qoh v.1 v.2)
def qyj(v:qeW):=lo qkA v
theorem qv5(v):qyj v=qae (fun v=>(qkA v).ev) v:=qaa _
def qJg:qbJ:=LE (τ:=qeW) (hD qH3) (qyj) zfR
theorem zeN:TL IP q98 0 qJg:=lp (ih qeW) (hs:=qH3) qkA T25 qv5
def qqB(x0:List UInt8):DT (Int×Int):=
 .bi (qBe x0 [37]) (fun y0=>
 .bi (qrV y0.1 [46]) (fun y1=>
 .bi (br (!y0.2) (some true) (br (sm (qln y1.1)) (some !gv (qln y1.1)) none)) (fun y2=>
 .bi (br y2 (some true)
 (br y1.2.2
 (br (y1.2.1== []) (some true)
 (br (decide ((y1.2.1.length:Int)>4)) (some true)
 (br (sm (qgY y1.2.1))
 (br (!gv (qgY y1.2.1)==y1.2.1) (some true)
 (br (inB y1.2.1.length (IntKind.i64.wrap ((y1.2.1.length:Int)-1))) (some (qal y1.2.1 (IntKind.i64.wrap ((y1.2.1.length:Int)-1))==48))
 none))
 none)))
 (some false))) (fun y3=>
 .br (y3)
 (.at ((0,2)))
 (.br (decide ((y1.1.length:Int)>3))
 (.at ((0,1)))
 (.bi (pj 0 (qyj (y1.1,y1.2.1))) (fun y4=>
 .br (decide (y4.1.length+y4.2.length<=4611686018427387904))
 (.br (pOk (y4.1++y4.2)&&nOk (Lib.atoiAll (y4.1++y4.2)))
 (.br (decide (qNU (Lib.atoiAll (y4.1++y4.2))>1000000)) (.at ((0,1))) (.at ((qNU (Lib.atoiAll (y4.1++y4.2)),0))))
 (.br (pOk (y4.1++y4.2)&&qhw (Lib.atoiAll (y4.1++y4.2)))
 (.br (decide (Lib.atoiSat (y4.1++y4.2)>1000000)) (.at ((0,1))) (.at ((Lib.atoiSat (y4.1++y4.2),0))))
 (.br (pOk (y4.1++y4.2)&&qc7 (Lib.atoiAll (y4.1++y4.2))) (.at ((0,0))) (.no))))
 (.no))
 (.no))))
 (.no))
 (.no))
 (.no))
 (.no)
def qjl(x0:List UInt8):=qaC (qqB x0).ev
theorem qL1(x0):qjl x0=(qqB x0).ev:=qaa _
theorem zb1:FH IP 156 ⟨[.str],[]⟩ [⟨false,.tup [.int .i64,.int .i64],[]⟩] qjl:=f1 q98 1015600 zeN qqB T25
def T26:=T25.a zb1
def qp8(x0:List UInt8):DT (Int×Int×List UInt8×Int):=
 .bi (qln x0) (fun y0=>
 .br (y0)
 (.br (pOk x0&&nOk (Lib.parseIntB 64 x0))
 (.at ((2,0,x0,0)))
 (.br (pOk x0&&qhw (Lib.parseIntB 64 x0))
 (.at ((0,0,[],6)))
 (.br (pOk x0&&qc7 (Lib.parseIntB 64 x0)) (.at ((0,0,[],6))) (.no))))
 (.bi (qjl x0) (fun y1=>
 .br (y1.2==0)
 (.at ((3,0,x0,0)))
 (.br (y1.2==1) (.at ((0,0,[],6))) (.at ((0,0,[],2)))))
 (.no)))
 (.no)
def qrP(x0:List UInt8):=qaC (qp8 x0).ev
theorem qLy(x0):qrP x0=(qp8 x0).ev:=qaa _
theorem zbn:FH IP 148 ⟨[.str],[]⟩ [⟨false,.tup [.agg [.int .i64,.int .i64,.str],.int .i64],[]⟩] qrP:=fh zmh qp8 T26
def T27:=T26.a zbn
def qqn:DT (List AV):=
 .at ([AV.str ([]++[61]++[61]),AV.str ([]++[33]++[61]),AV.str ([]++[60]++[61]),AV.str ([]++[123]),AV.str ([]++[125]),AV.str ([]++[40]),AV.str ([]++[41]),
 AV.str ([]++[44]),AV.str ([]++[59]),AV.str ([]++[58]),AV.str ([]++[36]),AV.str ([]++[43]),AV.str ([]++[45]),AV.str ([]++[42]),AV.str ([]++[47]),
 AV.str ([]++[60])])
def qrX:=qaC (qqn).ev
theorem qLN:qrX=(qqn).ev:=qaa _
theorem zbF:FH IP 150 ⟨[],[]⟩ [⟨false,.view 1,[]⟩] (fun _=>qrX):=fh zmj (fun _=>qqn) T27
def T28:=T27.a zbF
def qKC(x0 x1:List UInt8):DT Bool:=
 .bi (br (decide ((x0.length:Int)>=(x1.length:Int))) (br (leB (x1.length:Int) x0.length&&true) (some (List.take (x1.length:Int).toNat x0==x1)) none) (some false)) (fun y0=>
 .at (y0))
 (.no)
def q2Y(x0 x1:List UInt8):=qaC (qKC x0 x1).ev
theorem q2Z(x0 x1):q2Y x0 x1=(qKC x0 x1).ev:=qaa _
theorem znT:FH IP 190 ⟨[.str,.str],[]⟩ [⟨false,.bool,[]⟩] (k2 q2Y):=fh zmt (k2 qKC) T28
def T29:=T28.a znT
def qAm(x0 x1:List UInt8):DT Bool:=
 .bi (q2Y x0 x1) (fun y0=>
 .at (y0))
 (.no)
def qBf(x0 x1:List UInt8):=qaC (qAm x0 x1).ev
theorem qSR(x0 x1):qBf x0 x1=(qAm x0 x1).ev:=qaa _
theorem ziE:FH IP 129 ⟨[.str,.str],[]⟩ [⟨false,.bool,[]⟩] (k2 qBf):=fh zma (k2 qAm) T29
def T30:=T29.a ziE
abbrev qeX:Type:=List UInt8×List AV×Int×Int×Int×Int×List UInt8
def qH4:List PSt:=[⟨[(1008800,.junk),(0,.str),(2,.ref 0 0 0),(34,.view 1),(35,.int .i64),(36,.int .i64)],[(0,.box [.int .i64,.int .i64,.str] false)],1,0⟩]
def q09(x0:List UInt8)(x1:List AV)(x2 x3:Int)(x4 x5:Int)(x6:List UInt8):X×St:=(.ret,
 ⟨[(2,.ref 0 0 0),(3,.int .i64 0)],[(0,.box [.int .i64 4,.int .i64 0,.str (strOf (cellAt x1 x3 0))] false)],1,0⟩)
def q1a(x0:List UInt8)(x1:List AV)(x2 x3:Int)(x4 x5:Int)(x6:List UInt8):X×St:=(.exit 1,⟨[(2,.ref 0 0 0),(3,.junk)],[(0,.box [.int .i64 x4,.int .i64 x5,.str x6] false)],1,0⟩)
def zfS:List (qeX->X×St):=[(k7 q09),(k7 q1a)]
def qoi(x0:List UInt8)(x1:List AV)(x2 x3:Int)(x4 x5:Int)(x6:List UInt8):DT (Rd qeX):=
 .br (decide (x3<x2))
 (.br (qaG [.str] x1 x3)
 (.bi (qBf x0 (strOf (cellAt x1 x3 0))) (fun y0=>
 .br (y0) (.at (.done 0)) (.at (.next ((x0,x1,x2,IntKind.i64.wrap (x3+1),x4,x5,x6)))))
 (.no))
 (.no))
 (.at (.done 1))
def qmL:qeX->DT (Rd qeX):=(fun v=>qoi v.1 v.2.1 v.2.2.1 v.2.2.2.1 v.f.1 v.f.2.1 v.f.2.2)
def qsW(v:qeX):=lo qmL v
theorem qv6(v):qsW v=qae (fun v=>(qmL v).ev) v:=qaa _
def qJh:qbJ:=LE (τ:=qeX) (hD qH4) (qsW) zfS
theorem zeO:TL IP F88 0 qJh:=lp (ih qeX) (hs:=qH4) qmL T30 qv6
def qqD(x0:List UInt8):DT (Int×Int×List UInt8×Int):=
 .br (inB x0.length 0)
 (.bi (qnq (IntKind.i32.wrap (qal x0 0))) (fun y0=>
 .br (y0)
 (.bi (qrH x0) (fun y1=>
 .bi (qg1 y1) (fun y2=>
 .br (y2)
 (.at ((5,0,y1,0)))
 (.br (decide ((y1.length:Int)>16)) (.at ((0,0,[],4))) (.at ((1,0,y1,0)))))
 (.no))
 (.no))
 (.bi (qij (IntKind.i32.wrap (qal x0 0))) (fun y1=>
 .br (y1)
 (.bi (qrI x0) (fun y2=>
 .bi (qrP y2) (fun y3=>
 .at ((y3)))
 (.no))
 (.no))
 (.bi (qrX) (fun y2=>
 .bi (pj 0 (qsW (x0,y2,(y2.length:Int),0,0,0,[]))) (fun y3=>
 .at ((4,0,strOf (cellAt y3.2.1 y3.2.2.2.1 0),0)))
 (.bi (pj 1 (qsW (x0,y2,(y2.length:Int),0,0,0,[]))) (fun y3=>
 .at ((0,0,[],2)))
 (.no)))
 (.no)))
 (.no)))
 (.no))
 (.no)
def qeu(x0:List UInt8):=qaC (qqD x0).ev
theorem qL3(x0):qeu x0=(qqD x0).ev:=qaa _
theorem zb2:FH IP 88 ⟨[.str],[]⟩ [⟨false,.tup [.agg [.int .i64,.int .i64,.str],.int .i64],[]⟩] qeu:=f1 F88 1008800 zeO qqD T30
def T31:=T30.a zb2
abbrev qeo:Type:=(List UInt8×Int)⊕(List UInt8×Int×List AV)
def qTz:List PSt:=[⟨[(1003900,.junk),(0,.str),(5,.nils 3),(6,.int .i64)],[],0,0⟩,⟨[(1003900,.junk),(0,.str),(5,.own 0 0),(6,.int .i64)],[(0,.arr 3 false)],1,0⟩]
def q5d(x0:List UInt8)(x1:Int):X×St:=(.ret,⟨[(2,.nils ⟨3,.nil⟩),(3,.int .i64 0),(4,.int .i64 0)],[],0,0⟩)
def q5e(x0:List UInt8)(x1:Int):X×St:=(.ret,
 ⟨[(2,.nils ⟨3,.nil⟩),(3,.int .i64 (IntKind.i64.wrap (x1+((Lib.countByte (List.take (gv (qcj x0)).toNat x0) 10):Int)))),
 (4,.int .i64 (gv (qeu (List.drop (gv (qcj x0)).toNat x0))).2.2.2)],[],0,0⟩)
def q5f(x0:List UInt8)(x1:Int)(x2:List AV):X×St:=(.ret,⟨[(2,.own 0 0 none),(3,.int .i64 0),(4,.int .i64 0)],[(0,.arr 3 x2 false)],1,0⟩)
def q5g(x0:List UInt8)(x1:Int)(x2:List AV):X×St:=(.ret,
 ⟨[(2,.nils ⟨3,.nil⟩),(3,.int .i64 (IntKind.i64.wrap (x1+((Lib.countByte (List.take (gv (qcj x0)).toNat x0) 10):Int)))),
 (4,.int .i64 (gv (qeu (List.drop (gv (qcj x0)).toNat x0))).2.2.2)],[],0,0⟩)
def zlL:List (qeo->X×St):=[fun w=>(k2 q5d) ((sl w)),fun w=>(k2 q5e) ((sl w)),fun w=>(k3 q5f) ((sr w)),fun w=>(k3 q5g) ((sr w))]
def qmV(x0:List UInt8)(x1:Int):DT (Rd qeo):=
 .bi (qcj x0) (fun y0=>
 .br (leB y0 x0.length&&true)
 (.br (leB y0 x0.length)
 (.br (List.drop y0.toNat x0== [])
 (.at (.done 0))
 (.bi (qeu (List.drop y0.toNat x0)) (fun y1=>
 .br (y1.2.2.2 != 0)
 (.at (.done 1))
 (.br (leB (y1.2.2.1.length:Int) (List.drop y0.toNat x0).length)
 (.at (.next ((.inr (List.drop (y1.2.2.1.length:Int).toNat (List.drop y0.toNat x0),IntKind.i64.wrap (x1+((Lib.countByte (List.take y0.toNat x0) 10):Int)),[AV.agg [.int .i64 y1.1,.int .i64 (IntKind.i64.wrap (x1+((Lib.countByte (List.take y0.toNat x0) 10):Int))),AV.str y1.2.2.1]])))))
 (.no)))
 (.no)))
 (.no))
 (.no))
 (.no)
def qmW(x0:List UInt8)(x1:Int)(x2:List AV):DT (Rd qeo):=
 .bi (qcj x0) (fun y0=>
 .br (leB y0 x0.length&&true)
 (.br (leB y0 x0.length)
 (.br (List.drop y0.toNat x0== [])
 (.at (.done 2))
 (.bi (qeu (List.drop y0.toNat x0)) (fun y1=>
 .br (y1.2.2.2 != 0)
 (.at (.done 3))
 (.br (room (x2.length+1) 32)
 (.br (leB (y1.2.2.1.length:Int) (List.drop y0.toNat x0).length)
 (.at (.next ((.inr (List.drop (y1.2.2.1.length:Int).toNat (List.drop y0.toNat x0),IntKind.i64.wrap (x1+((Lib.countByte (List.take y0.toNat x0) 10):Int)),x2++[AV.agg [.int .i64 y1.1,.int .i64 (IntKind.i64.wrap (x1+((Lib.countByte (List.take y0.toNat x0) 10):Int))),AV.str y1.2.2.1]])))))
 (.no))
 (.no)))
 (.no)))
 (.no))
 (.no))
 (.no)
def qhb:qeo->DT (Rd qeo):=(Sum.elim (fun v=>qmV v.1 v.2) (fun v=>qmW v.1 v.2.1 v.2.2))
def qoW(v:qeo):=lo qhb v
theorem qs4(v):qoW v=qae (fun v=>(qhb v).ev) v:=qaa _
def qUu:qbJ:=LE (τ:=qeo) (hD qTz) (qoW) zlL
theorem zk0:Go.Eng.Told IP (qad F39 0).1 (qad F39 0).2 (qUu):=qas (inferInstance:Inhabited qeo) (hs:=qTz) (st:=qhb) (L:=[]) T31.ok (qac (l:=[]) (by kernel_rfl) trivial) (qs4) (fun v=>match v with|(.inl v)=>by kernel_rfl|(.inr v)=>by kernel_rfl) (fun v=>match v with|(.inl v)=>by kernel_rfl|(.inr v)=>by kernel_rfl)
abbrev qC3:Type:=List AV×Int×Int
def qpN(x0:List UInt8):DT qC3:=
 .br (decide ((x0.length:Int)>2048))
 (.at (([],0,5)))
 (.bi (pj 0 (qoW (Sum.inl (x0,1)))) (fun y0=>
 .at (([],0,0)))
 (.bi (pj 1 (qoW (Sum.inl (x0,1)))) (fun y0=>
 .at (([],IntKind.i64.wrap ((sl y0).2+((Lib.countByte (List.take (gv (qcj (sl y0).1)).toNat (sl y0).1) 10):Int)),(gv (qeu (List.drop (gv (qcj (sl y0).1)).toNat (sl y0).1))).2.2.2)))
 (.bi (pj 2 (qoW (Sum.inl (x0,1)))) (fun y0=>
 .at (((sr y0).2.2,0,0)))
 (.bi (pj 3 (qoW (Sum.inl (x0,1)))) (fun y0=>
 .at (([],IntKind.i64.wrap ((sr y0).2.1+((Lib.countByte (List.take (gv (qcj (sr y0).1)).toNat (sr y0).1) 10):Int)),(gv (qeu (List.drop (gv (qcj (sr y0).1)).toNat (sr y0).1))).2.2.2)))
 (.no)))))
def qjf(x0:List UInt8):=qaC (qpN x0).ev
theorem qLb(x0):qjf x0=(qpN x0).ev:=qaa _
theorem qD6:FH IP 39 ⟨[.str],[]⟩ [⟨false,.tup [.view 3,.int .i64,.int .i64],[]⟩] qjf:=f1 F39 1003900 zk0 qpN T31
def T32:=T31.a qD6
def qAh(x0:Int)(x1:List AV)(x2 x3 x4:Int):DT (Bool×List AV×Int×Int×Int):=
 .br (x3==0)
 (.br (decide (x2<(x1.length:Int)))
 (.br (qaG [.int .i64,.int .i64,.str] x1 x2) (.at ((intOf (cellAt x1 x2 0)==x0,x1,x2,x3,x4))) (.no))
 (.at ((false,x1,x2,x3,x4))))
 (.at ((false,x1,x2,x3,x4)))
def qsy(x0:Int)(x1:List AV)(x2 x3 x4:Int):=qaC (qAh x0 x1 x2 x3 x4).ev
theorem qSM(x0 x1 x2 x3 x4):qsy x0 x1 x2 x3 x4=(qAh x0 x1 x2 x3 x4).ev:=qaa _
theorem ziw:FH IP 151 ⟨[.ref 0 0 0,.int .i64],[(0,.box [.view 3,.int .i64,.int .i64,.int .i64] false)]⟩ [⟨false,.bool,[(0,.box [.view 3,.int .i64,.int .i64,.int .i64] false)]⟩] (k5 qsy):=fh zmk (k5 qAh) T32
def T33:=T32.a ziw
abbrev qPK:Type:=Bool×List AV×Int×Int×Int
def qz2(x0:List UInt8)(x1:List AV)(x2 x3 x4:Int):DT qPK:=
 .bi (qsy 5 x1 x2 x3 x4) (fun y0=>
 .br (!y0.1)
 (.bi (qsy 4 y0.2.1 y0.2.2.1 y0.2.2.2.1 y0.f) (fun y1=>
 .br (!y1.1)
 (.at ((false,y1.2)))
 (.br (qaG [.int .i64,.int .i64,.str] y1.2.1 y1.2.2.1)
 (.br (!strOf (cellAt y1.2.1 y1.2.2.1 2)==x0)
 (.at ((false,y1.2)))
 (.at ((true,y1.2.1,IntKind.i64.wrap (y1.2.2.1+1),y1.2.2.2))))
 (.no)))
 (.no))
 (.br (qaG [.int .i64,.int .i64,.str] y0.2.1 y0.2.2.1)
 (.br (!strOf (cellAt y0.2.1 y0.2.2.1 2)==x0)
 (.at ((false,y0.2)))
 (.at ((true,y0.2.1,IntKind.i64.wrap (y0.2.2.1+1),y0.2.2.2))))
 (.no)))
 (.no)
def qao(x0:List UInt8)(x1:List AV)(x2 x3 x4:Int):=qaC (qz2 x0 x1 x2 x3 x4).ev
theorem qSw(x0 x1 x2 x3 x4):qao x0 x1 x2 x3 x4=(qz2 x0 x1 x2 x3 x4).ev:=qaa _
theorem zh4:FH IP 96 ⟨[.ref 0 0 0,.str],[(0,.box [.view 3,.int .i64,.int .i64,.int .i64] false)]⟩ [⟨false,.bool,[(0,.box [.view 3,.int .i64,.int .i64,.int .i64] false)]⟩] (k5 qao):=fh F96 (k5 qz2) T33
def T34:=T33.a zh4
abbrev qPR:Type:=List AV×Int×Int×Int
def quR(x0 x1:Int)(x2:List AV)(x3 x4 x5:Int):DT qPR:=
 .br (x4 != 0)
 (.at ((x2,x3,x4,x5)))
 (.br (decide ((x2.length:Int)>0))
 (.br (qaG [.int .i64,.int .i64,.str] x2 (if IntKind.i64.wrap ((x2.length:Int)-1)<x1 then IntKind.i64.wrap ((x2.length:Int)-1)else x1))
 (.at ((x2,x3,x0,intOf (cellAt x2 (if IntKind.i64.wrap ((x2.length:Int)-1)<x1 then IntKind.i64.wrap ((x2.length:Int)-1)else x1) 1))))
 (.no))
 (.at ((x2,x3,x0,x5))))
def qcf(x0 x1:Int)(x2:List AV)(x3 x4 x5:Int):=qaC (quR x0 x1 x2 x3 x4 x5).ev
theorem qBb(x0 x1 x2 x3 x4 x5):qcf x0 x1 x2 x3 x4 x5=(quR x0 x1 x2 x3 x4 x5).ev:=qaa _
theorem zii:FH IP 99 ⟨[.ref 0 0 0,.int .i64,.int .i64],[(0,.box [.view 3,.int .i64,.int .i64,.int .i64] false)]⟩ [⟨false,.tup [],[(0,.box [.view 3,.int .i64,.int .i64,.int .i64] false)]⟩] (k6 qcf):=fh F99 (k6 quR) T34
def T35:=T34.a zii
abbrev qhY:Type:=List AV×Int×Int×List AV×Int×Int×Int
def qTm:List PSt:=[⟨[(1008900,.junk),(0,.ref 0 0 0),(6,.view 1),(7,.int .i64),(8,.int .i64)],[(0,.box [.view 3,.int .i64,.int .i64,.int .i64] false)],1,1⟩]
def q4L(x0:List AV)(x1 x2:Int)(x3:List AV)(x4 x5 x6:Int):X×St:=(.exit 0,⟨[],[(0,.box [.view 3 x3,.int .i64 x4,.int .i64 x5,.int .i64 x6] false)],1,1⟩)
def zly:List (qhY->X×St):=[(k7 q4L)]
def qjU(x0:List AV)(x1 x2:Int)(x3:List AV)(x4 x5 x6:Int):DT (Rd qhY):=
 .br (decide (x2<x1))
 (.br (qaG [.str] x0 x2)
 (.bi (qao (strOf (cellAt x0 x2 0)) x3 x4 x5 x6) (fun y0=>
 .br (!y0.1)
 (.bi (qcf 2 y0.2.2.1 y0.2.1 y0.2.2.1 y0.2.2.2.1 y0.f) (fun y1=>
 .at (.next ((x0,x1,IntKind.i64.wrap (x2+1),y1))))
 (.no))
 (.at (.next ((x0,x1,IntKind.i64.wrap (x2+1),y0.2)))))
 (.no))
 (.no))
 (.at (.done 0))
def qun:qhY->DT (Rd qhY):=(fun v=>qjU v.1 v.2.1 v.2.2.1 v.2.2.2.1 v.f.1 v.f.2.1 v.f.2.2)
def qTP(v:qhY):=lo qun v
theorem qBu(v):qTP v=qae (fun v=>(qun v).ev) v:=qaa _
def qUh:qbJ:=LE (τ:=qhY) (hD qTm) (qTP) zly
theorem zkN:TL IP F89 0 qUh:=lp (ih qhY) (hs:=qTm) qun T35 qBu
def qAa(x0 x1:List AV)(x2 x3 x4:Int):DT (List AV×Int×Int×Int):=
 .bi (pj 0 (qTP (x0,(x0.length:Int),0,x1,x2,x3,x4))) (fun y0=>
 .at ((y0.2.2.2)))
 (.no)
def qaT(x0 x1:List AV)(x2 x3 x4:Int):=qaC (qAa x0 x1 x2 x3 x4).ev
theorem qSF(x0 x1 x2 x3 x4):qaT x0 x1 x2 x3 x4=(qAa x0 x1 x2 x3 x4).ev:=qaa _
theorem zil:FH IP 89 ⟨[.ref 0 0 0,.view 1],[(0,.box [.view 3,.int .i64,.int .i64,.int .i64] false)]⟩ [⟨false,.tup [],[(0,.box [.view 3,.int .i64,.int .i64,.int .i64] false)]⟩] (k5 qaT):=f1 F89 1008900 zkN (k5 qAa) T35
def T36:=T35.a zil
abbrev qPS:Type:=List UInt8×List AV×Int×Int×Int
def qz9(x0:Int)(x1:List AV)(x2 x3 x4:Int):DT qPS:=
 .bi (qsy x0 x1 x2 x3 x4) (fun y0=>
 .br (!y0.1)
 (.bi (qcf 2 y0.2.2.1 y0.2.1 y0.2.2.1 y0.2.2.2.1 y0.f) (fun y1=>
 .at (([],y1)))
 (.no))
 (.br (qaG [.int .i64,.int .i64,.str] y0.2.1 (IntKind.i64.wrap (IntKind.i64.wrap (y0.2.2.1+1)-1)))
 (.at ((strOf (cellAt y0.2.1 (IntKind.i64.wrap (IntKind.i64.wrap (y0.2.2.1+1)-1)) 2),y0.2.1,IntKind.i64.wrap (y0.2.2.1+1),y0.2.2.2)))
 (.no)))
 (.no)
def qfV(x0:Int)(x1:List AV)(x2 x3 x4:Int):=qaC (qz9 x0 x1 x2 x3 x4).ev
theorem qSE(x0 x1 x2 x3 x4):qfV x0 x1 x2 x3 x4=(qz9 x0 x1 x2 x3 x4).ev:=qaa _
theorem zik:FH IP 90 ⟨[.ref 0 0 0,.int .i64],[(0,.box [.view 3,.int .i64,.int .i64,.int .i64] false)]⟩ [⟨false,.str,[(0,.box [.view 3,.int .i64,.int .i64,.int .i64] false)]⟩] (k5 qfV):=fh F90 (k5 qz9) T36
def T37:=T36.a zik
def qz7(x0:List AV)(x1 x2 x3:Int):DT (List UInt8×List AV×Int×Int×Int):=
 .bi (qfV 1 x0 x1 x2 x3) (fun y0=>
 .bi (br ((y0.1.length:Int) != 3) (some true)
 (br (decide (y0.1.length<=1000000)&&(qCX y0.1&&qCX [48,49,50,51,52,53,54,55,56,57,95]))
 (some (Lib.containsAny y0.1 [48,49,50,51,52,53,54,55,56,57,95])) none)) (fun y1=>
 .br (y1)
 (.bi (qcf 2 x1 y0.2.1 y0.2.2.1 y0.2.2.2.1 y0.f) (fun y2=>
 .at (([],y2)))
 (.no))
 (.br (decide (y0.1.length<=1000000)&&qCX y0.1) (.at ((Lib.toUpperA y0.1,y0.2))) (.no)))
 (.no))
 (.no)
def qBa(x0:List AV)(x1 x2 x3:Int):=qaC (qz7 x0 x1 x2 x3).ev
theorem qSB(x0 x1 x2 x3):qBa x0 x1 x2 x3=(qz7 x0 x1 x2 x3).ev:=qaa _
theorem zig:FH IP 91 ⟨[.ref 0 0 0],[(0,.box [.view 3,.int .i64,.int .i64,.int .i64] false)]⟩ [⟨false,.str,[(0,.box [.view 3,.int .i64,.int .i64,.int .i64] false)]⟩] (k4 qBa):=fh F91 (k4 qz7) T37
def T38:=T37.a zig
abbrev qPM:Type:=Int×List AV×Int×Int×Int
def qz4(x0:List AV)(x1 x2 x3:Int):DT qPM:=
 .bi (qfV 2 x0 x1 x2 x3) (fun y0=>
 .br (pOk y0.1&&nOk (Lib.atoiAll y0.1))
 (.at ((qNU (Lib.atoiAll y0.1),y0.2)))
 (.br (pOk y0.1&&qhw (Lib.atoiAll y0.1))
 (.at ((Lib.atoiSat y0.1,y0.2)))
 (.br (pOk y0.1&&qc7 (Lib.atoiAll y0.1)) (.at ((0,y0.2))) (.no))))
 (.no)
def qiS(x0:List AV)(x1 x2 x3:Int):=qaC (qz4 x0 x1 x2 x3).ev
theorem qSy(x0 x1 x2 x3):qiS x0 x1 x2 x3=(qz4 x0 x1 x2 x3).ev:=qaa _
theorem zh6:FH IP 93 ⟨[.ref 0 0 0],[(0,.box [.view 3,.int .i64,.int .i64,.int .i64] false)]⟩ [⟨false,.int .i64,[(0,.box [.view 3,.int .i64,.int .i64,.int .i64] false)]⟩] (k4 qiS):=fh F93 (k4 qz4) T38
def T39:=T38.a zh6
def qqQ(x0:Int):DT Bool:=
 .bi (br (x0.tmod 4==0) (br (x0.tmod 100 != 0) (some true) (some (x0.tmod 400==0))) (some false)) (fun y0=>
 .at (y0))
 (.no)
def qnx(x0:Int):=qaC (qqQ x0).ev
theorem qMg(x0):qnx x0=(qqQ x0).ev:=qaa _
theorem zcq:FH IP 176 ⟨[.int .i64],[]⟩ [⟨false,.bool,[]⟩] qnx:=fh zmr qqQ T39
def T40:=T39.a zcq
def qqh(x0 x1:Int):DT Int:=
 .bi (br (x1==2) (br (sm (qnx x0)) (some (gv (qnx x0))) none) (some false)) (fun y0=>
 .br (y0)
 (.at (29))
 (.br (decide (x1=Int.ofNat 0))
 (.at (0))
 (.br (decide (x1=Int.ofNat 1))
 (.at (31))
 (.br (decide (x1=Int.ofNat 2))
 (.at (28))
 (.br (decide (x1=Int.ofNat 3))
 (.at (31))
 (.br (decide (x1=Int.ofNat 4))
 (.at (30))
 (.br (decide (x1=Int.ofNat 5))
 (.at (31))
 (.br (decide (x1=Int.ofNat 6))
 (.at (30))
 (.br (decide (x1=Int.ofNat 7))
 (.at (31))
 (.br (decide (x1=Int.ofNat 8))
 (.at (31))
 (.br (decide (x1=Int.ofNat 9))
 (.at (30))
 (.br (decide (x1=Int.ofNat 10))
 (.at (31))
 (.br (decide (x1=Int.ofNat 11))
 (.at (30))
 (.br (decide (x1=Int.ofNat 12)) (.at (31)) (.no)))))))))))))))
 (.no)
def qii(x0 x1:Int):=qaC (qqh x0 x1).ev
theorem qLH(x0 x1):qii x0 x1=(qqh x0 x1).ev:=qaa _
theorem zby:FH IP 119 ⟨[.int .i64,.int .i64],[]⟩ [⟨false,.int .i64,[]⟩] (k2 qii):=fh zl6 (k2 qqh) T40
def T41:=T40.a zby
def qqz(x0:Int):DT Int:=
 .br (decide (x0>2100))
 (.at (IntKind.i64.wrap (IntKind.i64.wrap (365*IntKind.i64.wrap (x0-2000))+IntKind.i64.wrap (IntKind.i64.wrap ((IntKind.i64.wrap (IntKind.i64.wrap (x0-2000)+3)).tdiv 4)-1))))
 (.at (IntKind.i64.wrap (IntKind.i64.wrap (365*IntKind.i64.wrap (x0-2000))+IntKind.i64.wrap ((IntKind.i64.wrap (IntKind.i64.wrap (x0-2000)+3)).tdiv 4))))
def qlw(x0:Int):=qaC (qqz x0).ev
theorem qLZ(x0):qlw x0=(qqz x0).ev:=qaa _
theorem zbW:FH IP 118 ⟨[.int .i64],[]⟩ [⟨false,.int .i64,[]⟩] qlw:=fh zl5 qqz T41
def T42:=T41.a zbW
abbrev qfn:Type:=Int×Int×Int×Int
def qIy:List PSt:=[⟨[(1015400,.junk),(0,.int .i64),(1,.int .i64),(8,.int .i64),(9,.int .i64)],[],0,0⟩]
def q2f(x0 x1:Int)(x2 x3:Int):X×St:=(.exit 0,⟨[(8,.int .i64 x2)],[],0,0⟩)
def zgm:List (qfn->X×St):=[(k4 q2f)]
def qhO(x0 x1:Int)(x2 x3:Int):DT (Rd qfn):=
 .br (decide (x3<x1))
 (.bi (qii x0 x3) (fun y0=>
 .at (.next ((x0,x1,IntKind.i64.wrap (x2+y0),IntKind.i64.wrap (x3+1)))))
 (.no))
 (.at (.done 0))
def qpF:qfn->DT (Rd qfn):=(fun v=>qhO v.1 v.2.1 v.2.2.1 v.2.2.2)
def qFN(v:qfn):=lo qpF v
theorem qwk(v):qFN v=qae (fun v=>(qpF v).ev) v:=qaa _
def qJK:qbJ:=LE (τ:=qfn) (hD qIy) (qFN) zgm
theorem zfh:TL IP q97 0 qJK:=lp (ih qfn) (hs:=qIy) qpF T42 qwk
def qq5(x0 x1 x2:Int):DT (Int×Int):=
 .bi (br (decide (x0<2000)) (some true) (some (decide (x0>2199)))) (fun y0=>
 .bi (br y0 (some true) (some (decide (x1<1)))) (fun y1=>
 .bi (br y1 (some true) (some (decide (x1>12)))) (fun y2=>
 .bi (br y2 (some true) (some (decide (x2<1)))) (fun y3=>
 .bi (br y3 (some true) (br (sm (qii x0 x1)) (some (decide (x2>gv (qii x0 x1)))) none)) (fun y4=>
 .br (y4)
 (.at ((0,1)))
 (.bi (qlw x0) (fun y5=>
 .bi (pj 0 (qFN (x0,x1,IntKind.i64.wrap (IntKind.i64.wrap (y5+x2)-1),1))) (fun y6=>
 .at ((y6.2.2.1,0)))
 (.no))
 (.no)))
 (.no))
 (.no))
 (.no))
 (.no))
 (.no)
def qst(x0 x1 x2:Int):=qaC (qq5 x0 x1 x2).ev
theorem qMu(x0 x1 x2):qst x0 x1 x2=(qq5 x0 x1 x2).ev:=qaa _
theorem zcR:FH IP 154 ⟨[.int .i64,.int .i64,.int .i64],[]⟩ [⟨false,.tup [.int .i64,.int .i64],[]⟩] (k3 qst):=f1 q97 1015400 zfh (k3 qq5) T42
def T43:=T42.a zcR
abbrev qG2:Type:=Int×List AV×Int×Int×Int
def quS(x0:List AV)(x1 x2 x3:Int):DT qG2:=
 .bi (qiS x0 x1 x2 x3) (fun y0=>
 .bi (qaT [AV.str [47]] y0.2.1 y0.2.2.1 y0.2.2.2.1 y0.f) (fun y1=>
 .bi (qiS y1.1 y1.2.1 y1.2.2.1 y1.2.2.2) (fun y2=>
 .bi (qaT [AV.str [47]] y2.2.1 y2.2.2.1 y2.2.2.2.1 y2.f) (fun y3=>
 .bi (qiS y3.1 y3.2.1 y3.2.2.1 y3.2.2.2) (fun y4=>
 .bi (qst y0.1 y2.1 y4.1) (fun y5=>
 .br (y5.2 != 0)
 (.bi (qcf 1 x1 y4.2.1 y4.2.2.1 y4.2.2.2.1 y4.f) (fun y6=>
 .at ((y5.1,y6)))
 (.no))
 (.at ((y5.1,y4.2))))
 (.no))
 (.no))
 (.no))
 (.no))
 (.no))
 (.no)
def qBc(x0:List AV)(x1 x2 x3:Int):=qaC (quS x0 x1 x2 x3).ev
theorem qSG(x0 x1 x2 x3):qBc x0 x1 x2 x3=(quS x0 x1 x2 x3).ev:=qaa _
theorem zio:FH IP 92 ⟨[.ref 0 0 0],[(0,.box [.view 3,.int .i64,.int .i64,.int .i64] false)]⟩ [⟨false,.int .i64,[(0,.box [.view 3,.int .i64,.int .i64,.int .i64] false)]⟩] (k4 qBc):=fh F92 (k4 quS) T43
def T44:=T43.a zio
def qz8(x0:List AV)(x1 x2 x3:Int):DT (Int×List AV×Int×Int×Int):=
 .bi (qfV 3 x0 x1 x2 x3) (fun y0=>
 .bi (qjl y0.1) (fun y1=>
 .at ((y1.1,y0.2)))
 (.no))
 (.no)
def qoU(x0:List AV)(x1 x2 x3:Int):=qaC (qz8 x0 x1 x2 x3).ev
theorem qSD(x0 x1 x2 x3):qoU x0 x1 x2 x3=(qz8 x0 x1 x2 x3).ev:=qaa _
theorem zij:FH IP 94 ⟨[.ref 0 0 0],[(0,.box [.view 3,.int .i64,.int .i64,.int .i64] false)]⟩ [⟨false,.int .i64,[(0,.box [.view 3,.int .i64,.int .i64,.int .i64] false)]⟩] (k4 qoU):=fh F94 (k4 qz8) T44
def T45:=T44.a zij
abbrev qhW:Type:=List AV×Int×Int×List AV×Int×Int×Int
def qTj:List PSt:=[⟨[(1009700,.junk),(0,.ref 0 0 0),(7,.view 1),(8,.int .i64),(9,.int .i64)],[(0,.box [.view 3,.int .i64,.int .i64,.int .i64] false)],1,1⟩]
def q4F(x0:List AV)(x1 x2:Int)(x3:List AV)(x4 x5 x6:Int):X×St:=(.ret,
 ⟨[(0,.ref 0 0 0),(4,.int .i64 (IntKind.i64.wrap (x2+1)))],[(0,
 .box
 [.view 3 (gv (qao (strOf (cellAt x0 x2 0)) x3 x4 x5 x6)).2.1,
 .int .i64 (gv (qao (strOf (cellAt x0 x2 0)) x3 x4 x5 x6)).2.2.1,
 .int .i64 (gv (qao (strOf (cellAt x0 x2 0)) x3 x4 x5 x6)).2.2.2.1,
 .int .i64 (gv (qao (strOf (cellAt x0 x2 0)) x3 x4 x5 x6)).f]
 false)],1,1⟩)
def q4G(x0:List AV)(x1 x2:Int)(x3:List AV)(x4 x5 x6:Int):X×St:=(.exit 0,
 ⟨[(0,.ref 0 0 0),(4,.junk)],[(0,.box [.view 3 x3,.int .i64 x4,.int .i64 x5,.int .i64 x6] false)],1,1⟩)
def zlv:List (qhW->X×St):=[(k7 q4F),(k7 q4G)]
def qgl(x0:List AV)(x1 x2:Int)(x3:List AV)(x4 x5 x6:Int):DT (Rd qhW):=
 .br (decide (x2<x1))
 (.br (qaG [.str] x0 x2)
 (.bi (qao (strOf (cellAt x0 x2 0)) x3 x4 x5 x6) (fun y0=>
 .br (y0.1) (.at (.done 0)) (.at (.next ((x0,x1,IntKind.i64.wrap (x2+1),y0.2)))))
 (.no))
 (.no))
 (.at (.done 1))
def qlU:qhW->DT (Rd qhW):=(fun v=>qgl v.1 v.2.1 v.2.2.1 v.2.2.2.1 v.f.1 v.f.2.1 v.f.2.2)
def qIH(v:qhW):=lo qlU v
theorem qBr(v):qIH v=qae (fun v=>(qlU v).ev) v:=qaa _
def qUe:qbJ:=LE (τ:=qhW) (hD qTj) (qIH) zlv
theorem zkK:TL IP F97 0 qUe:=lp (ih qhW) (hs:=qTj) qlU T45 qBr
def qz3(x0 x1:List AV)(x2 x3 x4:Int):DT (Int×List AV×Int×Int×Int):=
 .bi (pj 0 (qIH (x0,(x0.length:Int),0,x1,x2,x3,x4))) (fun y0=>
 .at ((IntKind.i64.wrap (y0.2.2.1+1),(gv (qao (strOf (cellAt y0.1 y0.2.2.1 0)) y0.2.2.2.1 y0.f.1 y0.f.2.1 y0.f.2.2)).2.1,(gv (qao (strOf (cellAt y0.1 y0.2.2.1 0)) y0.2.2.2.1 y0.f.1 y0.f.2.1 y0.f.2.2)).2.2.1,(gv
 (qao (strOf (cellAt y0.1 y0.2.2.1 0)) y0.2.2.2.1 y0.f.1 y0.f.2.1
 y0.f.2.2)).2.2.2.1,(gv
 (qao (strOf (cellAt y0.1 y0.2.2.1 0)) y0.2.2.2.1 y0.f.1 y0.f.2.1
 y0.f.2.2)).f)))
 (.bi (pj 1 (qIH (x0,(x0.length:Int),0,x1,x2,x3,x4))) (fun y0=>
 .bi (qcf 2 y0.f.1 y0.2.2.2.1 y0.f.1 y0.f.2.1 y0.f.2.2) (fun y1=>
 .at ((0,y1)))
 (.no))
 (.no))
def qgC(x0 x1:List AV)(x2 x3 x4:Int):=qaC (qz3 x0 x1 x2 x3 x4).ev
theorem qSx(x0 x1 x2 x3 x4):qgC x0 x1 x2 x3 x4=(qz3 x0 x1 x2 x3 x4).ev:=qaa _
theorem zh5:FH IP 97 ⟨[.ref 0 0 0,.view 1],[(0,.box [.view 3,.int .i64,.int .i64,.int .i64] false)]⟩ [⟨false,.int .i64,[(0,.box [.view 3,.int .i64,.int .i64,.int .i64] false)]⟩] (k5 qgC):=f1 F97 1009700 zkK (k5 qz3) T45
def T46:=T45.a zh5
def qpL:DT (List AV):=
 .at ([AV.str ([]++[97]++[99]++[116]++[51]++[54]++[48]),AV.str ([]++[97]++[99]++[116]++[51]++[54]++[53]),
 AV.str ([]++[97]++[99]++[116]++[117]++[97]++[108]),AV.str ([]++[116]++[104]++[105]++[114]++[116]++[121])])
def qgW:=qaC (qpL).ev
theorem qK9:qgW=(qpL).ev:=qaa _
theorem zaV:FH IP 60 ⟨[],[]⟩ [⟨false,.view 1,[]⟩] (fun _=>qgW):=fh F60 (fun _=>qpL) T46
def T47:=T46.a zaV
def qpM:DT (List AV):=
 .at ([AV.str ([]++[100]++[111]++[119]++[110]),AV.str ([]++[117]++[112]),AV.str ([]++[102]++[108]++[111]++[111]++[114]),
 AV.str ([]++[99]++[101]++[105]++[108]),AV.str ([]++[104]++[97]++[108]++[102]++[95]++[117]++[112]),
 AV.str ([]++[104]++[97]++[108]++[102]++[95]++[101]++[118]++[101]++[110])])
def qgX:=qaC (qpM).ev
theorem qLa:qgX=(qpM).ev:=qaa _
theorem zaW:FH IP 61 ⟨[],[]⟩ [⟨false,.view 1,[]⟩] (fun _=>qgX):=fh F61 (fun _=>qpM) T47
def T48:=T47.a zaW
abbrev qek:Type:=(List AV×Int×Int×Int×Bool×Int×Int×Bool×Bool×Int×Int×Bool)⊕(List AV×Int×Int×Int×Bool×Int×Int×Bool×Bool×Int×Int×Bool×List AV)
def qTg:List PSt:=[⟨[(1009500,.junk),(0,.ref 0 0 0),(4,.ref 1 0 0),(5,.ref 2 0 0)],[(0,.box [.view 3,.int .i64,.int .i64,.int .i64] false),(1,.box [.nils 2,.bool,.int .i64,.int .i64,.bool] false),(2,.box [.nils 2,.bool,.int .i64,.int .i64,.bool] false)],3,1⟩,⟨[(1009500,.junk),(0,.ref 0 0 0),(4,.ref 1 0 0),(5,.ref 2 0 0)],[(0,.box [.view 3,.int .i64,.int .i64,.int .i64] false),(1,.box [.nils 2,.bool,.int .i64,.int .i64,.bool] false),(2,.box [.own 3 0,.bool,.int .i64,.int .i64,.bool] false),(3,.arr 2 false)],4,1⟩]
def q4x(x0:List AV)(x1 x2 x3:Int)(x4:Bool)(x5 x6:Int)(x7 x8:Bool)(x9 x10:Int)(x11:Bool):X×St:=(.exit 0,
 ⟨[(0,.ref 0 0 0),(4,.ref 1 0 0),(5,.ref 2 0 0)],[(0,
 .box
 [.view 3 (gv (qao [36] x0 x1 x2 x3)).2.1,.int .i64 (gv (qao [36] x0 x1 x2 x3)).2.2.1,
 .int .i64 (gv (qao [36] x0 x1 x2 x3)).2.2.2.1,
 .int .i64 (gv (qao [36] x0 x1 x2 x3)).f]
 false),
 (1,.box [.nils ⟨2,.nil⟩,.bool x4,.int .i64 x5,.int .i64 x6,.bool x7] false),
 (2,.box [.nils ⟨2,.nil⟩,.bool x8,.int .i64 x9,.int .i64 x10,.bool x11] false)],3,1⟩)
def q4y(x0:List AV)(x1 x2 x3:Int)(x4:Bool)(x5 x6:Int)(x7 x8:Bool)(x9 x10:Int)(x11:Bool)(x12:List AV):X×St:=(.exit 0,
 ⟨[(0,.ref 0 0 0),(4,.ref 1 0 0),(5,.ref 2 0 0)],[(0,
 .box
 [.view 3 (gv (qao [36] x0 x1 x2 x3)).2.1,.int .i64 (gv (qao [36] x0 x1 x2 x3)).2.2.1,
 .int .i64 (gv (qao [36] x0 x1 x2 x3)).2.2.2.1,
 .int .i64 (gv (qao [36] x0 x1 x2 x3)).f]
 false),
 (1,.box [.nils ⟨2,.nil⟩,.bool x4,.int .i64 x5,.int .i64 x6,.bool x7] false),
 (2,.box [.own 3 0 none,.bool x8,.int .i64 x9,.int .i64 x10,.bool x11] false),(3,.arr 2 x12 false)],4,1⟩)
def zls:List (qek->X×St):=[fun w=>(k12 q4x) ((sl w)),fun w=>(k13 q4y) ((sr w))]
def qjR(x0:List AV)(x1 x2 x3:Int)(x4:Bool)(x5 x6:Int)(x7 x8:Bool)(x9 x10:Int)(x11:Bool):DT (Rd qek):=
 .bi (qao [36] x0 x1 x2 x3) (fun y0=>
 .br (y0.1)
 (.bi (qiS y0.2.1 y0.2.2.1 y0.2.2.2.1 y0.f) (fun y1=>
 .bi (qaT [AV.str [58]] y1.2.1 y1.2.2.1 y1.2.2.2.1 y1.f) (fun y2=>
 .bi (qoU y2.1 y2.2.1 y2.2.2.1 y2.2.2.2) (fun y3=>
 .bi (qaT [AV.str [59]] y3.2.1 y3.2.2.1 y3.2.2.2.1 y3.f) (fun y4=>
 .at (.next ((.inr (y4.1,y4.2.1,y4.2.2.1,y4.2.2.2,x4,x5,x6,x7,x8,x9,x10,x11,[AV.agg [.int .i64 y1.1,.int .i64 y3.1]])))))
 (.no))
 (.no))
 (.no))
 (.no))
 (.at (.done 0)))
 (.no)
def qjS(x0:List AV)(x1 x2 x3:Int)(x4:Bool)(x5 x6:Int)(x7 x8:Bool)(x9 x10:Int)(x11:Bool)(x12:List AV):DT (Rd qek):=
 .bi (qao [36] x0 x1 x2 x3) (fun y0=>
 .br (y0.1)
 (.bi (qiS y0.2.1 y0.2.2.1 y0.2.2.2.1 y0.f) (fun y1=>
 .bi (qaT [AV.str [58]] y1.2.1 y1.2.2.1 y1.2.2.2.1 y1.f) (fun y2=>
 .bi (qoU y2.1 y2.2.1 y2.2.2.1 y2.2.2.2) (fun y3=>
 .bi (qaT [AV.str [59]] y3.2.1 y3.2.2.1 y3.2.2.2.1 y3.f) (fun y4=>
 .br (room (x12.length+1) 16)
 (.at (.next ((.inr (y4.1,y4.2.1,y4.2.2.1,y4.2.2.2,x4,x5,x6,x7,x8,x9,x10,x11,x12++[AV.agg [.int .i64 y1.1,.int .i64 y3.1]])))))
 (.no))
 (.no))
 (.no))
 (.no))
 (.no))
 (.at (.done 1)))
 (.no)
def qy8:qek->DT (Rd qek):=(Sum.elim (fun v=>qjR v.1 v.2.1 v.2.2.1 v.2.2.2.1 v.f.1 v.f.2.1 v.f.2.2.1 v.f.2.2.2.1 v.h.1 v.h.2.1 v.h.2.2.1 v.h.2.2.2) (fun v=>qjS v.1 v.2.1 v.2.2.1 v.2.2.2.1 v.f.1 v.f.2.1 v.f.2.2.1 v.f.2.2.2.1 v.h.1 v.h.2.1 v.h.2.2.1 v.h.2.2.2.1 v.h.f))
def qIF(v:qek):=lo qy8 v
theorem qmn(v):qIF v=qae (fun v=>(qy8 v).ev) v:=qaa _
def qUb:qbJ:=LE (τ:=qek) (hD qTg) (qIF) zls
theorem zkH:Go.Eng.Told IP (qad F95 0).1 (qad F95 0).2 (qUb):=qas (inferInstance:Inhabited qek) (hs:=qTg) (st:=qy8) (L:=[]) T48.ok (qac (l:=[]) (by kernel_rfl) trivial) (qmn) (fun v=>match v with|(.inl v)=>by kernel_rfl|(.inr v)=>by kernel_rfl) (fun v=>match v with|(.inl v)=>by kernel_rfl|(.inr v)=>by kernel_rfl)
def qzE(x0:List UInt8)(x1:List AV)(x2 x3 x4:Int):DT (List AV×Bool×Int×Int×Bool×List AV×Int×Int×Int):=
 .bi (qaT [AV.str x0] x1 x2 x3 x4) (fun y0=>
 .bi (qgC [AV.str [119,104,111,108,101],AV.str [109,97,114,103,105,110,97,108]] y0.1 y0.2.1 y0.2.2.1 y0.2.2.2) (fun y1=>
 .bi (qgW) (fun y2=>
 .bi (qgC y2 y1.2.1 y1.2.2.1 y1.2.2.2.1 y1.f) (fun y3=>
 .bi (qgX) (fun y4=>
 .bi (qgC y4 y3.2.1 y3.2.2.1 y3.2.2.2.1 y3.f) (fun y5=>
 .bi (qgC [AV.str [100,114,111,112],AV.str [107,101,101,112]] y5.2.1 y5.2.2.1 y5.2.2.2.1 y5.f) (fun y6=>
 .bi (qaT [AV.str [123]] y6.2.1 y6.2.2.1 y6.2.2.2.1 y6.f) (fun y7=>
 .bi (pj 0 (qIF (Sum.inl (y7.1,y7.2.1,y7.2.2.1,y7.2.2.2,false,0,0,false,y1.1==2,y3.1,y5.1,y6.1==2)))) (fun y8=>
 .bi (qaT [AV.str [125]] (gv (qao [36] (sl y8).1 (sl y8).2.1 (sl y8).2.2.1 (sl y8).2.2.2.1)).2.1
 (gv (qao [36] (sl y8).1 (sl y8).2.1 (sl y8).2.2.1 (sl y8).2.2.2.1)).2.2.1
 (gv (qao [36] (sl y8).1 (sl y8).2.1 (sl y8).2.2.1 (sl y8).2.2.2.1)).2.2.2.1
 (gv (qao [36] (sl y8).1 (sl y8).2.1 (sl y8).2.2.1 (sl y8).2.2.2.1)).f) (fun y9=>
 .at (([],(sl y8).h.1,(sl y8).h.2.1,(sl y8).h.2.2.1,(sl y8).h.2.2.2,y9)))
 (.no))
 (.bi (pj 1 (qIF (Sum.inl (y7.1,y7.2.1,y7.2.2.1,y7.2.2.2,false,0,0,false,y1.1==2,y3.1,y5.1,y6.1==2)))) (fun y8=>
 .bi (qaT [AV.str [125]] (gv (qao [36] (sr y8).1 (sr y8).2.1 (sr y8).2.2.1 (sr y8).2.2.2.1)).2.1
 (gv (qao [36] (sr y8).1 (sr y8).2.1 (sr y8).2.2.1 (sr y8).2.2.2.1)).2.2.1
 (gv (qao [36] (sr y8).1 (sr y8).2.1 (sr y8).2.2.1 (sr y8).2.2.2.1)).2.2.2.1
 (gv (qao [36] (sr y8).1 (sr y8).2.1 (sr y8).2.2.1 (sr y8).2.2.2.1)).f) (fun y9=>
 .at (((sr y8).h.f,(sr y8).h.1,(sr y8).h.2.1,(sr y8).h.2.2.1,(sr y8).h.2.2.2.1,y9)))
 (.no))
 (.no)))
 (.no))
 (.no))
 (.no))
 (.no))
 (.no))
 (.no))
 (.no))
 (.no)
def qvD(x0:List UInt8)(x1:List AV)(x2 x3 x4:Int):=qaC (qzE x0 x1 x2 x3 x4).ev
theorem qSr(x0 x1 x2 x3 x4):qvD x0 x1 x2 x3 x4=(qzE x0 x1 x2 x3 x4).ev:=qaa _
theorem zhY:FH IP 95 ⟨[.ref 0 0 0,.str],[(0,.box [.view 3,.int .i64,.int .i64,.int .i64] false)]⟩ [⟨false,.agg [.view 2,.bool,.int .i64,.int .i64,.bool],[(0,.box [.view 3,.int .i64,.int .i64,.int .i64] false)]⟩] (k5 qvD):=f1 F95 1009500 zkH (k5 qzE) T48
def T49:=T48.a zhY
def qAy:DT (List AV):=
 .at ([AV.str ([]++[109]++[111]++[110]++[116]++[104]),AV.str ([]++[100]++[101]++[98]++[105]++[116]),
 AV.str ([]++[114]++[101]++[116]++[117]++[114]++[110]),AV.str ([]++[99]++[108]++[111]++[115]++[101])])
def qoV:=qaC (qAy).ev
theorem qS1:qoV=(qAy).ev:=qaa _
theorem ziP:FH IP 20 ⟨[],[]⟩ [⟨false,.view 1,[]⟩] (fun _=>qoV):=fh F20 (fun _=>qAy) T49
def T50:=T49.a ziP
abbrev qPQ:Type:=Int×Int×List UInt8×List AV×List AV×Int×Int×Int
def qoJ(x0:List AV)(x1 x2 x3:Int):DT qPQ:=
 .br (x2 != 0)
 (.at ((0,0,[],[],x0,x1,x2,x3)))
 (.br (Tk.paB IP 157 x0 x1)
 (.br (Tk.paE IP 157 x0 x1 != 0)
 (.bi (qcf (Tk.paE IP 157 x0 x1) (Tk.paK IP 157 x0 x1) x0 x1 x2 x3) (fun y0=>
 .at ((0,0,[],[],y0)))
 (.no))
 (.at ((Tk.paO IP 157 x0 x1,Tk.paN IP 157 x0 x1,Tk.paS IP 157 x0 x1,Tk.paX IP 157 x0 x1,x0,Tk.paK IP 157 x0 x1,x2,x3))))
 (.no))
def qiT(x0:List AV)(x1 x2 x3:Int):=qaC (qoJ x0 x1 x2 x3).ev
theorem qSC(x0 x1 x2 x3):qiT x0 x1 x2 x3=(qoJ x0 x1 x2 x3).ev:=qaa _
theorem zih:FH IP 98 ⟨[.ref 0 0 0],[(0,.box [.view 3,.int .i64,.int .i64,.int .i64] false)]⟩ [⟨false,.agg [.int .i64,.int .i64,.str,.view 4],[(0,.box [.view 3,.int .i64,.int .i64,.int .i64] false)]⟩] (k4 qiT):=fh F98 (k4 qoJ) T50
def T51:=T50.a zih
abbrev qel:Type:=(List AV×Int×Int×Int×List UInt8×List UInt8×List UInt8×Int×Int×Int×Int×Bool×Int×Int×Bool×Bool×Int×Int×Bool×List UInt8×List UInt8×List UInt8×Int×Int×Int×Int×List AV×Bool×Int×Int×Bool×List AV×Bool×Int×Int×Bool)⊕(List AV×Int×Int×Int×List UInt8×List UInt8×List UInt8×Int×Int×Int×Int×Bool×Int×Int×Bool×Bool×Int×Int×Bool×List UInt8×List UInt8×List UInt8×Int×Int×Int×Int×List AV×Bool×Int×Int×Bool×List AV×Bool×Int×Int×Bool×List AV)
def qTh:List PSt:=[⟨[(1004100,.junk),(0,.ref 0 0 0),(2,.ref 1 0 0),(3,.ref 2 0 0)],[(0,.box [.view 3,.int .i64,.int .i64,.int .i64] false),(1,.box [.str,.str,.str,.int .i64,.int .i64,.int .i64,.int .i64,.nils 2,.bool,.int .i64,.int .i64,.bool,.nils 2,.bool,.int .i64,.int .i64,.bool,.nils 10,.nils 6] false),(2,.box [.str,.str,.str,.int .i64,.int .i64,.int .i64,.int .i64,.view 2,.bool,.int .i64,.int .i64,.bool,.view 2,.bool,.int .i64,.int .i64,.bool,.nils 10,.nils 6] false)],3,1⟩,⟨[(1004100,.junk),(0,.ref 0 0 0),(2,.ref 1 0 0),(3,.ref 2 0 0)],[(0,.box [.view 3,.int .i64,.int .i64,.int .i64] false),(1,.box [.str,.str,.str,.int .i64,.int .i64,.int .i64,.int .i64,.nils 2,.bool,.int .i64,.int .i64,.bool,.nils 2,.bool,.int .i64,.int .i64,.bool,.nils 10,.nils 6] false),(2,.box [.str,.str,.str,.int .i64,.int .i64,.int .i64,.int .i64,.view 2,.bool,.int .i64,.int .i64,.bool,.view 2,.bool,.int .i64,.int .i64,.bool,.own 3 0,.nils 6] false),(3,.arr 10 false)],4,1⟩]
def q4z(x0:List AV)(x1 x2 x3:Int)(x4 x5 x6:List UInt8)(x7 x8:Int)(x9 x10:Int)(x11:Bool)(x12 x13:Int)(x14 x15:Bool)(x16 x17:Int)(x18:Bool)(x19 x20 x21:List UInt8)(x22 x23:Int)(x24 x25:Int)(x26:List AV)(x27:Bool)(x28 x29:Int)(x30:Bool)(x31:List AV)(x32:Bool)(x33 x34:Int)(x35:Bool):X×St:=(.exit 1000001,
 ⟨[(0,.ref 0 0 0),(2,.ref 1 0 0),(3,.ref 2 0 0)],[(0,
 .box
 [.view 3 (gv (qao [102,101,101] x0 x1 x2 x3)).2.1,
 .int .i64 (gv (qao [102,101,101] x0 x1 x2 x3)).2.2.1,
 .int .i64 (gv (qao [102,101,101] x0 x1 x2 x3)).2.2.2.1,
 .int .i64 (gv (qao [102,101,101] x0 x1 x2 x3)).f]
 false),
 (1,
 .box
 [.str x4,.str x5,.str x6,.int .i64 x7,.int .i64 x8,.int .i64 x9,.int .i64 x10,.nils ⟨2,.nil⟩,
 .bool x11,.int .i64 x12,.int .i64 x13,.bool x14,.nils ⟨2,.nil⟩,.bool x15,.int .i64 x16,
 .int .i64 x17,.bool x18,.nils ⟨10,.nil⟩,.nils ⟨6,.nil⟩]
 false),
 (2,
 .box
 [.str x19,.str x20,.str x21,.int .i64 x22,.int .i64 x23,.int .i64 x24,.int .i64 x25,.view 2 x26,.bool x27,
 .int .i64 x28,.int .i64 x29,.bool x30,.view 2 x31,.bool x32,.int .i64 x33,.int .i64 x34,.bool x35,
 .nils ⟨10,.nil⟩,.nils ⟨6,.nil⟩]
 false)],3,1⟩)
def q4A(x0:List AV)(x1 x2 x3:Int)(x4 x5 x6:List UInt8)(x7 x8:Int)(x9 x10:Int)(x11:Bool)(x12 x13:Int)(x14 x15:Bool)(x16 x17:Int)(x18:Bool)(x19 x20 x21:List UInt8)(x22 x23:Int)(x24 x25:Int)(x26:List AV)(x27:Bool)(x28 x29:Int)(x30:Bool)(x31:List AV)(x32:Bool)(x33 x34:Int)(x35:Bool)(x36:List AV):X×St:=(.exit 1000001,
 ⟨[(0,.ref 0 0 0),(2,.ref 1 0 0),(3,.ref 2 0 0)],[(0,
 .box
 [.view 3 (gv (qao [102,101,101] x0 x1 x2 x3)).2.1,
 .int .i64 (gv (qao [102,101,101] x0 x1 x2 x3)).2.2.1,
 .int .i64 (gv (qao [102,101,101] x0 x1 x2 x3)).2.2.2.1,
 .int .i64 (gv (qao [102,101,101] x0 x1 x2 x3)).f]
 false),
 (1,
 .box
 [.str x4,.str x5,.str x6,.int .i64 x7,.int .i64 x8,.int .i64 x9,.int .i64 x10,.nils ⟨2,.nil⟩,
 .bool x11,.int .i64 x12,.int .i64 x13,.bool x14,.nils ⟨2,.nil⟩,.bool x15,.int .i64 x16,
 .int .i64 x17,.bool x18,.nils ⟨10,.nil⟩,.nils ⟨6,.nil⟩]
 false),
 (2,
 .box
 [.str x19,.str x20,.str x21,.int .i64 x22,.int .i64 x23,.int .i64 x24,.int .i64 x25,.view 2 x26,.bool x27,
 .int .i64 x28,.int .i64 x29,.bool x30,.view 2 x31,.bool x32,.int .i64 x33,.int .i64 x34,.bool x35,.own 3 0 none,
 .nils ⟨6,.nil⟩]
 false),
 (3,.arr 10 x36 false)],4,1⟩)
def zlt:List (qel->X×St):=[fun w=>(k36 q4z) ((sl w)),fun w=>(k37 q4A) ((sr w))]
def quh(x0:List AV)(x1 x2 x3:Int)(x4 x5 x6:List UInt8)(x7 x8:Int)(x9 x10:Int)(x11:Bool)(x12 x13:Int)(x14 x15:Bool)(x16 x17:Int)(x18:Bool)(x19 x20 x21:List UInt8)(x22 x23:Int)(x24 x25:Int)(x26:List AV)(x27:Bool)(x28 x29:Int)(x30:Bool)(x31:List AV)(x32:Bool)(x33 x34:Int)(x35:Bool):DT (Rd qel):=
 .bi (qao [102,101,101] x0 x1 x2 x3) (fun y0=>
 .br (y0.1)
 (.bi (qfV 1 y0.2.1 y0.2.2.1 y0.2.2.2.1 y0.f) (fun y1=>
 .bi (qoV) (fun y2=>
 .bi (qgC y2 y1.2.1 y1.2.2.1 y1.2.2.2.1 y1.f) (fun y3=>
 .bi (qaT [AV.str [119,104,101,110]] y3.2.1 y3.2.2.1 y3.2.2.2.1 y3.f) (fun y4=>
 .bi (qiT y4.1 y4.2.1 y4.2.2.1 y4.2.2.2) (fun y5=>
 .bi (qaT [AV.str [97,109,111,117,110,116,95,111,102]] y5.f.1 y5.f.2.1 y5.f.2.2.1
 y5.f.2.2.2) (fun y6=>
 .bi (qiT y6.1 y6.2.1 y6.2.2.1 y6.2.2.2) (fun y7=>
 .bi (qaT [AV.str [59]] y7.f.1 y7.f.2.1 y7.f.2.2.1 y7.f.2.2.2) (fun y8=>
 .at (.next ((.inr (y8.1,y8.2.1,y8.2.2.1,y8.2.2.2,x4,x5,x6,x7,x8,x9,x10,x11,x12,x13,x14,x15,x16,x17,x18,x19,x20,x21,x22,x23,x24,x25,x26,x27,x28,x29,x30,x31,x32,x33,x34,x35,[AV.agg
 [AV.str y1.1,.int .i64 y3.1,.int .i64 y5.1,.int .i64 y5.2.1,AV.str y5.2.2.1,AV.view 4 y5.2.2.2.1,
 .int .i64 y7.1,.int .i64 y7.2.1,AV.str y7.2.2.1,AV.view 4 y7.2.2.2.1]])))))
 (.no))
 (.no))
 (.no))
 (.no))
 (.no))
 (.no))
 (.no))
 (.no))
 (.at (.done 0)))
 (.no)
def qui(x0:List AV)(x1 x2 x3:Int)(x4 x5 x6:List UInt8)(x7 x8:Int)(x9 x10:Int)(x11:Bool)(x12 x13:Int)(x14 x15:Bool)(x16 x17:Int)(x18:Bool)(x19 x20 x21:List UInt8)(x22 x23:Int)(x24 x25:Int)(x26:List AV)(x27:Bool)(x28 x29:Int)(x30:Bool)(x31:List AV)(x32:Bool)(x33 x34:Int)(x35:Bool)(x36:List AV):DT (Rd qel):=
 .bi (qao [102,101,101] x0 x1 x2 x3) (fun y0=>
 .br (y0.1)
 (.bi (qfV 1 y0.2.1 y0.2.2.1 y0.2.2.2.1 y0.f) (fun y1=>
 .bi (qoV) (fun y2=>
 .bi (qgC y2 y1.2.1 y1.2.2.1 y1.2.2.2.1 y1.f) (fun y3=>
 .bi (qaT [AV.str [119,104,101,110]] y3.2.1 y3.2.2.1 y3.2.2.2.1 y3.f) (fun y4=>
 .bi (qiT y4.1 y4.2.1 y4.2.2.1 y4.2.2.2) (fun y5=>
 .bi (qaT [AV.str [97,109,111,117,110,116,95,111,102]] y5.f.1 y5.f.2.1 y5.f.2.2.1
 y5.f.2.2.2) (fun y6=>
 .bi (qiT y6.1 y6.2.1 y6.2.2.1 y6.2.2.2) (fun y7=>
 .bi (qaT [AV.str [59]] y7.f.1 y7.f.2.1 y7.f.2.2.1 y7.f.2.2.2) (fun y8=>
 .br (room (x36.length+1) 136)
 (.at (.next ((.inr (y8.1,y8.2.1,y8.2.2.1,y8.2.2.2,x4,x5,x6,x7,x8,x9,x10,x11,x12,x13,x14,x15,x16,x17,x18,x19,x20,x21,x22,x23,x24,x25,x26,x27,x28,x29,x30,x31,x32,x33,x34,x35,x36 ++
 [AV.agg
 [AV.str y1.1,.int .i64 y3.1,.int .i64 y5.1,.int .i64 y5.2.1,AV.str y5.2.2.1,AV.view 4 y5.2.2.2.1,
 .int .i64 y7.1,.int .i64 y7.2.1,AV.str y7.2.2.1,AV.view 4 y7.2.2.2.1]])))))
 (.no))
 (.no))
 (.no))
 (.no))
 (.no))
 (.no))
 (.no))
 (.no))
 (.no))
 (.at (.done 1)))
 (.no)
def qey:qel->DT (Rd qel):=(Sum.elim (fun v=>quh v.1 v.2.1 v.2.2.1 v.2.2.2.1 v.f.1 v.f.2.1 v.f.2.2.1 v.f.2.2.2.1 v.h.1 v.h.2.1 v.h.2.2.1 v.h.2.2.2.1 v.h.f.1 v.h.f.2.1 v.h.f.2.2.1 v.h.f.2.2.2.1 v.i.1 v.i.2.1 v.i.2.2.1 v.i.2.2.2.1 v.i.f.1 v.i.f.2.1 v.i.f.2.2.1 v.i.f.2.2.2.1 v.i.h.1 v.i.h.2.1 v.i.h.2.2.1 v.i.h.2.2.2.1 v.i.h.f.1 v.i.h.f.2.1 v.i.h.f.2.2.1 v.i.h.f.2.2.2.1 v.i.i.1 v.i.i.2.1 v.i.i.2.2.1 v.i.i.2.2.2) (fun v=>qui v.1 v.2.1 v.2.2.1 v.2.2.2.1 v.f.1 v.f.2.1 v.f.2.2.1 v.f.2.2.2.1 v.h.1 v.h.2.1 v.h.2.2.1 v.h.2.2.2.1 v.h.f.1 v.h.f.2.1 v.h.f.2.2.1 v.h.f.2.2.2.1 v.i.1 v.i.2.1 v.i.2.2.1 v.i.2.2.2.1 v.i.f.1 v.i.f.2.1 v.i.f.2.2.1 v.i.f.2.2.2.1 v.i.h.1 v.i.h.2.1 v.i.h.2.2.1 v.i.h.2.2.2.1 v.i.h.f.1 v.i.h.f.2.1 v.i.h.f.2.2.1 v.i.h.f.2.2.2.1 v.i.i.1 v.i.i.2.1 v.i.i.2.2.1 v.i.i.2.2.2.1 v.i.i.f))
def qIG(v:qel):=lo qey v
theorem qfY(v):qIG v=qae (fun v=>(qey v).ev) v:=qaa _
def qUc:qbJ:=LE (τ:=qel) (hD qTh) (qIG) zlt
theorem zkI:Go.Eng.Told IP (qad F41 0).1 (qad F41 0).2 (qUc):=qas (inferInstance:Inhabited qel) (hs:=qTh) (st:=qey) (L:=[]) T51.ok (qac (l:=[]) (by kernel_rfl) trivial) (qfY) (fun v=>match v with|(.inl v)=>by kernel_rfl|(.inr v)=>by kernel_rfl) (fun v=>match v with|(.inl v)=>by kernel_rfl|(.inr v)=>by kernel_rfl)
def qAv:DT (List AV):=
 .at ([AV.str ([]++[115]++[105]++[110]++[103]++[108]++[101]),AV.str ([]++[100]++[97]++[105]++[108]++[121]),
 AV.str ([]++[109]++[111]++[110]++[116]++[104]++[108]++[121])])
def qkY:=qaC (qAv).ev
theorem qSZ:qkY=(qAv).ev:=qaa _
theorem ziM:FH IP 23 ⟨[],[]⟩ [⟨false,.view 1,[]⟩] (fun _=>qkY):=fh F23 (fun _=>qAv) T51
def T52:=T51.a ziM
abbrev qci:Type:=(List AV×Int×Int×Int×List UInt8×List UInt8×List UInt8×Int×Int×Int×Int×Bool×Int×Int×Bool×Bool×Int×Int×Bool×List UInt8×List UInt8×List UInt8×Int×Int×Int×Int×List AV×Bool×Int×Int×Bool×List AV×Bool×Int×Int×Bool)⊕(List AV×Int×Int×Int×List UInt8×List UInt8×List UInt8×Int×Int×Int×Int×Bool×Int×Int×Bool×Bool×Int×Int×Bool×List UInt8×List UInt8×List UInt8×Int×Int×Int×Int×List AV×Bool×Int×Int×Bool×List AV×Bool×Int×Int×Bool×List AV)⊕(List AV×Int×Int×Int×List UInt8×List UInt8×List UInt8×Int×Int×Int×Int×Bool×Int×Int×Bool×Bool×Int×Int×Bool×List UInt8×List UInt8×List UInt8×Int×Int×Int×Int×List AV×Bool×Int×Int×Bool×List AV×Bool×Int×Int×Bool×List AV)⊕(List AV×Int×Int×Int×List UInt8×List UInt8×List UInt8×Int×Int×Int×Int×Bool×Int×Int×Bool×Bool×Int×Int×Bool×List UInt8×List UInt8×List UInt8×Int×Int×Int×Int×List AV×Bool×Int×Int×Bool×List AV×Bool×Int×Int×Bool×List AV×List AV)
def qTi:List PSt:=[⟨[(1004101,.junk),(0,.ref 0 0 0),(2,.ref 1 0 0),(3,.ref 2 0 0)],[(0,.box [.view 3,.int .i64,.int .i64,.int .i64] false),(1,.box [.str,.str,.str,.int .i64,.int .i64,.int .i64,.int .i64,.nils 2,.bool,.int .i64,.int .i64,.bool,.nils 2,.bool,.int .i64,.int .i64,.bool,.nils 10,.nils 6] false),(2,.box [.str,.str,.str,.int .i64,.int .i64,.int .i64,.int .i64,.view 2,.bool,.int .i64,.int .i64,.bool,.view 2,.bool,.int .i64,.int .i64,.bool,.nils 10,.nils 6] false)],3,1⟩,⟨[(1004101,.junk),(0,.ref 0 0 0),(2,.ref 1 0 0),(3,.ref 2 0 0)],[(0,.box [.view 3,.int .i64,.int .i64,.int .i64] false),(1,.box [.str,.str,.str,.int .i64,.int .i64,.int .i64,.int .i64,.nils 2,.bool,.int .i64,.int .i64,.bool,.nils 2,.bool,.int .i64,.int .i64,.bool,.nils 10,.nils 6] false),(2,.box [.str,.str,.str,.int .i64,.int .i64,.int .i64,.int .i64,.view 2,.bool,.int .i64,.int .i64,.bool,.view 2,.bool,.int .i64,.int .i64,.bool,.own 3 0,.nils 6] false),(3,.arr 10 false)],4,1⟩,⟨[(1004101,.junk),(0,.ref 0 0 0),(2,.ref 1 0 0),(3,.ref 2 0 0)],[(0,.box [.view 3,.int .i64,.int .i64,.int .i64] false),(1,.box [.str,.str,.str,.int .i64,.int .i64,.int .i64,.int .i64,.nils 2,.bool,.int .i64,.int .i64,.bool,.nils 2,.bool,.int .i64,.int .i64,.bool,.nils 10,.nils 6] false),(2,.box [.str,.str,.str,.int .i64,.int .i64,.int .i64,.int .i64,.view 2,.bool,.int .i64,.int .i64,.bool,.view 2,.bool,.int .i64,.int .i64,.bool,.nils 10,.own 3 0] false),(3,.arr 6 false)],4,1⟩,⟨[(1004101,.junk),(0,.ref 0 0 0),(2,.ref 1 0 0),(3,.ref 2 0 0)],[(0,.box [.view 3,.int .i64,.int .i64,.int .i64] false),(1,.box [.str,.str,.str,.int .i64,.int .i64,.int .i64,.int .i64,.nils 2,.bool,.int .i64,.int .i64,.bool,.nils 2,.bool,.int .i64,.int .i64,.bool,.nils 10,.nils 6] false),(2,.box [.str,.str,.str,.int .i64,.int .i64,.int .i64,.int .i64,.view 2,.bool,.int .i64,.int .i64,.bool,.view 2,.bool,.int .i64,.int .i64,.bool,.own 3 0,.own 4 0] false),(3,.arr 10 false),(4,.arr 6 false)],5,1⟩]
def q4B(x0:List AV)(x1 x2 x3:Int)(x4 x5 x6:List UInt8)(x7 x8:Int)(x9 x10:Int)(x11:Bool)(x12 x13:Int)(x14 x15:Bool)(x16 x17:Int)(x18:Bool)(x19 x20 x21:List UInt8)(x22 x23:Int)(x24 x25:Int)(x26:List AV)(x27:Bool)(x28 x29:Int)(x30:Bool)(x31:List AV)(x32:Bool)(x33 x34:Int)(x35:Bool):X×St:=(.exit 1000003,
 ⟨[(0,.ref 0 0 0),(2,.ref 1 0 0),(3,.ref 2 0 0)],[(0,
 .box
 [.view 3 (gv (qao [108,105,109,105,116] x0 x1 x2 x3)).2.1,
 .int .i64 (gv (qao [108,105,109,105,116] x0 x1 x2 x3)).2.2.1,
 .int .i64 (gv (qao [108,105,109,105,116] x0 x1 x2 x3)).2.2.2.1,
 .int .i64 (gv (qao [108,105,109,105,116] x0 x1 x2 x3)).f]
 false),
 (1,
 .box
 [.str x4,.str x5,.str x6,.int .i64 x7,.int .i64 x8,.int .i64 x9,.int .i64 x10,.nils ⟨2,.nil⟩,
 .bool x11,.int .i64 x12,.int .i64 x13,.bool x14,.nils ⟨2,.nil⟩,.bool x15,.int .i64 x16,
 .int .i64 x17,.bool x18,.nils ⟨10,.nil⟩,.nils ⟨6,.nil⟩]
 false),
 (2,
 .box
 [.str x19,.str x20,.str x21,.int .i64 x22,.int .i64 x23,.int .i64 x24,.int .i64 x25,.view 2 x26,.bool x27,
 .int .i64 x28,.int .i64 x29,.bool x30,.view 2 x31,.bool x32,.int .i64 x33,.int .i64 x34,.bool x35,
 .nils ⟨10,.nil⟩,.nils ⟨6,.nil⟩]
 false)],3,1⟩)
def q4C(x0:List AV)(x1 x2 x3:Int)(x4 x5 x6:List UInt8)(x7 x8:Int)(x9 x10:Int)(x11:Bool)(x12 x13:Int)(x14 x15:Bool)(x16 x17:Int)(x18:Bool)(x19 x20 x21:List UInt8)(x22 x23:Int)(x24 x25:Int)(x26:List AV)(x27:Bool)(x28 x29:Int)(x30:Bool)(x31:List AV)(x32:Bool)(x33 x34:Int)(x35:Bool)(x36:List AV):X×St:=(.exit 1000003,
 ⟨[(0,.ref 0 0 0),(2,.ref 1 0 0),(3,.ref 2 0 0)],[(0,
 .box
 [.view 3 (gv (qao [108,105,109,105,116] x0 x1 x2 x3)).2.1,
 .int .i64 (gv (qao [108,105,109,105,116] x0 x1 x2 x3)).2.2.1,
 .int .i64 (gv (qao [108,105,109,105,116] x0 x1 x2 x3)).2.2.2.1,
 .int .i64 (gv (qao [108,105,109,105,116] x0 x1 x2 x3)).f]
 false),
 (1,
 .box
 [.str x4,.str x5,.str x6,.int .i64 x7,.int .i64 x8,.int .i64 x9,.int .i64 x10,.nils ⟨2,.nil⟩,
 .bool x11,.int .i64 x12,.int .i64 x13,.bool x14,.nils ⟨2,.nil⟩,.bool x15,.int .i64 x16,
 .int .i64 x17,.bool x18,.nils ⟨10,.nil⟩,.nils ⟨6,.nil⟩]
 false),
 (2,
 .box
 [.str x19,.str x20,.str x21,.int .i64 x22,.int .i64 x23,.int .i64 x24,.int .i64 x25,.view 2 x26,.bool x27,
 .int .i64 x28,.int .i64 x29,.bool x30,.view 2 x31,.bool x32,.int .i64 x33,.int .i64 x34,.bool x35,.own 3 0 none,
 .nils ⟨6,.nil⟩]
 false),
 (3,.arr 10 x36 false)],4,1⟩)
def q4D(x0:List AV)(x1 x2 x3:Int)(x4 x5 x6:List UInt8)(x7 x8:Int)(x9 x10:Int)(x11:Bool)(x12 x13:Int)(x14 x15:Bool)(x16 x17:Int)(x18:Bool)(x19 x20 x21:List UInt8)(x22 x23:Int)(x24 x25:Int)(x26:List AV)(x27:Bool)(x28 x29:Int)(x30:Bool)(x31:List AV)(x32:Bool)(x33 x34:Int)(x35:Bool)(x36:List AV):X×St:=(.exit 1000003,
 ⟨[(0,.ref 0 0 0),(2,.ref 1 0 0),(3,.ref 2 0 0)],[(0,
 .box
 [.view 3 (gv (qao [108,105,109,105,116] x0 x1 x2 x3)).2.1,
 .int .i64 (gv (qao [108,105,109,105,116] x0 x1 x2 x3)).2.2.1,
 .int .i64 (gv (qao [108,105,109,105,116] x0 x1 x2 x3)).2.2.2.1,
 .int .i64 (gv (qao [108,105,109,105,116] x0 x1 x2 x3)).f]
 false),
 (1,
 .box
 [.str x4,.str x5,.str x6,.int .i64 x7,.int .i64 x8,.int .i64 x9,.int .i64 x10,.nils ⟨2,.nil⟩,
 .bool x11,.int .i64 x12,.int .i64 x13,.bool x14,.nils ⟨2,.nil⟩,.bool x15,.int .i64 x16,
 .int .i64 x17,.bool x18,.nils ⟨10,.nil⟩,.nils ⟨6,.nil⟩]
 false),
 (2,
 .box
 [.str x19,.str x20,.str x21,.int .i64 x22,.int .i64 x23,.int .i64 x24,.int .i64 x25,.view 2 x26,.bool x27,
 .int .i64 x28,.int .i64 x29,.bool x30,.view 2 x31,.bool x32,.int .i64 x33,.int .i64 x34,.bool x35,
 .nils ⟨10,.nil⟩,.own 3 0 none]
 false),
 (3,.arr 6 x36 false)],4,1⟩)
def q4E(x0:List AV)(x1 x2 x3:Int)(x4 x5 x6:List UInt8)(x7 x8:Int)(x9 x10:Int)(x11:Bool)(x12 x13:Int)(x14 x15:Bool)(x16 x17:Int)(x18:Bool)(x19 x20 x21:List UInt8)(x22 x23:Int)(x24 x25:Int)(x26:List AV)(x27:Bool)(x28 x29:Int)(x30:Bool)(x31:List AV)(x32:Bool)(x33 x34:Int)(x35:Bool)(x36 x37:List AV):X×St:=(.exit 1000003,
 ⟨[(0,.ref 0 0 0),(2,.ref 1 0 0),(3,.ref 2 0 0)],[(0,
 .box
 [.view 3 (gv (qao [108,105,109,105,116] x0 x1 x2 x3)).2.1,
 .int .i64 (gv (qao [108,105,109,105,116] x0 x1 x2 x3)).2.2.1,
 .int .i64 (gv (qao [108,105,109,105,116] x0 x1 x2 x3)).2.2.2.1,
 .int .i64 (gv (qao [108,105,109,105,116] x0 x1 x2 x3)).f]
 false),
 (1,
 .box
 [.str x4,.str x5,.str x6,.int .i64 x7,.int .i64 x8,.int .i64 x9,.int .i64 x10,.nils ⟨2,.nil⟩,
 .bool x11,.int .i64 x12,.int .i64 x13,.bool x14,.nils ⟨2,.nil⟩,.bool x15,.int .i64 x16,
 .int .i64 x17,.bool x18,.nils ⟨10,.nil⟩,.nils ⟨6,.nil⟩]
 false),
 (2,
 .box
 [.str x19,.str x20,.str x21,.int .i64 x22,.int .i64 x23,.int .i64 x24,.int .i64 x25,.view 2 x26,.bool x27,
 .int .i64 x28,.int .i64 x29,.bool x30,.view 2 x31,.bool x32,.int .i64 x33,.int .i64 x34,.bool x35,.own 3 0 none,
 .own 4 0 none]
 false),
 (3,.arr 10 x36 false),(4,.arr 6 x37 false)],5,1⟩)
def zlu:List (qci->X×St):=[fun w=>(k36 q4B) ((sl w)),fun w=>(k37 q4C) ((sl (sr w))),fun w=>(k37 q4D) ((sl (sr (sr w)))),fun w=>(k38 q4E) ((sr (sr (sr w))))]
def quj(x0:List AV)(x1 x2 x3:Int)(x4 x5 x6:List UInt8)(x7 x8:Int)(x9 x10:Int)(x11:Bool)(x12 x13:Int)(x14 x15:Bool)(x16 x17:Int)(x18:Bool)(x19 x20 x21:List UInt8)(x22 x23:Int)(x24 x25:Int)(x26:List AV)(x27:Bool)(x28 x29:Int)(x30:Bool)(x31:List AV)(x32:Bool)(x33 x34:Int)(x35:Bool):DT (Rd qci):=
 .bi (qao [108,105,109,105,116] x0 x1 x2 x3) (fun y0=>
 .br (y0.1)
 (.bi (qfV 1 y0.2.1 y0.2.2.1 y0.2.2.2.1 y0.f) (fun y1=>
 .bi (qkY) (fun y2=>
 .bi (qgC y2 y1.2.1 y1.2.2.1 y1.2.2.2.1 y1.f) (fun y3=>
 .bi (qiT y3.2.1 y3.2.2.1 y3.2.2.2.1 y3.f) (fun y4=>
 .bi (qaT [AV.str [59]] y4.f.1 y4.f.2.1 y4.f.2.2.1 y4.f.2.2.2) (fun y5=>
 .at (.next ((.inr (.inr (.inl (y5.1,y5.2.1,y5.2.2.1,y5.2.2.2,x4,x5,x6,x7,x8,x9,x10,x11,x12,x13,x14,x15,x16,x17,x18,x19,x20,x21,x22,x23,x24,x25,x26,x27,x28,x29,x30,x31,x32,x33,x34,x35,[AV.agg [AV.str y1.1,.int .i64 y3.1,.int .i64 y4.1,.int .i64 y4.2.1,AV.str y4.2.2.1,AV.view 4 y4.2.2.2.1]])))))))
 (.no))
 (.no))
 (.no))
 (.no))
 (.no))
 (.at (.done 0)))
 (.no)
def quk(x0:List AV)(x1 x2 x3:Int)(x4 x5 x6:List UInt8)(x7 x8:Int)(x9 x10:Int)(x11:Bool)(x12 x13:Int)(x14 x15:Bool)(x16 x17:Int)(x18:Bool)(x19 x20 x21:List UInt8)(x22 x23:Int)(x24 x25:Int)(x26:List AV)(x27:Bool)(x28 x29:Int)(x30:Bool)(x31:List AV)(x32:Bool)(x33 x34:Int)(x35:Bool)(x36:List AV):DT (Rd qci):=
 .bi (qao [108,105,109,105,116] x0 x1 x2 x3) (fun y0=>
 .br (y0.1)
 (.bi (qfV 1 y0.2.1 y0.2.2.1 y0.2.2.2.1 y0.f) (fun y1=>
 .bi (qkY) (fun y2=>
 .bi (qgC y2 y1.2.1 y1.2.2.1 y1.2.2.2.1 y1.f) (fun y3=>
 .bi (qiT y3.2.1 y3.2.2.1 y3.2.2.2.1 y3.f) (fun y4=>
 .bi (qaT [AV.str [59]] y4.f.1 y4.f.2.1 y4.f.2.2.1 y4.f.2.2.2) (fun y5=>
 .at (.next ((.inr (.inr (.inr (y5.1,y5.2.1,y5.2.2.1,y5.2.2.2,x4,x5,x6,x7,x8,x9,x10,x11,x12,x13,x14,x15,x16,x17,x18,x19,x20,x21,x22,x23,x24,x25,x26,x27,x28,x29,x30,x31,x32,x33,x34,x35,x36,[AV.agg [AV.str y1.1,.int .i64 y3.1,.int .i64 y4.1,.int .i64 y4.2.1,AV.str y4.2.2.1,AV.view 4 y4.2.2.2.1]])))))))
 (.no))
 (.no))
 (.no))
 (.no))
 (.no))
 (.at (.done 1)))
 (.no)
def qul(x0:List AV)(x1 x2 x3:Int)(x4 x5 x6:List UInt8)(x7 x8:Int)(x9 x10:Int)(x11:Bool)(x12 x13:Int)(x14 x15:Bool)(x16 x17:Int)(x18:Bool)(x19 x20 x21:List UInt8)(x22 x23:Int)(x24 x25:Int)(x26:List AV)(x27:Bool)(x28 x29:Int)(x30:Bool)(x31:List AV)(x32:Bool)(x33 x34:Int)(x35:Bool)(x36:List AV):DT (Rd qci):=
 .bi (qao [108,105,109,105,116] x0 x1 x2 x3) (fun y0=>
 .br (y0.1)
 (.bi (qfV 1 y0.2.1 y0.2.2.1 y0.2.2.2.1 y0.f) (fun y1=>
 .bi (qkY) (fun y2=>
 .bi (qgC y2 y1.2.1 y1.2.2.1 y1.2.2.2.1 y1.f) (fun y3=>
 .bi (qiT y3.2.1 y3.2.2.1 y3.2.2.2.1 y3.f) (fun y4=>
 .bi (qaT [AV.str [59]] y4.f.1 y4.f.2.1 y4.f.2.2.1 y4.f.2.2.2) (fun y5=>
 .br (room (x36.length+1) 80)
 (.at (.next ((.inr (.inr (.inl (y5.1,y5.2.1,y5.2.2.1,y5.2.2.2,x4,x5,x6,x7,x8,x9,x10,x11,x12,x13,x14,x15,x16,x17,x18,x19,x20,x21,x22,x23,x24,x25,x26,x27,x28,x29,x30,x31,x32,x33,x34,x35,x36++[AV.agg [AV.str y1.1,.int .i64 y3.1,.int .i64 y4.1,.int .i64 y4.2.1,AV.str y4.2.2.1,AV.view 4 y4.2.2.2.1]])))))))
 (.no))
 (.no))
 (.no))
 (.no))
 (.no))
 (.no))
 (.at (.done 2)))
 (.no)
def qum(x0:List AV)(x1 x2 x3:Int)(x4 x5 x6:List UInt8)(x7 x8:Int)(x9 x10:Int)(x11:Bool)(x12 x13:Int)(x14 x15:Bool)(x16 x17:Int)(x18:Bool)(x19 x20 x21:List UInt8)(x22 x23:Int)(x24 x25:Int)(x26:List AV)(x27:Bool)(x28 x29:Int)(x30:Bool)(x31:List AV)(x32:Bool)(x33 x34:Int)(x35:Bool)(x36 x37:List AV):DT (Rd qci):=
 .bi (qao [108,105,109,105,116] x0 x1 x2 x3) (fun y0=>
 .br (y0.1)
 (.bi (qfV 1 y0.2.1 y0.2.2.1 y0.2.2.2.1 y0.f) (fun y1=>
 .bi (qkY) (fun y2=>
 .bi (qgC y2 y1.2.1 y1.2.2.1 y1.2.2.2.1 y1.f) (fun y3=>
 .bi (qiT y3.2.1 y3.2.2.1 y3.2.2.2.1 y3.f) (fun y4=>
 .bi (qaT [AV.str [59]] y4.f.1 y4.f.2.1 y4.f.2.2.1 y4.f.2.2.2) (fun y5=>
 .br (room (x37.length+1) 80)
 (.at (.next ((.inr (.inr (.inr (y5.1,y5.2.1,y5.2.2.1,y5.2.2.2,x4,x5,x6,x7,x8,x9,x10,x11,x12,x13,x14,x15,x16,x17,x18,x19,x20,x21,x22,x23,x24,x25,x26,x27,x28,x29,x30,x31,x32,x33,x34,x35,x36,x37++[AV.agg [AV.str y1.1,.int .i64 y3.1,.int .i64 y4.1,.int .i64 y4.2.1,AV.str y4.2.2.1,AV.view 4 y4.2.2.2.1]])))))))
 (.no))
 (.no))
 (.no))
 (.no))
 (.no))
 (.no))
 (.at (.done 3)))
 (.no)
def qb6:qci->DT (Rd qci):=(Sum.elim (fun v=>quj v.1 v.2.1 v.2.2.1 v.2.2.2.1 v.f.1 v.f.2.1 v.f.2.2.1 v.f.2.2.2.1 v.h.1 v.h.2.1 v.h.2.2.1 v.h.2.2.2.1 v.h.f.1 v.h.f.2.1 v.h.f.2.2.1 v.h.f.2.2.2.1 v.i.1 v.i.2.1 v.i.2.2.1 v.i.2.2.2.1 v.i.f.1 v.i.f.2.1 v.i.f.2.2.1 v.i.f.2.2.2.1 v.i.h.1 v.i.h.2.1 v.i.h.2.2.1 v.i.h.2.2.2.1 v.i.h.f.1 v.i.h.f.2.1 v.i.h.f.2.2.1 v.i.h.f.2.2.2.1 v.i.i.1 v.i.i.2.1 v.i.i.2.2.1 v.i.i.2.2.2) (Sum.elim (fun v=>quk v.1 v.2.1 v.2.2.1 v.2.2.2.1 v.f.1 v.f.2.1 v.f.2.2.1 v.f.2.2.2.1 v.h.1 v.h.2.1 v.h.2.2.1 v.h.2.2.2.1 v.h.f.1 v.h.f.2.1 v.h.f.2.2.1 v.h.f.2.2.2.1 v.i.1 v.i.2.1 v.i.2.2.1 v.i.2.2.2.1 v.i.f.1 v.i.f.2.1 v.i.f.2.2.1 v.i.f.2.2.2.1 v.i.h.1 v.i.h.2.1 v.i.h.2.2.1 v.i.h.2.2.2.1 v.i.h.f.1 v.i.h.f.2.1 v.i.h.f.2.2.1 v.i.h.f.2.2.2.1 v.i.i.1 v.i.i.2.1 v.i.i.2.2.1 v.i.i.2.2.2.1 v.i.i.f) (Sum.elim (fun v=>qul v.1 v.2.1 v.2.2.1 v.2.2.2.1 v.f.1 v.f.2.1 v.f.2.2.1 v.f.2.2.2.1 v.h.1 v.h.2.1 v.h.2.2.1 v.h.2.2.2.1 v.h.f.1 v.h.f.2.1 v.h.f.2.2.1 v.h.f.2.2.2.1 v.i.1 v.i.2.1 v.i.2.2.1 v.i.2.2.2.1 v.i.f.1 v.i.f.2.1 v.i.f.2.2.1 v.i.f.2.2.2.1 v.i.h.1 v.i.h.2.1 v.i.h.2.2.1 v.i.h.2.2.2.1 v.i.h.f.1 v.i.h.f.2.1 v.i.h.f.2.2.1 v.i.h.f.2.2.2.1 v.i.i.1 v.i.i.2.1 v.i.i.2.2.1 v.i.i.2.2.2.1 v.i.i.f) (fun v=>qum v.1 v.2.1 v.2.2.1 v.2.2.2.1 v.f.1 v.f.2.1 v.f.2.2.1 v.f.2.2.2.1 v.h.1 v.h.2.1 v.h.2.2.1 v.h.2.2.2.1 v.h.f.1 v.h.f.2.1 v.h.f.2.2.1 v.h.f.2.2.2.1 v.i.1 v.i.2.1 v.i.2.2.1 v.i.2.2.2.1 v.i.f.1 v.i.f.2.1 v.i.f.2.2.1 v.i.f.2.2.2.1 v.i.h.1 v.i.h.2.1 v.i.h.2.2.1 v.i.h.2.2.2.1 v.i.h.f.1 v.i.h.f.2.1 v.i.h.f.2.2.1 v.i.h.f.2.2.2.1 v.i.i.1 v.i.i.2.1 v.i.i.2.2.1 v.i.i.2.2.2.1 v.i.i.f.1 v.i.i.f.2))))
def qkZ(v:qci):=lo qb6 v
theorem qcB(v):qkZ v=qae (fun v=>(qb6 v).ev) v:=qaa _
def qUd:qbJ:=LE (τ:=qci) (hD qTi) (qkZ) zlu
theorem zkJ:Go.Eng.Told IP (qad F41 1).1 (qad F41 1).2 (qUd):=qas (inferInstance:Inhabited qci) (hs:=qTi) (st:=qb6) (L:=[]) T52.ok (qac (l:=[]) (by kernel_rfl) trivial) (qcB) (fun v=>match v with|(.inl v)=>by kernel_rfl|(.inr (.inl v))=>by kernel_rfl|(.inr (.inr (.inl v)))=>by kernel_rfl|(.inr (.inr (.inr v)))=>by kernel_rfl) (fun v=>match v with|(.inl v)=>by kernel_rfl|(.inr (.inl v))=>by kernel_rfl|(.inr (.inr (.inl v)))=>by kernel_rfl|(.inr (.inr (.inr v)))=>by kernel_rfl)
abbrev qOX:Type:=List UInt8×List UInt8×List UInt8×Int×Int×Int×Int×List AV×Bool×Int×Int×Bool×List AV×Bool×Int×Int×Bool×List AV×List AV×List AV×Int×Int×Int
def qzJ(x0:List AV)(x1 x2 x3:Int):DT qOX:=
 .bi (qaT [AV.str [112,114,111,100,117,99,116]] x0 x1 x2 x3) (fun y0=>
 .bi (qfV 1 y0.1 y0.2.1 y0.2.2.1 y0.2.2.2) (fun y1=>
 .bi (qaT [AV.str [123],AV.str [99,117,114,114,101,110,99,121]] y1.2.1 y1.2.2.1 y1.2.2.2.1 y1.f) (fun y2=>
 .bi (qBa y2.1 y2.2.1 y2.2.2.1 y2.2.2.2) (fun y3=>
 .bi (qaT [AV.str [59],AV.str [99,97,108,101,110,100,97,114]] y3.2.1 y3.2.2.1 y3.2.2.2.1 y3.f) (fun y4=>
 .bi (qfV 1 y4.1 y4.2.1 y4.2.2.1 y4.2.2.2) (fun y5=>
 .bi (qaT [AV.str [59],AV.str [102,114,111,109]] y5.2.1 y5.2.2.1 y5.2.2.2.1 y5.f) (fun y6=>
 .bi (qBc y6.1 y6.2.1 y6.2.2.1 y6.2.2.2) (fun y7=>
 .bi (qaT [AV.str [59],AV.str [101,118,101,114,121]] y7.2.1 y7.2.2.1 y7.2.2.2.1 y7.f) (fun y8=>
 .bi (qiS y8.1 y8.2.1 y8.2.2.1 y8.2.2.2) (fun y9=>
 .bi (qaT [AV.str [59],AV.str [111,118,101,114,100,114,97,102,116],AV.str [36]] y9.2.1 y9.2.2.1 y9.2.2.2.1 y9.f) (fun y10=>
 .bi (qiS y10.1 y10.2.1 y10.2.2.1 y10.2.2.2) (fun y11=>
 .bi (qaT [AV.str [59],AV.str [116,97,120]] y11.2.1 y11.2.2.1 y11.2.2.2.1 y11.f) (fun y12=>
 .bi (qoU y12.1 y12.2.1 y12.2.2.1 y12.2.2.2) (fun y13=>
 .bi (qaT [AV.str [59]] y13.2.1 y13.2.2.1 y13.2.2.2.1 y13.f) (fun y14=>
 .bi (qvD [99,114,101,100,105,116] y14.1 y14.2.1 y14.2.2.1 y14.2.2.2) (fun y15=>
 .bi (qvD [100,101,98,105,116] y15.f.2.1 y15.f.2.2.1 y15.f.2.2.2.1
 y15.h) (fun y16=>
 .bi (pj 0
 (qIG
 (Sum.inl
 (y16.f.2.1,y16.f.2.2.1,y16.f.2.2.2.1,y16.h,[],[],[],0,0,0,0,false,0,0,
 false,false,0,0,false,y1.1,y3.1,y5.1,y7.1,y9.1,y11.1,y13.1,y15.1,y15.2.1,y15.2.2.1,y15.2.2.2.1,y15.f.1,
 y16.1,y16.2.1,y16.2.2.1,y16.2.2.2.1,y16.f.1)))) (fun y17=>
 .bi (pj 0
 (qkZ
 (Sum.inl
 ((gv (qao [102,101,101] (sl y17).1 (sl y17).2.1 (sl y17).2.2.1 (sl y17).2.2.2.1)).2.1,
 (gv (qao [102,101,101] (sl y17).1 (sl y17).2.1 (sl y17).2.2.1 (sl y17).2.2.2.1)).2.2.1,
 (gv (qao [102,101,101] (sl y17).1 (sl y17).2.1 (sl y17).2.2.1 (sl y17).2.2.2.1)).2.2.2.1,
 (gv (qao [102,101,101] (sl y17).1 (sl y17).2.1 (sl y17).2.2.1 (sl y17).2.2.2.1)).f,(sl y17).f)))) (fun y18=>
 .bi (qaT [AV.str [125]] (gv (qao [108,105,109,105,116] (sl y18).1 (sl y18).2.1 (sl y18).2.2.1 (sl y18).2.2.2.1)).2.1
 (gv (qao [108,105,109,105,116] (sl y18).1 (sl y18).2.1 (sl y18).2.2.1 (sl y18).2.2.2.1)).2.2.1
 (gv (qao [108,105,109,105,116] (sl y18).1 (sl y18).2.1 (sl y18).2.2.1 (sl y18).2.2.2.1)).2.2.2.1
 (gv (qao [108,105,109,105,116] (sl y18).1 (sl y18).2.1 (sl y18).2.2.1 (sl y18).2.2.2.1)).f) (fun y19=>
 .br (decide (y19.2.1<(y19.1.length:Int)))
 (.bi (qcf 2 y19.2.1 y19.1 y19.2.1 y19.2.2.1 y19.2.2.2) (fun y20=>
 .at (((sl y18).i.2.2.2.1,(sl y18).i.f.1,(sl y18).i.f.2.1,(sl y18).i.f.2.2.1,(sl y18).i.f.2.2.2.1,(sl y18).i.h.1,(sl y18).i.h.2.1,(sl y18).i.h.2.2.1,(sl y18).i.h.2.2.2.1,(sl y18).i.h.f.1,(sl y18).i.h.f.2.1,(sl y18).i.h.f.2.2.1,(sl y18).i.h.f.2.2.2.1,(sl y18).i.i.1,(sl y18).i.i.2.1,(sl y18).i.i.2.2.1,(sl y18).i.i.2.2.2,[],[],y20)))
 (.no))
 (.at (((sl y18).i.2.2.2.1,(sl y18).i.f.1,(sl y18).i.f.2.1,(sl y18).i.f.2.2.1,(sl y18).i.f.2.2.2.1,(sl y18).i.h.1,(sl y18).i.h.2.1,(sl y18).i.h.2.2.1,(sl y18).i.h.2.2.2.1,(sl y18).i.h.f.1,(sl y18).i.h.f.2.1,(sl y18).i.h.f.2.2.1,(sl y18).i.h.f.2.2.2.1,(sl y18).i.i.1,(sl y18).i.i.2.1,(sl y18).i.i.2.2.1,(sl y18).i.i.2.2.2,[],[],y19))))
 (.no))
 (.bi (pj 1
 (qkZ
 (Sum.inl
 ((gv (qao [102,101,101] (sl y17).1 (sl y17).2.1 (sl y17).2.2.1 (sl y17).2.2.2.1)).2.1,
 (gv (qao [102,101,101] (sl y17).1 (sl y17).2.1 (sl y17).2.2.1 (sl y17).2.2.2.1)).2.2.1,
 (gv (qao [102,101,101] (sl y17).1 (sl y17).2.1 (sl y17).2.2.1 (sl y17).2.2.2.1)).2.2.2.1,
 (gv (qao [102,101,101] (sl y17).1 (sl y17).2.1 (sl y17).2.2.1 (sl y17).2.2.2.1)).f,(sl y17).f)))) (fun y18=>
 .bi (qaT [AV.str [125]]
 (gv (qao [108,105,109,105,116] (sl (sr y18)).1 (sl (sr y18)).2.1 (sl (sr y18)).2.2.1 (sl (sr y18)).2.2.2.1)).2.1
 (gv (qao [108,105,109,105,116] (sl (sr y18)).1 (sl (sr y18)).2.1 (sl (sr y18)).2.2.1 (sl (sr y18)).2.2.2.1)).2.2.1
 (gv (qao [108,105,109,105,116] (sl (sr y18)).1 (sl (sr y18)).2.1 (sl (sr y18)).2.2.1 (sl (sr y18)).2.2.2.1)).2.2.2.1
 (gv (qao [108,105,109,105,116] (sl (sr y18)).1 (sl (sr y18)).2.1 (sl (sr y18)).2.2.1 (sl (sr y18)).2.2.2.1)).f) (fun y19=>
 .br (decide (y19.2.1<(y19.1.length:Int)))
 (.bi (qcf 2 y19.2.1 y19.1 y19.2.1 y19.2.2.1 y19.2.2.2) (fun y20=>
 .at (((sl (sr y18)).i.2.2.2.1,(sl (sr y18)).i.f.1,(sl (sr y18)).i.f.2.1,(sl (sr y18)).i.f.2.2.1,(sl (sr y18)).i.f.2.2.2.1,(sl (sr y18)).i.h.1,(sl (sr y18)).i.h.2.1,(sl (sr y18)).i.h.2.2.1,(sl (sr y18)).i.h.2.2.2.1,(sl (sr y18)).i.h.f.1,(sl (sr y18)).i.h.f.2.1,(sl (sr y18)).i.h.f.2.2.1,(sl (sr y18)).i.h.f.2.2.2.1,(sl (sr y18)).i.i.1,(sl (sr y18)).i.i.2.1,(sl (sr y18)).i.i.2.2.1,(sl (sr y18)).i.i.2.2.2.1,(sl (sr y18)).i.i.f,[],y20)))
 (.no))
 (.at (((sl (sr y18)).i.2.2.2.1,(sl (sr y18)).i.f.1,(sl (sr y18)).i.f.2.1,(sl (sr y18)).i.f.2.2.1,(sl (sr y18)).i.f.2.2.2.1,(sl (sr y18)).i.h.1,(sl (sr y18)).i.h.2.1,(sl (sr y18)).i.h.2.2.1,(sl (sr y18)).i.h.2.2.2.1,(sl (sr y18)).i.h.f.1,(sl (sr y18)).i.h.f.2.1,(sl (sr y18)).i.h.f.2.2.1,(sl (sr y18)).i.h.f.2.2.2.1,(sl (sr y18)).i.i.1,(sl (sr y18)).i.i.2.1,(sl (sr y18)).i.i.2.2.1,(sl (sr y18)).i.i.2.2.2.1,(sl (sr y18)).i.i.f,[],y19))))
 (.no))
 (.bi (pj 2
 (qkZ
 (Sum.inl
 ((gv (qao [102,101,101] (sl y17).1 (sl y17).2.1 (sl y17).2.2.1 (sl y17).2.2.2.1)).2.1,
 (gv (qao [102,101,101] (sl y17).1 (sl y17).2.1 (sl y17).2.2.1 (sl y17).2.2.2.1)).2.2.1,
 (gv (qao [102,101,101] (sl y17).1 (sl y17).2.1 (sl y17).2.2.1 (sl y17).2.2.2.1)).2.2.2.1,
 (gv (qao [102,101,101] (sl y17).1 (sl y17).2.1 (sl y17).2.2.1 (sl y17).2.2.2.1)).f,(sl y17).f)))) (fun y18=>
 .bi (qaT [AV.str [125]]
 (gv
 (qao [108,105,109,105,116] (sl (sr (sr y18))).1 (sl (sr (sr y18))).2.1 (sl (sr (sr y18))).2.2.1
 (sl (sr (sr y18))).2.2.2.1)).2.1
 (gv
 (qao [108,105,109,105,116] (sl (sr (sr y18))).1 (sl (sr (sr y18))).2.1 (sl (sr (sr y18))).2.2.1
 (sl (sr (sr y18))).2.2.2.1)).2.2.1
 (gv
 (qao [108,105,109,105,116] (sl (sr (sr y18))).1 (sl (sr (sr y18))).2.1 (sl (sr (sr y18))).2.2.1
 (sl (sr (sr y18))).2.2.2.1)).2.2.2.1
 (gv
 (qao [108,105,109,105,116] (sl (sr (sr y18))).1 (sl (sr (sr y18))).2.1 (sl (sr (sr y18))).2.2.1
 (sl (sr (sr y18))).2.2.2.1)).f) (fun y19=>
 .br (decide (y19.2.1<(y19.1.length:Int)))
 (.bi (qcf 2 y19.2.1 y19.1 y19.2.1 y19.2.2.1 y19.2.2.2) (fun y20=>
 .at (((sl (sr (sr y18))).i.2.2.2.1,(sl (sr (sr y18))).i.f.1,(sl (sr (sr y18))).i.f.2.1,(sl (sr (sr y18))).i.f.2.2.1,(sl (sr (sr y18))).i.f.2.2.2.1,(sl (sr (sr y18))).i.h.1,(sl (sr (sr y18))).i.h.2.1,(sl (sr (sr y18))).i.h.2.2.1,(sl (sr (sr y18))).i.h.2.2.2.1,(sl (sr (sr y18))).i.h.f.1,(sl (sr (sr y18))).i.h.f.2.1,(sl (sr (sr y18))).i.h.f.2.2.1,(sl (sr (sr y18))).i.h.f.2.2.2.1,(sl (sr (sr y18))).i.i.1,(sl (sr (sr y18))).i.i.2.1,(sl (sr (sr y18))).i.i.2.2.1,(sl (sr (sr y18))).i.i.2.2.2.1,[],(sl (sr (sr y18))).i.i.f,y20)))
 (.no))
 (.at (((sl (sr (sr y18))).i.2.2.2.1,(sl (sr (sr y18))).i.f.1,(sl (sr (sr y18))).i.f.2.1,(sl (sr (sr y18))).i.f.2.2.1,(sl (sr (sr y18))).i.f.2.2.2.1,(sl (sr (sr y18))).i.h.1,(sl (sr (sr y18))).i.h.2.1,(sl (sr (sr y18))).i.h.2.2.1,(sl (sr (sr y18))).i.h.2.2.2.1,(sl (sr (sr y18))).i.h.f.1,(sl (sr (sr y18))).i.h.f.2.1,(sl (sr (sr y18))).i.h.f.2.2.1,(sl (sr (sr y18))).i.h.f.2.2.2.1,(sl (sr (sr y18))).i.i.1,(sl (sr (sr y18))).i.i.2.1,(sl (sr (sr y18))).i.i.2.2.1,(sl (sr (sr y18))).i.i.2.2.2.1,[],(sl (sr (sr y18))).i.i.f,y19))))
 (.no))
 (.bi (pj 3
 (qkZ
 (Sum.inl
 ((gv (qao [102,101,101] (sl y17).1 (sl y17).2.1 (sl y17).2.2.1 (sl y17).2.2.2.1)).2.1,
 (gv (qao [102,101,101] (sl y17).1 (sl y17).2.1 (sl y17).2.2.1 (sl y17).2.2.2.1)).2.2.1,
 (gv (qao [102,101,101] (sl y17).1 (sl y17).2.1 (sl y17).2.2.1 (sl y17).2.2.2.1)).2.2.2.1,
 (gv (qao [102,101,101] (sl y17).1 (sl y17).2.1 (sl y17).2.2.1 (sl y17).2.2.2.1)).f,(sl y17).f)))) (fun y18=>
 .bi (qaT [AV.str [125]]
 (gv
 (qao [108,105,109,105,116] (sr (sr (sr y18))).1 (sr (sr (sr y18))).2.1 (sr (sr (sr y18))).2.2.1
 (sr (sr (sr y18))).2.2.2.1)).2.1
 (gv
 (qao [108,105,109,105,116] (sr (sr (sr y18))).1 (sr (sr (sr y18))).2.1 (sr (sr (sr y18))).2.2.1
 (sr (sr (sr y18))).2.2.2.1)).2.2.1
 (gv
 (qao [108,105,109,105,116] (sr (sr (sr y18))).1 (sr (sr (sr y18))).2.1 (sr (sr (sr y18))).2.2.1
 (sr (sr (sr y18))).2.2.2.1)).2.2.2.1
 (gv
 (qao [108,105,109,105,116] (sr (sr (sr y18))).1 (sr (sr (sr y18))).2.1 (sr (sr (sr y18))).2.2.1
 (sr (sr (sr y18))).2.2.2.1)).f) (fun y19=>
 .br (decide (y19.2.1<(y19.1.length:Int)))
 (.bi (qcf 2 y19.2.1 y19.1 y19.2.1 y19.2.2.1 y19.2.2.2) (fun y20=>
 .at (((sr (sr (sr y18))).i.2.2.2.1,(sr (sr (sr y18))).i.f.1,(sr (sr (sr y18))).i.f.2.1,(sr (sr (sr y18))).i.f.2.2.1,(sr (sr (sr y18))).i.f.2.2.2.1,(sr (sr (sr y18))).i.h.1,(sr (sr (sr y18))).i.h.2.1,(sr (sr (sr y18))).i.h.2.2.1,(sr (sr (sr y18))).i.h.2.2.2.1,(sr (sr (sr y18))).i.h.f.1,(sr (sr (sr y18))).i.h.f.2.1,(sr (sr (sr y18))).i.h.f.2.2.1,(sr (sr (sr y18))).i.h.f.2.2.2.1,(sr (sr (sr y18))).i.i.1,(sr (sr (sr y18))).i.i.2.1,(sr (sr (sr y18))).i.i.2.2.1,(sr (sr (sr y18))).i.i.2.2.2.1,(sr (sr (sr y18))).i.i.f.1,(sr (sr (sr y18))).i.i.f.2,y20)))
 (.no))
 (.at (((sr (sr (sr y18))).i.2.2.2.1,(sr (sr (sr y18))).i.f.1,(sr (sr (sr y18))).i.f.2.1,(sr (sr (sr y18))).i.f.2.2.1,(sr (sr (sr y18))).i.f.2.2.2.1,(sr (sr (sr y18))).i.h.1,(sr (sr (sr y18))).i.h.2.1,(sr (sr (sr y18))).i.h.2.2.1,(sr (sr (sr y18))).i.h.2.2.2.1,(sr (sr (sr y18))).i.h.f.1,(sr (sr (sr y18))).i.h.f.2.1,(sr (sr (sr y18))).i.h.f.2.2.1,(sr (sr (sr y18))).i.h.f.2.2.2.1,(sr (sr (sr y18))).i.i.1,(sr (sr (sr y18))).i.i.2.1,(sr (sr (sr y18))).i.i.2.2.1,(sr (sr (sr y18))).i.i.2.2.2.1,(sr (sr (sr y18))).i.i.f.1,(sr (sr (sr y18))).i.i.f.2,y19))))
 (.no))
 (.no)))))
 (.bi (pj 1
 (qIG
 (Sum.inl
 (y16.f.2.1,y16.f.2.2.1,y16.f.2.2.2.1,y16.h,[],[],[],0,0,0,0,false,0,0,
 false,false,0,0,false,y1.1,y3.1,y5.1,y7.1,y9.1,y11.1,y13.1,y15.1,y15.2.1,y15.2.2.1,y15.2.2.2.1,y15.f.1,
 y16.1,y16.2.1,y16.2.2.1,y16.2.2.2.1,y16.f.1)))) (fun y17=>
 .bi (pj 0
 (qkZ
 (Sum.inr
 (Sum.inl
 ((gv (qao [102,101,101] (sr y17).1 (sr y17).2.1 (sr y17).2.2.1 (sr y17).2.2.2.1)).2.1,
 (gv (qao [102,101,101] (sr y17).1 (sr y17).2.1 (sr y17).2.2.1 (sr y17).2.2.2.1)).2.2.1,
 (gv (qao [102,101,101] (sr y17).1 (sr y17).2.1 (sr y17).2.2.1 (sr y17).2.2.2.1)).2.2.2.1,
 (gv (qao [102,101,101] (sr y17).1 (sr y17).2.1 (sr y17).2.2.1 (sr y17).2.2.2.1)).f,(sr y17).f))))) (fun y18=>
 .bi (qaT [AV.str [125]] (gv (qao [108,105,109,105,116] (sl y18).1 (sl y18).2.1 (sl y18).2.2.1 (sl y18).2.2.2.1)).2.1
 (gv (qao [108,105,109,105,116] (sl y18).1 (sl y18).2.1 (sl y18).2.2.1 (sl y18).2.2.2.1)).2.2.1
 (gv (qao [108,105,109,105,116] (sl y18).1 (sl y18).2.1 (sl y18).2.2.1 (sl y18).2.2.2.1)).2.2.2.1
 (gv (qao [108,105,109,105,116] (sl y18).1 (sl y18).2.1 (sl y18).2.2.1 (sl y18).2.2.2.1)).f) (fun y19=>
 .br (decide (y19.2.1<(y19.1.length:Int)))
 (.bi (qcf 2 y19.2.1 y19.1 y19.2.1 y19.2.2.1 y19.2.2.2) (fun y20=>
 .at (((sl y18).i.2.2.2.1,(sl y18).i.f.1,(sl y18).i.f.2.1,(sl y18).i.f.2.2.1,(sl y18).i.f.2.2.2.1,(sl y18).i.h.1,(sl y18).i.h.2.1,(sl y18).i.h.2.2.1,(sl y18).i.h.2.2.2.1,(sl y18).i.h.f.1,(sl y18).i.h.f.2.1,(sl y18).i.h.f.2.2.1,(sl y18).i.h.f.2.2.2.1,(sl y18).i.i.1,(sl y18).i.i.2.1,(sl y18).i.i.2.2.1,(sl y18).i.i.2.2.2,[],[],y20)))
 (.no))
 (.at (((sl y18).i.2.2.2.1,(sl y18).i.f.1,(sl y18).i.f.2.1,(sl y18).i.f.2.2.1,(sl y18).i.f.2.2.2.1,(sl y18).i.h.1,(sl y18).i.h.2.1,(sl y18).i.h.2.2.1,(sl y18).i.h.2.2.2.1,(sl y18).i.h.f.1,(sl y18).i.h.f.2.1,(sl y18).i.h.f.2.2.1,(sl y18).i.h.f.2.2.2.1,(sl y18).i.i.1,(sl y18).i.i.2.1,(sl y18).i.i.2.2.1,(sl y18).i.i.2.2.2,[],[],y19))))
 (.no))
 (.bi (pj 1
 (qkZ
 (Sum.inr
 (Sum.inl
 ((gv (qao [102,101,101] (sr y17).1 (sr y17).2.1 (sr y17).2.2.1 (sr y17).2.2.2.1)).2.1,
 (gv (qao [102,101,101] (sr y17).1 (sr y17).2.1 (sr y17).2.2.1 (sr y17).2.2.2.1)).2.2.1,
 (gv (qao [102,101,101] (sr y17).1 (sr y17).2.1 (sr y17).2.2.1 (sr y17).2.2.2.1)).2.2.2.1,
 (gv (qao [102,101,101] (sr y17).1 (sr y17).2.1 (sr y17).2.2.1 (sr y17).2.2.2.1)).f,(sr y17).f))))) (fun y18=>
 .bi (qaT [AV.str [125]]
 (gv (qao [108,105,109,105,116] (sl (sr y18)).1 (sl (sr y18)).2.1 (sl (sr y18)).2.2.1 (sl (sr y18)).2.2.2.1)).2.1
 (gv (qao [108,105,109,105,116] (sl (sr y18)).1 (sl (sr y18)).2.1 (sl (sr y18)).2.2.1 (sl (sr y18)).2.2.2.1)).2.2.1
 (gv (qao [108,105,109,105,116] (sl (sr y18)).1 (sl (sr y18)).2.1 (sl (sr y18)).2.2.1 (sl (sr y18)).2.2.2.1)).2.2.2.1
 (gv (qao [108,105,109,105,116] (sl (sr y18)).1 (sl (sr y18)).2.1 (sl (sr y18)).2.2.1 (sl (sr y18)).2.2.2.1)).f) (fun y19=>
 .br (decide (y19.2.1<(y19.1.length:Int)))
 (.bi (qcf 2 y19.2.1 y19.1 y19.2.1 y19.2.2.1 y19.2.2.2) (fun y20=>
 .at (((sl (sr y18)).i.2.2.2.1,(sl (sr y18)).i.f.1,(sl (sr y18)).i.f.2.1,(sl (sr y18)).i.f.2.2.1,(sl (sr y18)).i.f.2.2.2.1,(sl (sr y18)).i.h.1,(sl (sr y18)).i.h.2.1,(sl (sr y18)).i.h.2.2.1,(sl (sr y18)).i.h.2.2.2.1,(sl (sr y18)).i.h.f.1,(sl (sr y18)).i.h.f.2.1,(sl (sr y18)).i.h.f.2.2.1,(sl (sr y18)).i.h.f.2.2.2.1,(sl (sr y18)).i.i.1,(sl (sr y18)).i.i.2.1,(sl (sr y18)).i.i.2.2.1,(sl (sr y18)).i.i.2.2.2.1,(sl (sr y18)).i.i.f,[],y20)))
 (.no))
 (.at (((sl (sr y18)).i.2.2.2.1,(sl (sr y18)).i.f.1,(sl (sr y18)).i.f.2.1,(sl (sr y18)).i.f.2.2.1,(sl (sr y18)).i.f.2.2.2.1,(sl (sr y18)).i.h.1,(sl (sr y18)).i.h.2.1,(sl (sr y18)).i.h.2.2.1,(sl (sr y18)).i.h.2.2.2.1,(sl (sr y18)).i.h.f.1,(sl (sr y18)).i.h.f.2.1,(sl (sr y18)).i.h.f.2.2.1,(sl (sr y18)).i.h.f.2.2.2.1,(sl (sr y18)).i.i.1,(sl (sr y18)).i.i.2.1,(sl (sr y18)).i.i.2.2.1,(sl (sr y18)).i.i.2.2.2.1,(sl (sr y18)).i.i.f,[],y19))))
 (.no))
 (.bi (pj 2
 (qkZ
 (Sum.inr
 (Sum.inl
 ((gv (qao [102,101,101] (sr y17).1 (sr y17).2.1 (sr y17).2.2.1 (sr y17).2.2.2.1)).2.1,
 (gv (qao [102,101,101] (sr y17).1 (sr y17).2.1 (sr y17).2.2.1 (sr y17).2.2.2.1)).2.2.1,
 (gv (qao [102,101,101] (sr y17).1 (sr y17).2.1 (sr y17).2.2.1 (sr y17).2.2.2.1)).2.2.2.1,
 (gv (qao [102,101,101] (sr y17).1 (sr y17).2.1 (sr y17).2.2.1 (sr y17).2.2.2.1)).f,(sr y17).f))))) (fun y18=>
 .bi (qaT [AV.str [125]]
 (gv
 (qao [108,105,109,105,116] (sl (sr (sr y18))).1 (sl (sr (sr y18))).2.1 (sl (sr (sr y18))).2.2.1
 (sl (sr (sr y18))).2.2.2.1)).2.1
 (gv
 (qao [108,105,109,105,116] (sl (sr (sr y18))).1 (sl (sr (sr y18))).2.1 (sl (sr (sr y18))).2.2.1
 (sl (sr (sr y18))).2.2.2.1)).2.2.1
 (gv
 (qao [108,105,109,105,116] (sl (sr (sr y18))).1 (sl (sr (sr y18))).2.1 (sl (sr (sr y18))).2.2.1
 (sl (sr (sr y18))).2.2.2.1)).2.2.2.1
 (gv
 (qao [108,105,109,105,116] (sl (sr (sr y18))).1 (sl (sr (sr y18))).2.1 (sl (sr (sr y18))).2.2.1
 (sl (sr (sr y18))).2.2.2.1)).f) (fun y19=>
 .br (decide (y19.2.1<(y19.1.length:Int)))
 (.bi (qcf 2 y19.2.1 y19.1 y19.2.1 y19.2.2.1 y19.2.2.2) (fun y20=>
 .at (((sl (sr (sr y18))).i.2.2.2.1,(sl (sr (sr y18))).i.f.1,(sl (sr (sr y18))).i.f.2.1,(sl (sr (sr y18))).i.f.2.2.1,(sl (sr (sr y18))).i.f.2.2.2.1,(sl (sr (sr y18))).i.h.1,(sl (sr (sr y18))).i.h.2.1,(sl (sr (sr y18))).i.h.2.2.1,(sl (sr (sr y18))).i.h.2.2.2.1,(sl (sr (sr y18))).i.h.f.1,(sl (sr (sr y18))).i.h.f.2.1,(sl (sr (sr y18))).i.h.f.2.2.1,(sl (sr (sr y18))).i.h.f.2.2.2.1,(sl (sr (sr y18))).i.i.1,(sl (sr (sr y18))).i.i.2.1,(sl (sr (sr y18))).i.i.2.2.1,(sl (sr (sr y18))).i.i.2.2.2.1,[],(sl (sr (sr y18))).i.i.f,y20)))
 (.no))
 (.at (((sl (sr (sr y18))).i.2.2.2.1,(sl (sr (sr y18))).i.f.1,(sl (sr (sr y18))).i.f.2.1,(sl (sr (sr y18))).i.f.2.2.1,(sl (sr (sr y18))).i.f.2.2.2.1,(sl (sr (sr y18))).i.h.1,(sl (sr (sr y18))).i.h.2.1,(sl (sr (sr y18))).i.h.2.2.1,(sl (sr (sr y18))).i.h.2.2.2.1,(sl (sr (sr y18))).i.h.f.1,(sl (sr (sr y18))).i.h.f.2.1,(sl (sr (sr y18))).i.h.f.2.2.1,(sl (sr (sr y18))).i.h.f.2.2.2.1,(sl (sr (sr y18))).i.i.1,(sl (sr (sr y18))).i.i.2.1,(sl (sr (sr y18))).i.i.2.2.1,(sl (sr (sr y18))).i.i.2.2.2.1,[],(sl (sr (sr y18))).i.i.f,y19))))
 (.no))
 (.bi (pj 3
 (qkZ
 (Sum.inr
 (Sum.inl
 ((gv (qao [102,101,101] (sr y17).1 (sr y17).2.1 (sr y17).2.2.1 (sr y17).2.2.2.1)).2.1,
 (gv (qao [102,101,101] (sr y17).1 (sr y17).2.1 (sr y17).2.2.1 (sr y17).2.2.2.1)).2.2.1,
 (gv (qao [102,101,101] (sr y17).1 (sr y17).2.1 (sr y17).2.2.1 (sr y17).2.2.2.1)).2.2.2.1,
 (gv (qao [102,101,101] (sr y17).1 (sr y17).2.1 (sr y17).2.2.1 (sr y17).2.2.2.1)).f,(sr y17).f))))) (fun y18=>
 .bi (qaT [AV.str [125]]
 (gv
 (qao [108,105,109,105,116] (sr (sr (sr y18))).1 (sr (sr (sr y18))).2.1 (sr (sr (sr y18))).2.2.1
 (sr (sr (sr y18))).2.2.2.1)).2.1
 (gv
 (qao [108,105,109,105,116] (sr (sr (sr y18))).1 (sr (sr (sr y18))).2.1 (sr (sr (sr y18))).2.2.1
 (sr (sr (sr y18))).2.2.2.1)).2.2.1
 (gv
 (qao [108,105,109,105,116] (sr (sr (sr y18))).1 (sr (sr (sr y18))).2.1 (sr (sr (sr y18))).2.2.1
 (sr (sr (sr y18))).2.2.2.1)).2.2.2.1
 (gv
 (qao [108,105,109,105,116] (sr (sr (sr y18))).1 (sr (sr (sr y18))).2.1 (sr (sr (sr y18))).2.2.1
 (sr (sr (sr y18))).2.2.2.1)).f) (fun y19=>
 .br (decide (y19.2.1<(y19.1.length:Int)))
 (.bi (qcf 2 y19.2.1 y19.1 y19.2.1 y19.2.2.1 y19.2.2.2) (fun y20=>
 .at (((sr (sr (sr y18))).i.2.2.2.1,(sr (sr (sr y18))).i.f.1,(sr (sr (sr y18))).i.f.2.1,(sr (sr (sr y18))).i.f.2.2.1,(sr (sr (sr y18))).i.f.2.2.2.1,(sr (sr (sr y18))).i.h.1,(sr (sr (sr y18))).i.h.2.1,(sr (sr (sr y18))).i.h.2.2.1,(sr (sr (sr y18))).i.h.2.2.2.1,(sr (sr (sr y18))).i.h.f.1,(sr (sr (sr y18))).i.h.f.2.1,(sr (sr (sr y18))).i.h.f.2.2.1,(sr (sr (sr y18))).i.h.f.2.2.2.1,(sr (sr (sr y18))).i.i.1,(sr (sr (sr y18))).i.i.2.1,(sr (sr (sr y18))).i.i.2.2.1,(sr (sr (sr y18))).i.i.2.2.2.1,(sr (sr (sr y18))).i.i.f.1,(sr (sr (sr y18))).i.i.f.2,y20)))
 (.no))
 (.at (((sr (sr (sr y18))).i.2.2.2.1,(sr (sr (sr y18))).i.f.1,(sr (sr (sr y18))).i.f.2.1,(sr (sr (sr y18))).i.f.2.2.1,(sr (sr (sr y18))).i.f.2.2.2.1,(sr (sr (sr y18))).i.h.1,(sr (sr (sr y18))).i.h.2.1,(sr (sr (sr y18))).i.h.2.2.1,(sr (sr (sr y18))).i.h.2.2.2.1,(sr (sr (sr y18))).i.h.f.1,(sr (sr (sr y18))).i.h.f.2.1,(sr (sr (sr y18))).i.h.f.2.2.1,(sr (sr (sr y18))).i.h.f.2.2.2.1,(sr (sr (sr y18))).i.i.1,(sr (sr (sr y18))).i.i.2.1,(sr (sr (sr y18))).i.i.2.2.1,(sr (sr (sr y18))).i.i.2.2.2.1,(sr (sr (sr y18))).i.i.f.1,(sr (sr (sr y18))).i.i.f.2,y19))))
 (.no))
 (.no)))))
 (.no)))
 (.no))
 (.no))
 (.no))
 (.no))
 (.no))
 (.no))
 (.no))
 (.no))
 (.no))
 (.no))
 (.no))
 (.no))
 (.no))
 (.no))
 (.no))
 (.no))
 (.no)
def qA8(x0:List AV)(x1 x2 x3:Int):=qaC (qzJ x0 x1 x2 x3).ev
theorem qSt(x0 x1 x2 x3):qA8 x0 x1 x2 x3=(qzJ x0 x1 x2 x3).ev:=qaa _
theorem zh0:FH IP 41 ⟨[.ref 0 0 0],[(0,.box [.view 3,.int .i64,.int .i64,.int .i64] false)]⟩ [⟨false,.agg [.str,.str,.str,.int .i64,.int .i64,.int .i64,.int .i64,.view 2,.bool,.int .i64,.int .i64,.bool,.view 2,.bool,.int .i64,.int .i64,.bool,.view 10,.view 6],[(0,.box [.view 3,.int .i64,.int .i64,.int .i64] false)]⟩] (k4 qA8):=f2 F41 1004100 zkI 1004101 zkJ (k4 qzJ) T52
def T53:=T52.a zh0
end
end Go.Proofs.H16

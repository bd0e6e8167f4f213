/- Functions over plain data. Printed by a program of mine. -/
import Derived.Test.YtjhhnkemeegahaaGreatDoorE3
import Derived.Test.YtjhhnkemeegahaaGreatDoorIP16
import Derived.KernelRfl
import Derived.Test.YtjhhnkemeegahaaGreatDoorSpA
set_option linter.all false
namespace Go.Proofs.H16
open Go Go.Eng
set_option maxRecDepth 100000
noncomputable section
abbrev k2{a b r:Type}(F:a->b->r)(v:a×b):r:=F v.1 v.2
abbrev k3{a b c r:Type}(F:a->b->c->r)(v:a×b×c):r:=k2 (F v.1) v.2
abbrev k4{a b c d r:Type}(F:a->b->c->d->r)(v:a×b×c×d):r:=k3 (F v.1) v.2
abbrev k5{a b c d e r:Type}(F:a->b->c->d->e->r)(v:a×b×c×d×e):r:=k4 (F v.1) v.2
abbrev k6{a b c d e f r:Type}(F:a->b->c->d->e->f->r)(v:a×b×c×d×e×f):r:=k5 (F v.1) v.2
abbrev k7{a b c d e f g r:Type}(F:a->b->c->d->e->f->g->r)(v:a×b×c×d×e×f×g):r:=k6 (F v.1) v.2
abbrev k8{a b c d e f g h r:Type}(F:a->b->c->d->e->f->g->h->r)(v:a×b×c×d×e×f×g×h):r:=k7 (F v.1) v.2
abbrev k9{a b c d e f g h i r:Type}(F:a->b->c->d->e->f->g->h->i->r)(v:a×b×c×d×e×f×g×h×i):r:=k8 (F v.1) v.2
abbrev k10{a b c d e f g h i j r:Type}(F:a->b->c->d->e->f->g->h->i->j->r)(v:a×b×c×d×e×f×g×h×i×j):r:=k9 (F v.1) v.2
abbrev k11{a b c d e f g h i j k r:Type}(F:a->b->c->d->e->f->g->h->i->j->k->r)(v:a×b×c×d×e×f×g×h×i×j×k):r:=k10 (F v.1) v.2
abbrev k12{a b c d e f g h i j k l r:Type}(F:a->b->c->d->e->f->g->h->i->j->k->l->r)(v:a×b×c×d×e×f×g×h×i×j×k×l):r:=k11 (F v.1) v.2
abbrev k13{a b c d e f g h i j k l m r:Type}(F:a->b->c->d->e->f->g->h->i->j->k->l->m->r)(v:a×b×c×d×e×f×g×h×i×j×k×l×m):r:=k12 (F v.1) v.2
abbrev k14{a b c d e f g h i j k l m n r:Type}(F:a->b->c->d->e->f->g->h->i->j->k->l->m->n->r)(v:a×b×c×d×e×f×g×h×i×j×k×l×m×n):r:=k13 (F v.1) v.2
abbrev k19{a b c d e f g h i j k l m n o p q s t r:Type}(F:a->b->c->d->e->f->g->h->i->j->k->l->m->n->o->p->q->s->t->r)(v:a×b×c×d×e×f×g×h×i×j×k×l×m×n×o×p×q×s×t):r:=k14 (F v.1 v.2.1 v.2.2.1 v.2.2.2.1 v.f.1) v.f.2
abbrev k20{a b c d e f g h i j k l m n o p q s t u r:Type}(F:a->b->c->d->e->f->g->h->i->j->k->l->m->n->o->p->q->s->t->u->r)(v:a×b×c×d×e×f×g×h×i×j×k×l×m×n×o×p×q×s×t×u):r:=k19 (F v.1) v.2
abbrev k22{a b c d e f g h i j k l m n o p q s t u w a' r:Type}(F:a->b->c->d->e->f->g->h->i->j->k->l->m->n->o->p->q->s->t->u->w->a'->r)(v:a×b×c×d×e×f×g×h×i×j×k×l×m×n×o×p×q×s×t×u×w×a'):r:=k20 (F v.1 v.2.1) v.2.2
abbrev k24{a b c d e f g h i j k l m n o p q s t u w a' b' c' r:Type}(F:a->b->c->d->e->f->g->h->i->j->k->l->m->n->o->p->q->s->t->u->w->a'->b'->c'->r)(v:a×b×c×d×e×f×g×h×i×j×k×l×m×n×o×p×q×s×t×u×w×a'×b'×c'):r:=k22 (F v.1 v.2.1) v.2.2
abbrev k36{a b c d e f g h i j k l m n o p q s t u w a' b' c' d' e' f' g' h' i' j' k' l' m' n' o' r:Type}(F:a->b->c->d->e->f->g->h->i->j->k->l->m->n->o->p->q->s->t->u->w->a'->b'->c'->d'->e'->f'->g'->h'->i'->j'->k'->l'->m'->n'->o'->r)(v:a×b×c×d×e×f×g×h×i×j×k×l×m×n×o×p×q×s×t×u×w×a'×b'×c'×d'×e'×f'×g'×h'×i'×j'×k'×l'×m'×n'×o'):r:=k24 (F v.1 v.2.1 v.2.2.1 v.2.2.2.1 v.f.1 v.f.2.1 v.f.2.2.1 v.f.2.2.2.1 v.h.1 v.h.2.1 v.h.2.2.1 v.h.2.2.2.1) v.h.f
abbrev k37{a b c d e f g h i j k l m n o p q s t u w a' b' c' d' e' f' g' h' i' j' k' l' m' n' o' p' r:Type}(F:a->b->c->d->e->f->g->h->i->j->k->l->m->n->o->p->q->s->t->u->w->a'->b'->c'->d'->e'->f'->g'->h'->i'->j'->k'->l'->m'->n'->o'->p'->r)(v:a×b×c×d×e×f×g×h×i×j×k×l×m×n×o×p×q×s×t×u×w×a'×b'×c'×d'×e'×f'×g'×h'×i'×j'×k'×l'×m'×n'×o'×p'):r:=k36 (F v.1) v.2
abbrev k38{a b c d e f g h i j k l m n o p q s t u w a' b' c' d' e' f' g' h' i' j' k' l' m' n' o' p' q' r:Type}(F:a->b->c->d->e->f->g->h->i->j->k->l->m->n->o->p->q->s->t->u->w->a'->b'->c'->d'->e'->f'->g'->h'->i'->j'->k'->l'->m'->n'->o'->p'->q'->r)(v:a×b×c×d×e×f×g×h×i×j×k×l×m×n×o×p×q×s×t×u×w×a'×b'×c'×d'×e'×f'×g'×h'×i'×j'×k'×l'×m'×n'×o'×p'×q'):r:=k37 (F v.1) v.2
abbrev k39{a b c d e f g h i j k l m n o p q s t u w a' b' c' d' e' f' g' h' i' j' k' l' m' n' o' p' q' s' r:Type}(F:a->b->c->d->e->f->g->h->i->j->k->l->m->n->o->p->q->s->t->u->w->a'->b'->c'->d'->e'->f'->g'->h'->i'->j'->k'->l'->m'->n'->o'->p'->q'->s'->r)(v:a×b×c×d×e×f×g×h×i×j×k×l×m×n×o×p×q×s×t×u×w×a'×b'×c'×d'×e'×f'×g'×h'×i'×j'×k'×l'×m'×n'×o'×p'×q'×s'):r:=k38 (F v.1) v.2
def T0:Tab:=[(87,qsO),(62,qhD),(227,ze9),(201,qp2 240),(155,qCx 240),(120,qt4),(178,qwl),(112,zfp),(152,qF7),(153,upE),(40,qlW 3 32),(24,zfc),(157,zaS),(22,Go.Tk.putE)]
theorem qRW:qan IP T0:=⟨zwP,zsx,zsw,zsv,zss,zsp,zsu,zso,zsq,zsr,zwO,zwN,zst,zwM,trivial⟩
abbrev qFf:Type:=Int
def quV:PArgs:=⟨[.agg [.int .i64,.int .i64,.str,.view 4],.int .i64],[]⟩
def qvn:List PRes:=[⟨false,.int .i64,[]⟩]
abbrev qdE:Type:=Int->Int->(List UInt8)->(List AV)->Int->Option qFf
def qyP(G_u251q:qdE):Prop:=FH IP 49 quV qvn (k5 G_u251q)
def q4u(G_u251q:qdE):Tab:=(49,FE quV qvn (k5 G_u251q))::T0
theorem qsA(G_u251q:qdE)(hG:qyP G_u251q):qan IP (q4u G_u251q):=⟨qam (hG),qRW⟩
abbrev qfp:Type:=Int×Int×Int×Int×Int×List UInt8×List AV
def qJY:List PSt:=[⟨[(1004900,.junk),(1,.int .i64),(2,.ref 0 0 0),(5,.int .i64),(6,.int .i64)],[(0,.box [.int .i64,.int .i64,.str,.view 4] false)],1,0⟩]
def q3m(x0 x1:Int)(x2 x3 x4:Int)(x5:List UInt8)(x6:List AV):X×St:=(.exit 0,⟨[(5,.int .i64 x1)],[],0,0⟩)
def zhL:List (qfp->X×St):=[(k7 q3m)]
def qll(G_u251q:qdE)(x0 x1:Int)(x2 x3 x4:Int)(x5:List UInt8)(x6:List AV):DT (Rd qfp):=
 .bi (br (decide (x2<(x6.length:Int))) (some (decide (x1<=x0))) (some false)) (fun y0=>
 .br (y0)
 (.br (qaH [.int .i64,.int .i64,.str,.slice 4] x6 x2)
 (.bi (G_u251q (intOf (cellAt x6 x2 0)) (intOf (cellAt x6 x2 1)) (strOf (cellAt x6 x2 2)) (qaq (cellAt x6 x2 3)) (IntKind.i64.wrap (x0-x1))) (fun y1=>
 .at (.next ((x0,IntKind.i64.wrap (x1+y1),IntKind.i64.wrap (x2+1),x3,x4,x5,x6))))
 (.no))
 (.no))
 (.at (.done 0)))
 (.no)
def qjd(G_u251q:qdE):qfp->DT (Rd qfp):=(fun v=>qll G_u251q v.1 v.2.1 v.2.2.1 v.2.2.2.1 v.f.1 v.f.2.1 v.f.2.2)
def que(G_u251q:qdE)(v:qfp):Option (Nat×qfp):=qaz (qaf (fun v=>(qjd G_u251q v).ev) v)
theorem qkR(G_u251q v):que G_u251q v=qaf (fun v=>(qjd G_u251q v).ev) v:=qaa _
def qLc(G_u251q:qdE):qbQ:=LE (τ:=qfp) (hD qJY) (que G_u251q) zhL
theorem zgD(G_u251q:qdE)(hG:qyP G_u251q):Go.Eng.Told IP (qad F49 0).1 (qad F49 0).2 (qLc G_u251q):=qav (inferInstance:Inhabited qfp) (hs:=qJY) (st:=qjd G_u251q) (L:=[]) (qsA G_u251q hG) (qac (l:=[]) (by kernel_rfl) trivial) (qkR G_u251q) (fun v=>by kernel_rfl) (fun v=>by kernel_rfl)
def qBg(G_u251q:qdE)(x0 x1:Int)(x2:List UInt8)(x3:List AV)(x4:Int):DT qFf:=
 .bi (pj 0 (que G_u251q (x4,1,0,x0,x1,x2,x3))) (fun y0=>
 .at (y0.2.1))
 (.no)
def qd2:Nat->qdE
 |0=>fun _ _ _ _ _=>none
 |n+1=>fun x0 x1 x2 x3 x4=>(qBg ((qd2 n)) x0 x1 x2 x3 x4).ev
def qzs(x0 x1:Int)(x2:List UInt8)(x3:List AV)(x4:Int):Option qFf:=qjC fun n=>(qd2 n) x0 x1 x2 x3 x4
theorem qwM:∀n,qyP ((qd2 n))
 |0=>(fun v y h=>nomatch h)
 |n+1=>have hG:=qwM n
 qah (F:=F49) (L:=[(1004900,qLc ((qd2 n)))]) (t:=(k5 (qBg ((qd2 n))))) (qsA ((qd2 n)) hG) (qac (l:=[qad F49 0]) (by kernel_rfl) ⟨qau (by kernel_rfl) (zgD ((qd2 n)) hG),trivial⟩) (by kernel_rfl) (fun v=>by kernel_rfl) (fun v=>rfl)
theorem zdP:FH IP 49 quV qvn (k5 qzs):=qbL (p:=quV) (rs:=qvn) (s:=fun n=>(k5 ((qd2 n)))) fun n=>(qwM n)
def T1:Tab:=(49,FE quV qvn (k5 qzs))::T0
theorem qME:qan IP T1:=⟨qam zdP,qRW⟩
abbrev qQY:Type:=Bool
def qYk:PArgs:=⟨[.agg [.int .i64,.int .i64,.str,.view 4],.int .i64],[]⟩
def q0F:List PRes:=[⟨false,.bool,[]⟩]
def qrM(x0 x1:Int)(x2:List UInt8)(x3:List AV)(x4:Int):DT qQY:=
 .bi (qzs x0 x1 x2 x3 x4) (fun y0=>
 .at (decide (y0>x4)))
 (.no)
def qeQ(x0 x1:Int)(x2:List UInt8)(x3:List AV)(x4:Int):Option qQY:=qaz (qrM x0 x1 x2 x3 x4).ev
theorem qN7(x0 x1 x2 x3 x4):qeQ x0 x1 x2 x3 x4=(qrM x0 x1 x2 x3 x4).ev:=qaa _
theorem zdM:FH IP 14 qYk q0F (k5 qeQ):=fh F14 (k5 qrM) qME
def T2:Tab:=(14,FE qYk q0F (k5 qeQ))::T1
theorem qFV:qan IP T2:=⟨qam zdM,qME⟩
abbrev qer:Type:=Int×List UInt8×List UInt8×List UInt8×Int×Int×Int×Int×List AV×Bool×Int×Int×Bool×List AV×Bool×Int×Int×Bool×List AV×List AV
def qJ1:List PSt:=[⟨[(1000700,.junk),(1,.ref 0 0 0),(3,.int .i64)],[(0,.box [.str,.str,.str,.int .i64,.int .i64,.int .i64,.int .i64,.view 2,.bool,.int .i64,.int .i64,.bool,.view 2,.bool,.int .i64,.int .i64,.bool,.view 10,.view 6] false)],1,0⟩]
def q3v(x0:Int)(x1 x2 x3:List UInt8)(x4 x5:Int)(x6 x7:Int)(x8:List AV)(x9:Bool)(x10 x11:Int)(x12:Bool)(x13:List AV)(x14:Bool)(x15 x16:Int)(x17:Bool)(x18 x19:List AV):X×St:=(.ret,
 ⟨[(1,.ref 0 0 0),(2,.bool true)],[(0,
 .box
 [.str x1,.str x2,.str x3,.int .i64 x4,.int .i64 x5,.int .i64 x6,.int .i64 x7,.view 2 x8,.bool x9,
 .int .i64 x10,.int .i64 x11,.bool x12,.view 2 x13,.bool x14,.int .i64 x15,.int .i64 x16,.bool x17,.view 10 x18,
 .view 6 x19]
 false)],1,0⟩)
def q3w(x0:Int)(x1 x2 x3:List UInt8)(x4 x5:Int)(x6 x7:Int)(x8:List AV)(x9:Bool)(x10 x11:Int)(x12:Bool)(x13:List AV)(x14:Bool)(x15 x16:Int)(x17:Bool)(x18 x19:List AV):X×St:=(.exit 0,
 ⟨[(1,.ref 0 0 0),(2,.junk)],[(0,
 .box
 [.str x1,.str x2,.str x3,.int .i64 x4,.int .i64 x5,.int .i64 x6,.int .i64 x7,.view 2 x8,.bool x9,
 .int .i64 x10,.int .i64 x11,.bool x12,.view 2 x13,.bool x14,.int .i64 x15,.int .i64 x16,.bool x17,.view 10 x18,
 .view 6 x19]
 false)],1,0⟩)
def zhO:List (qer->X×St):=[(k20 q3v),(k20 q3w)]
def qpl(x0:Int)(x1 x2 x3:List UInt8)(x4 x5:Int)(x6 x7:Int)(x8:List AV)(x9:Bool)(x10 x11:Int)(x12:Bool)(x13:List AV)(x14:Bool)(x15 x16:Int)(x17:Bool)(x18 x19:List AV):DT (Rd qer):=
 .br (decide (x0<(x18.length:Int)))
 (.br (qaH [.str,.int .i64,.int .i64,.int .i64,.str,.slice 4,.int .i64,.int .i64,.str,.slice 4] x18 x0)
 (.bi (br (decide (((strOf (cellAt x18 x0 0)).length:Int)>100)) (some true)
 (br (qaH [.str,.int .i64,.int .i64,.int .i64,.str,.slice 4,.int .i64,.int .i64,.str,.slice 4] x18 x0)
 (br (sm (qeQ (intOf (cellAt x18 x0 2)) (intOf (cellAt x18 x0 3)) (strOf (cellAt x18 x0 4)) (qaq (cellAt x18 x0 5)) 100))
 (some (gv (qeQ (intOf (cellAt x18 x0 2)) (intOf (cellAt x18 x0 3)) (strOf (cellAt x18 x0 4)) (qaq (cellAt x18 x0 5)) 100))) none)
 none)) (fun y0=>
 .bi (br y0 (some true)
 (br (qaH [.str,.int .i64,.int .i64,.int .i64,.str,.slice 4,.int .i64,.int .i64,.str,.slice 4] x18 x0)
 (br (sm (qeQ (intOf (cellAt x18 x0 6)) (intOf (cellAt x18 x0 7)) (strOf (cellAt x18 x0 8)) (qaq (cellAt x18 x0 9)) 100))
 (some (gv (qeQ (intOf (cellAt x18 x0 6)) (intOf (cellAt x18 x0 7)) (strOf (cellAt x18 x0 8)) (qaq (cellAt x18 x0 9)) 100))) none)
 none)) (fun y1=>
 .br (y1) (.at (.done 0)) (.at (.next ((IntKind.i64.wrap (x0+1),x1,x2,x3,x4,x5,x6,x7,x8,x9,x10,x11,x12,x13,x14,x15,x16,x17,x18,x19)))))
 (.no))
 (.no))
 (.no))
 (.at (.done 1))
def qny:qer->DT (Rd qer):=(fun v=>qpl v.1 v.2.1 v.2.2.1 v.2.2.2.1 v.f.1 v.f.2.1 v.f.2.2.1 v.f.2.2.2.1 v.h.1 v.h.2.1 v.h.2.2.1 v.h.2.2.2.1 v.h.f.1 v.h.f.2.1 v.h.f.2.2.1 v.h.f.2.2.2.1 v.i.1 v.i.2.1 v.i.2.2.1 v.i.2.2.2)
def quf(v:qer):Option (Nat×qer):=qaz (qaf (fun v=>(qny v).ev) v)
theorem qxG(v):quf v=qaf (fun v=>(qny v).ev) v:=qaa _
def qLf:qbQ:=LE (τ:=qer) (hD qJ1) (quf) zhO
theorem zgG:Go.Eng.Told IP (qad F7 0).1 (qad F7 0).2 (qLf):=lp (inferInstance:Inhabited qer) (hs:=qJ1) qny qFV qxG
abbrev qfr:Type:=Int×List UInt8×List UInt8×List UInt8×Int×Int×Int×Int×List AV×Bool×Int×Int×Bool×List AV×Bool×Int×Int×Bool×List AV×List AV
def qJ2:List PSt:=[⟨[(1000701,.junk),(1,.ref 0 0 0),(4,.int .i64)],[(0,.box [.str,.str,.str,.int .i64,.int .i64,.int .i64,.int .i64,.view 2,.bool,.int .i64,.int .i64,.bool,.view 2,.bool,.int .i64,.int .i64,.bool,.view 10,.view 6] false)],1,0⟩]
def q3x(x0:Int)(x1 x2 x3:List UInt8)(x4 x5:Int)(x6 x7:Int)(x8:List AV)(x9:Bool)(x10 x11:Int)(x12:Bool)(x13:List AV)(x14:Bool)(x15 x16:Int)(x17:Bool)(x18 x19:List AV):X×St:=(.ret,⟨[(2,.bool true)],[],0,0⟩)
def q3y(x0:Int)(x1 x2 x3:List UInt8)(x4 x5:Int)(x6 x7:Int)(x8:List AV)(x9:Bool)(x10 x11:Int)(x12:Bool)(x13:List AV)(x14:Bool)(x15 x16:Int)(x17:Bool)(x18 x19:List AV):X×St:=(.exit 2,⟨[(2,.junk)],[],0,0⟩)
def zhP:List (qfr->X×St):=[(k20 q3x),(k20 q3y)]
def qpm(x0:Int)(x1 x2 x3:List UInt8)(x4 x5:Int)(x6 x7:Int)(x8:List AV)(x9:Bool)(x10 x11:Int)(x12:Bool)(x13:List AV)(x14:Bool)(x15 x16:Int)(x17:Bool)(x18 x19:List AV):DT (Rd qfr):=
 .br (decide (x0<(x19.length:Int)))
 (.br (qaH [.str,.int .i64,.int .i64,.int .i64,.str,.slice 4] x19 x0)
 (.bi (br (decide (((strOf (cellAt x19 x0 0)).length:Int)>100)) (some true)
 (br (qaH [.str,.int .i64,.int .i64,.int .i64,.str,.slice 4] x19 x0)
 (br (sm (qeQ (intOf (cellAt x19 x0 2)) (intOf (cellAt x19 x0 3)) (strOf (cellAt x19 x0 4)) (qaq (cellAt x19 x0 5)) 100))
 (some (gv (qeQ (intOf (cellAt x19 x0 2)) (intOf (cellAt x19 x0 3)) (strOf (cellAt x19 x0 4)) (qaq (cellAt x19 x0 5)) 100))) none)
 none)) (fun y0=>
 .br (y0) (.at (.done 0)) (.at (.next ((IntKind.i64.wrap (x0+1),x1,x2,x3,x4,x5,x6,x7,x8,x9,x10,x11,x12,x13,x14,x15,x16,x17,x18,x19)))))
 (.no))
 (.no))
 (.at (.done 1))
def qnz:qfr->DT (Rd qfr):=(fun v=>qpm v.1 v.2.1 v.2.2.1 v.2.2.2.1 v.f.1 v.f.2.1 v.f.2.2.1 v.f.2.2.2.1 v.h.1 v.h.2.1 v.h.2.2.1 v.h.2.2.2.1 v.h.f.1 v.h.f.2.1 v.h.f.2.2.1 v.h.f.2.2.2.1 v.i.1 v.i.2.1 v.i.2.2.1 v.i.2.2.2)
def qug(v:qfr):Option (Nat×qfr):=qaz (qaf (fun v=>(qnz v).ev) v)
theorem qxH(v):qug v=qaf (fun v=>(qnz v).ev) v:=qaa _
def qLg:qbQ:=LE (τ:=qfr) (hD qJ2) (qug) zhP
theorem zgH:Go.Eng.Told IP (qad F7 1).1 (qad F7 1).2 (qLg):=lp (inferInstance:Inhabited qfr) (hs:=qJ2) qnz qFV qxH
abbrev qQ1:Type:=Bool
def qYn:PArgs:=⟨[.agg [.str,.str,.str,.int .i64,.int .i64,.int .i64,.int .i64,.view 2,.bool,.int .i64,.int .i64,.bool,.view 2,.bool,.int .i64,.int .i64,.bool,.view 10,.view 6]],[]⟩
def q0I:List PRes:=[⟨false,.bool,[]⟩]
def qrO(x0 x1 x2:List UInt8)(x3 x4:Int)(x5 x6:Int)(x7:List AV)(x8:Bool)(x9 x10:Int)(x11:Bool)(x12:List AV)(x13:Bool)(x14 x15:Int)(x16:Bool)(x17 x18:List AV):DT qQ1:=
 .bi (br (decide ((x0.length:Int)>100)) (some true) (some (decide ((x1.length:Int)>100)))) (fun y0=>
 .bi (br y0 (some true) (some (decide ((x2.length:Int)>100)))) (fun y1=>
 .bi (br y1 (some true) (some (decide ((x7.length:Int)>20)))) (fun y2=>
 .bi (br y2 (some true) (some (decide ((x12.length:Int)>20)))) (fun y3=>
 .bi (br y3 (some true) (some (decide ((x17.length:Int)>10)))) (fun y4=>
 .bi (br y4 (some true) (some (decide ((x18.length:Int)>10)))) (fun y5=>
 .br (y5)
 (.at (true))
 (.bi (pj 0 (quf (0,x0,x1,x2,x3,x4,x5,x6,x7,x8,x9,x10,x11,x12,x13,x14,x15,x16,x17,x18))) (fun y6=>
 .at (true))
 (.bi (pj 1 (quf (0,x0,x1,x2,x3,x4,x5,x6,x7,x8,x9,x10,x11,x12,x13,x14,x15,x16,x17,x18))) (fun y6=>
 .bi (pj 0
 (qug
 (0,y6.2))) (fun y7=>
 .at (true))
 (.bi (pj 1
 (qug
 (0,y6.2))) (fun y7=>
 .at (false))
 (.no)))
 (.no))))
 (.no))
 (.no))
 (.no))
 (.no))
 (.no))
 (.no)
def qol(x0 x1 x2:List UInt8)(x3 x4:Int)(x5 x6:Int)(x7:List AV)(x8:Bool)(x9 x10:Int)(x11:Bool)(x12:List AV)(x13:Bool)(x14 x15:Int)(x16:Bool)(x17 x18:List AV):Option qQ1:=qaz (qrO x0 x1 x2 x3 x4 x5 x6 x7 x8 x9 x10 x11 x12 x13 x14 x15 x16 x17 x18).ev
theorem qN9(x0 x1 x2 x3 x4 x5 x6 x7 x8 x9 x10 x11 x12 x13 x14 x15 x16 x17 x18):qol x0 x1 x2 x3 x4 x5 x6 x7 x8 x9 x10 x11 x12 x13 x14 x15 x16 x17 x18=(qrO x0 x1 x2 x3 x4 x5 x6 x7 x8 x9 x10 x11 x12 x13 x14 x15 x16 x17 x18).ev:=qaa _
theorem zdU:FH IP 7 qYn q0I (k19 qol):=qah (F:=F7) (L:=[(1000700,qLf),(1000701,qLg)]) (t:=(k19 qrO)) qFV (qac (l:=[qad F7 0,qad F7 1]) (by kernel_rfl) ⟨qau (by kernel_rfl) zgG,qau (by kernel_rfl) zgH,trivial⟩) (by kernel_rfl) (fun v=>by kernel_rfl) (fun _=>qaa _)
def T3:Tab:=(7,FE qYn q0I (k19 qol))::T2
theorem qS3:qan IP T3:=⟨qam zdU,qFV⟩
abbrev qRc:Type:=List UInt8
def qYy:PArgs:=⟨[],[]⟩
def q0T:List PRes:=[⟨false,.str,[]⟩]
def qlx:DT qRc:=
 .at (have y:=
 have y:=
 have y:=
 have y:=
 have y:=
 have y:=[48,32,59,10,125];
 48::48::48::48::y;
 have y:=32::36::32::49::y;
 97::105::108::121::y;
 have y:=
 have y:=97::121::32::100::y;
 105::116::32::100::y;
 have y:=10::108::105::109::y;
 53::48::32::59::y;
 have y:=
 have y:=
 have y:=102::32::36::32::50::y;
 110::116::95::111::y;
 have y:=97::109::111::117::y;
 60::32::50::32::y;
 have y:=
 have y:=110::32::49::32::y;
 32::119::104::101::y;
 have y:=116::117::114::110::y;
 101::32::114::101::y;
 have y:=
 have y:=
 have y:=
 have y:=101::32::108::97::116::y;
 125::10::102::101::y;
 have y:=112::32::123::10::y;
 32::100::114::111::y;
 have y:=
 have y:=48::32::117::112::y;
 99::116::51::54::y;
 have y:=108::101::32::97::y;
 32::119::104::111::y;
 have y:=
 have y:=
 have y:=100::101::98::105::116::y;
 59::10::125::10::y;
 have y:=46::53::37::32::y;
 32::58::32::49::y;
 have y:=
 have y:=10::36::32::48::y;
 101::112::32::123::y;
 have y:=110::32::107::101::y;
 95::101::118::101::y;
 have y:=
 have y:=
 have y:=
 have y:=
 have y:=32::104::97::108::102::y;
 116::51::54::53::y;
 have y:=108::32::97::99::y;
 103::105::110::97::y;
 have y:=
 have y:=32::109::97::114::y;
 101::100::105::116::y;
 have y:=59::10::99::114::y;
 50::53::37::32::y;
 have y:=
 have y:=
 have y:=10::116::97::120::32::y;
 48::48::32::59::y;
 have y:=32::36::32::53::y;
 114::97::102::116::y;
 have y:=
 have y:=118::101::114::100::y;
 32::59::10::111::y;
 have y:=114::121::32::51::y;
 10::101::118::101::y;
 have y:=
 have y:=
 have y:=
 have y:=47::32::49::32::59::y;
 47::32::49::32::y;
 have y:=48::48::48::32::y;
 111::109::32::50::y;
 have y:=
 have y:=59::10::102::114::y;
 101::101::107::32::y;
 have y:=97::114::32::119::y;
 108::101::110::100::y;
 have y:=
 have y:=
 have y:=32::59::10::99::97::y;
 32::101::117::114::y;
 have y:=101::110::99::121::y;
 99::117::114::114::y;
 have y:=
 have y:=99::32::123::10::y;
 98::97::115::105::y;
 have y:=117::99::116::32::y;
 112::114::111::100::y)
def qmg:Option qRc:=qaz (qlx).ev
theorem qw8:qmg=(qlx).ev:=qaa _
theorem zd5:FH IP 15 qYy q0T (fun _=>qmg):=qah (F:=F15) (L:=[]) (t:=(fun _=>qlx)) qS3 (qac (l:=[]) (by kernel_rfl) trivial) (by kernel_rfl) (fun v=>by kernel_rfl) (fun _=>qaa _)
def T4:Tab:=(15,FE qYy q0T (fun _=>qmg))::T3
theorem qS7:qan IP T4:=⟨qam zd5,qS3⟩
abbrev qPX:Type:=Bool
def qXe:PArgs:=⟨[.int .i32],[]⟩
def qZz:List PRes:=[⟨false,.bool,[]⟩]
def qqQ(x0:Int):DT qPX:=
 .at (x0 != 10)
def qn7(x0:Int):Option qPX:=qaz (qqQ x0).ev
theorem qNa(x0):qn7 x0=(qqQ x0).ev:=qaa _
theorem zcy:FH IP 141 qXe qZz qn7:=fh zoq qqQ qS7
def T5:Tab:=(141,FE qXe qZz qn7)::T4
theorem qMF:qan IP T5:=⟨qam zcy,qS7⟩
abbrev qe6:Type:=List UInt8×Int
def qJB:List PSt:=[⟨[(1014000,.junk),(0,.str),(1,.fn (.func 141) []),(5,.int .i64)],[],0,0⟩]
def q2I(x0:List UInt8)(x1:Int):X×St:=(.exit 0,⟨[(0,.str x0),(5,.int .i64 x1)],[],0,0⟩)
def zho:List (qe6->X×St):=[(k2 q2I)]
def qo8(x0:List UInt8)(x1:Int):DT (Rd qe6):=
 .bi (br (decide (x1<(x0.length:Int)))
 (br (inB x0.length x1) (br (sm (qn7 (IntKind.i32.wrap (qak x0 x1)))) (some (gv (qn7 (IntKind.i32.wrap (qak x0 x1))))) none) none) (some false)) (fun y0=>
 .br (y0) (.at (.next ((x0,IntKind.i64.wrap (x1+1))))) (.at (.done 0)))
 (.no)
def qnp:qe6->DT (Rd qe6):=(fun v=>qo8 v.1 v.2)
def qzH(v:qe6):Option (Nat×qe6):=qaz (qaf (fun v=>(qnp v).ev) v)
theorem qxq(v):qzH v=qaf (fun v=>(qnp v).ev) v:=qaa _
def qKP:qbQ:=LE (τ:=qe6) (hD qJB) (qzH) zho
theorem zgg:Go.Eng.Told IP (qad qCg 0).1 (qad qCg 0).2 (qKP):=lp (inferInstance:Inhabited qe6) (hs:=qJB) qnp qMF qxq
abbrev qQj:Type:=List UInt8
def qXD:PArgs:=⟨[.str,.fn (.func 141) []],[]⟩
def qZY:List PRes:=[⟨false,.str,[]⟩]
def qrd(x0:List UInt8):DT qQj:=
 .bi (pj 0 (qzH (x0,0))) (fun y0=>
 .br (leB y0.2 y0.1.length&&true) (.at (List.take y0.2.toNat y0.1)) (.no))
 (.no)
def ql5(x0:List UInt8):Option qQj:=qaz (qrd x0).ev
theorem qNy(x0):ql5 x0=(qrd x0).ev:=qaa _
theorem zcZ:FH IP 140 qXD qZY ql5:=qah (F:=qCg) (L:=[(1014000,qKP)]) (t:=qrd) qMF (qac (l:=[qad qCg 0]) (by kernel_rfl) ⟨qau (by kernel_rfl) zgg,trivial⟩) (by kernel_rfl) (fun v=>by kernel_rfl) (fun _=>qaa _)
def T6:Tab:=(140,FE qXD qZY ql5)::T5
theorem qFW:qan IP T6:=⟨qam zcZ,qMF⟩
abbrev qe5:Type:=List UInt8×Int
def qJA:List PSt:=[⟨[(1008600,.junk),(0,.str),(3,.int .i64)],[],0,0⟩]
def q2G(x0:List UInt8)(x1:Int):X×St:=(.ret,⟨[(2,.int .i64 x1),(3,.int .i64 x1)],[],0,0⟩)
def q2H(x0:List UInt8)(x1:Int):X×St:=(.exit 0,⟨[(2,.junk),(3,.int .i64 x1)],[],0,0⟩)
def zhn:List (qe5->X×St):=[(k2 q2G),(k2 q2H)]
def qo7(x0:List UInt8)(x1:Int):DT (Rd qe5):=
 .br (decide (x1<(x0.length:Int)))
 (.br (inB x0.length x1)
 (.br (qak x0 x1==32)
 (.br (qak x0 x1==32)
 (.at (.next ((x0,IntKind.i64.wrap (x1+1)))))
 (.br (qak x0 x1==35)
 (.br (leB x1 x0.length)
 (.bi (ql5 (List.drop x1.toNat x0)) (fun y0=>
 .at (.next ((x0,IntKind.i64.wrap (x1+(y0.length:Int))))))
 (.no))
 (.no))
 (.at (.done 0))))
 (.br (qak x0 x1==9)
 (.br (qak x0 x1==9)
 (.at (.next ((x0,IntKind.i64.wrap (x1+1)))))
 (.br (qak x0 x1==35)
 (.br (leB x1 x0.length)
 (.bi (ql5 (List.drop x1.toNat x0)) (fun y0=>
 .at (.next ((x0,IntKind.i64.wrap (x1+(y0.length:Int))))))
 (.no))
 (.no))
 (.at (.done 0))))
 (.br (qak x0 x1==10)
 (.at (.next ((x0,IntKind.i64.wrap (x1+1)))))
 (.br (qak x0 x1==35)
 (.br (leB x1 x0.length)
 (.bi (ql5 (List.drop x1.toNat x0)) (fun y0=>
 .at (.next ((x0,IntKind.i64.wrap (x1+(y0.length:Int))))))
 (.no))
 (.no))
 (.at (.done 0))))))
 (.no))
 (.at (.done 1))
def qlf:qe5->DT (Rd qe5):=(fun v=>qo7 v.1 v.2)
def qt9(v:qe5):Option (Nat×qe5):=qaz (qaf (fun v=>(qlf v).ev) v)
theorem qkN(v):qt9 v=qaf (fun v=>(qlf v).ev) v:=qaa _
def qKO:qbQ:=LE (τ:=qe5) (hD qJA) (qt9) zhn
theorem zgf:Go.Eng.Told IP (qad F86 0).1 (qad F86 0).2 (qKO):=lp (inferInstance:Inhabited qe5) (hs:=qJA) qlf qFW qkN
abbrev qQf:Type:=Int
def qXz:PArgs:=⟨[.str],[]⟩
def qZU:List PRes:=[⟨false,.int .i64,[]⟩]
def qq9(x0:List UInt8):DT qQf:=
 .bi (pj 0 (qt9 (x0,0))) (fun y0=>
 .at (y0.2))
 (.bi (pj 1 (qt9 (x0,0))) (fun y0=>
 .at (y0.2))
 (.no))
def qcr(x0:List UInt8):Option qQf:=qaz (qq9 x0).ev
theorem qNu(x0):qcr x0=(qq9 x0).ev:=qaa _
theorem zcV:FH IP 86 qXz qZU qcr:=qah (F:=F86) (L:=[(1008600,qKO)]) (t:=qq9) qFW (qac (l:=[qad F86 0]) (by kernel_rfl) ⟨qau (by kernel_rfl) zgf,trivial⟩) (by kernel_rfl) (fun v=>by kernel_rfl) (fun _=>qaa _)
def T7:Tab:=(86,FE qXz qZU qcr)::T6
theorem qMG:qan IP T7:=⟨qam zcV,qFW⟩
abbrev qQh:Type:=Bool
def qXB:PArgs:=⟨[.int .i32],[]⟩
def qZW:List PRes:=[⟨false,.bool,[]⟩]
def qrb(x0:Int):DT qQh:=
 .bi (br (decide (x0>=97)) (some (decide (x0<=122))) (some false)) (fun y0=>
 .at (y0))
 (.no)
def qoc(x0:Int):Option qQh:=qaz (qrb x0).ev
theorem qNw(x0):qoc x0=(qrb x0).ev:=qaa _
theorem zcX:FH IP 145 qXB qZW qoc:=fh zor qrb qMG
def T8:Tab:=(145,FE qXB qZW qoc)::T7
theorem zb8:qan IP T8:=⟨qam zcX,qMG⟩
abbrev qQu:Type:=Bool
def qXQ:PArgs:=⟨[.int .i32],[]⟩
def q0b:List PRes:=[⟨false,.bool,[]⟩]
def qrq(x0:Int):DT qQu:=
 .bi (br (decide (x0>=48)) (some (decide (x0<=57))) (some false)) (fun y0=>
 .at (y0))
 (.no)
def qiR(x0:Int):Option qQu:=qaz (qrq x0).ev
theorem qNL(x0):qiR x0=(qrq x0).ev:=qaa _
theorem zdf:FH IP 147 qXQ q0b qiR:=fh zot qrq zb8
def T9:Tab:=(147,FE qXQ q0b qiR)::T8
theorem zjB:qan IP T9:=⟨qam zdf,zb8⟩
abbrev qQg:Type:=Bool
def qXA:PArgs:=⟨[.int .i32],[]⟩
def qZV:List PRes:=[⟨false,.bool,[]⟩]
def qra(x0:Int):DT qQg:=
 .bi (qoc x0) (fun y0=>
 .bi (br y0 (some true) (br (sm (qiR x0)) (some (gv (qiR x0))) none)) (fun y1=>
 .bi (br y1 (some true) (some (x0==95))) (fun y2=>
 .at (y2))
 (.no))
 (.no))
 (.no)
def ql4(x0:Int):Option qQg:=qaz (qra x0).ev
theorem qNv(x0):ql4 x0=(qra x0).ev:=qaa _
theorem zcW:FH IP 146 qXA qZV ql4:=fh zos qra zjB
def T10:Tab:=(146,FE qXA qZV ql4)::T9
theorem qR3:qan IP T10:=⟨qam zcW,zjB⟩
abbrev qiE:Type:=List UInt8×Int
def qVK:List PSt:=[⟨[(1014000,.junk),(0,.str),(1,.fn (.func 146) []),(5,.int .i64)],[],0,0⟩]
def q7p(x0:List UInt8)(x1:Int):X×St:=(.exit 0,⟨[(0,.str x0),(5,.int .i64 x1)],[],0,0⟩)
def zns:List (qiE->X×St):=[(k2 q7p)]
def qv6(x0:List UInt8)(x1:Int):DT (Rd qiE):=
 .bi (br (decide (x1<(x0.length:Int)))
 (br (inB x0.length x1) (br (sm (ql4 (IntKind.i32.wrap (qak x0 x1)))) (some (gv (ql4 (IntKind.i32.wrap (qak x0 x1))))) none) none) (some false)) (fun y0=>
 .br (y0) (.at (.next ((x0,IntKind.i64.wrap (x1+1))))) (.at (.done 0)))
 (.no)
def qv5:qiE->DT (Rd qiE):=(fun v=>qv6 v.1 v.2)
def qKC(v:qiE):Option (Nat×qiE):=qaz (qaf (fun v=>(qv5 v).ev) v)
theorem qDv(v):qKC v=qaf (fun v=>(qv5 v).ev) v:=qaa _
def qWp:qbQ:=LE (τ:=qiE) (hD qVK) (qKC) zns
theorem zmJ:Go.Eng.Told IP (qad qCg 0).1 (qad qCg 0).2 (qWp):=lp (inferInstance:Inhabited qiE) (hs:=qVK) qv5 qR3 qDv
abbrev qP6:Type:=List UInt8
def qXn:PArgs:=⟨[.str,.fn (.func 146) []],[]⟩
def qZI:List PRes:=[⟨false,.str,[]⟩]
def qq0(x0:List UInt8):DT qP6:=
 .bi (pj 0 (qKC (x0,0))) (fun y0=>
 .br (leB y0.2 y0.1.length&&true) (.at (List.take y0.2.toNat y0.1)) (.no))
 (.no)
def qsW(x0:List UInt8):Option qP6:=qaz (qq0 x0).ev
theorem qNk(x0):qsW x0=(qq0 x0).ev:=qaa _
theorem zcI:FH IP 140 qXn qZI qsW:=qah (F:=qCg) (L:=[(1014000,qWp)]) (t:=qq0) qR3 (qac (l:=[qad qCg 0]) (by kernel_rfl) ⟨qau (by kernel_rfl) zmJ,trivial⟩) (by kernel_rfl) (fun v=>by kernel_rfl) (fun _=>qaa _)
def T11:Tab:=(140,FE qXn qZI qsW)::T10
theorem q77:qan IP T11:=⟨qam zcI,qR3⟩
abbrev qsn:Type:=List AV
def quN:PArgs:=⟨[],[]⟩
def qvf:List PRes:=[⟨false,.view 1,[]⟩]
def qfV:DT qsn:=
 .at ([AV.str ([]++[112]++[114]++[111]++[100]++[117]++[99]++[116]),AV.str ([]++[99]++[117]++[114]++[114]++[101]++[110]++[99]++[121]),
 AV.str ([]++[99]++[97]++[108]++[101]++[110]++[100]++[97]++[114]),AV.str ([]++[102]++[114]++[111]++[109]),
 AV.str ([]++[101]++[118]++[101]++[114]++[121]),AV.str ([]++[111]++[118]++[101]++[114]++[100]++[114]++[97]++[102]++[116]),
 AV.str ([]++[116]++[97]++[120]),AV.str ([]++[99]++[114]++[101]++[100]++[105]++[116]),AV.str ([]++[100]++[101]++[98]++[105]++[116]),
 AV.str ([]++[109]++[97]++[114]++[103]++[105]++[110]++[97]++[108]),AV.str ([]++[119]++[104]++[111]++[108]++[101]),
 AV.str ([]++[97]++[99]++[116]++[51]++[54]++[48]),AV.str ([]++[97]++[99]++[116]++[51]++[54]++[53]),
 AV.str ([]++[97]++[99]++[116]++[117]++[97]++[108]),AV.str ([]++[116]++[104]++[105]++[114]++[116]++[121]),
 AV.str ([]++[100]++[111]++[119]++[110]),AV.str ([]++[117]++[112]),AV.str ([]++[102]++[108]++[111]++[111]++[114]),
 AV.str ([]++[99]++[101]++[105]++[108]),AV.str ([]++[104]++[97]++[108]++[102]++[95]++[117]++[112]),
 AV.str ([]++[104]++[97]++[108]++[102]++[95]++[101]++[118]++[101]++[110]),AV.str ([]++[107]++[101]++[101]++[112]),
 AV.str ([]++[100]++[114]++[111]++[112]),AV.str ([]++[102]++[101]++[101]),AV.str ([]++[108]++[105]++[109]++[105]++[116]),
 AV.str ([]++[119]++[104]++[101]++[110]),AV.str ([]++[97]++[109]++[111]++[117]++[110]++[116]++[95]++[111]++[102]),
 AV.str ([]++[115]++[105]++[110]++[103]++[108]++[101]),AV.str ([]++[100]++[97]++[105]++[108]++[121]),
 AV.str ([]++[109]++[111]++[110]++[116]++[104]++[108]++[121]),AV.str ([]++[109]++[111]++[110]++[116]++[104]),
 AV.str ([]++[114]++[101]++[116]++[117]++[114]++[110]),AV.str ([]++[99]++[108]++[111]++[115]++[101]),
 AV.str ([]++[101]++[118]++[101]++[110]++[116]),AV.str ([]++[105]++[102]),AV.str ([]++[116]++[104]++[101]++[110]),
 AV.str ([]++[101]++[108]++[115]++[101]),AV.str ([]++[97]++[110]++[100]),AV.str ([]++[111]++[114]),AV.str ([]++[110]++[111]++[116]),
 AV.str ([]++[109]++[105]++[110]),AV.str ([]++[109]++[97]++[120])])
def qgr:Option qsn:=qaz (qfV).ev
theorem qoh:qgr=(qfV).ev:=qaa _
theorem qF3:FH IP 126 quN qvf (fun _=>qgr):=qah (F:=zbY) (L:=[]) (t:=(fun _=>qfV)) q77 (qac (l:=[]) (by kernel_rfl) trivial) (by kernel_rfl) (fun v=>by kernel_rfl) (fun _=>qaa _)
def T12:Tab:=(126,FE quN qvf (fun _=>qgr))::T11
theorem qSg:qan IP T12:=⟨qam qF3,q77⟩
abbrev qcp:Type:=List AV×List UInt8×Int×Int
def qtZ:List PSt:=[⟨[(1018600,.junk),(0,.view 1),(1,.str),(7,.int .i64),(8,.int .i64)],[],0,0⟩]
def qCe(x0:List AV)(x1:List UInt8)(x2 x3:Int):X×St:=(.ret,⟨[(4,.int .i64 x3)],[],0,0⟩)
def qCf(x0:List AV)(x1:List UInt8)(x2 x3:Int):X×St:=(.exit 0,⟨[(4,.junk)],[],0,0⟩)
def q2F:List (qcp->X×St):=[(k4 qCe),(k4 qCf)]
def qgN(x0:List AV)(x1:List UInt8)(x2 x3:Int):DT (Rd qcp):=
 .br (decide (x3<x2))
 (.br (qaH [.str] x0 x3)
 (.br (x1==strOf (cellAt x0 x3 0)) (.at (.done 0)) (.at (.next ((x0,x1,x2,IntKind.i64.wrap (x3+1))))))
 (.no))
 (.at (.done 1))
def qgM:qcp->DT (Rd qcp):=(fun v=>qgN v.1 v.2.1 v.2.2.1 v.2.2.2)
def qj2(v:qcp):Option (Nat×qcp):=qaz (qaf (fun v=>(qgM v).ev) v)
theorem qj3(v):qj2 v=qaf (fun v=>(qgM v).ev) v:=qaa _
def qur:qbQ:=LE (τ:=qcp) (hD qtZ) (qj2) q2F
theorem q1P:Go.Eng.Told IP (qad qMA 0).1 (qad qMA 0).2 (qur):=lp (inferInstance:Inhabited qcp) (hs:=qtZ) qgM qSg qj3
abbrev qCk:Type:=Int
def qDU:PArgs:=⟨[.view 1,.str],[]⟩
def qD9:List PRes:=[⟨false,.int .i64,[]⟩]
def qji(x0:List AV)(x1:List UInt8):DT qCk:=
 .bi (pj 0 (qj2 (x0,x1,(x0.length:Int),0))) (fun y0=>
 .at (y0.2.2.2))
 (.bi (pj 1 (qj2 (x0,x1,(x0.length:Int),0))) (fun y0=>
 .at (-1))
 (.no))
def qmV(x0:List AV)(x1:List UInt8):Option qCk:=qaz (qji x0 x1).ev
theorem qs3(x0 x1):qmV x0 x1=(qji x0 x1).ev:=qaa _
theorem qTB:FH IP 186 qDU qD9 (k2 qmV):=qah (F:=qMA) (L:=[(1018600,qur)]) (t:=(k2 qji)) qSg (qac (l:=[qad qMA 0]) (by kernel_rfl) ⟨qau (by kernel_rfl) q1P,trivial⟩) (by kernel_rfl) (fun v=>by kernel_rfl) (fun _=>qaa _)
def T13:Tab:=(186,FE qDU qD9 (k2 qmV))::T12
theorem q78:qan IP T13:=⟨qam qTB,qSg⟩
end
end Go.Proofs.H16
namespace Go.Proofs.H16
open Go Go.Eng
set_option maxRecDepth 100000
noncomputable section
abbrev qRR:Type:=Bool
def qY3:PArgs:=⟨[.view 1,.str],[]⟩
def q1n:List PRes:=[⟨false,.bool,[]⟩]
def qnT(x0:List AV)(x1:List UInt8):DT qRR:=
 .bi (qmV x0 x1) (fun y0=>
 .at (decide (y0>=0)))
 (.no)
def qtK(x0:List AV)(x1:List UInt8):Option qRR:=qaz (qnT x0 x1).ev
theorem qzx(x0 x1):qtK x0 x1=(qnT x0 x1).ev:=qaa _
theorem zey:FH IP 125 qY3 q1n (k2 qtK):=fh zbX (k2 qnT) q78
def T14:Tab:=(125,FE qY3 q1n (k2 qtK))::T13
theorem q79:qan IP T14:=⟨qam zey,q78⟩
abbrev qso:Type:=Bool
def quS:PArgs:=⟨[.str],[]⟩
def qvk:List PRes:=[⟨false,.bool,[]⟩]
def qfW(x0:List UInt8):DT qso:=
 .bi (qgr) (fun y0=>
 .bi (qtK y0 x0) (fun y1=>
 .at (y1))
 (.no))
 (.no)
def qbS(x0:List UInt8):Option qso:=qaz (qfW x0).ev
theorem qoj(x0):qbS x0=(qfW x0).ev:=qaa _
theorem qF4:FH IP 65 quS qvk qbS:=fh F65 qfW q79
def T15:Tab:=(65,FE quS qvk qbS)::T14
theorem q8a:qan IP T15:=⟨qam qF4,q79⟩
abbrev qPY:Type:=Bool
def qXf:PArgs:=⟨[.int .i32],[]⟩
def qZA:List PRes:=[⟨false,.bool,[]⟩]
def qqR(x0:Int):DT qPY:=
 .bi (ql4 x0) (fun y0=>
 .bi (br y0 (some true) (some (x0==46))) (fun y1=>
 .bi (br y1 (some true) (some (x0==37))) (fun y2=>
 .at (y2))
 (.no))
 (.no))
 (.no)
def qn8(x0:Int):Option qPY:=qaz (qqR x0).ev
theorem qNb(x0):qn8 x0=(qqR x0).ev:=qaa _
theorem zcz:FH IP 149 qXf qZA qn8:=fh zov qqR q8a
def T16:Tab:=(149,FE qXf qZA qn8)::T15
theorem qSE:qan IP T16:=⟨qam zcz,q8a⟩
abbrev qiF:Type:=List UInt8×Int
def qVL:List PSt:=[⟨[(1014000,.junk),(0,.str),(1,.fn (.func 149) []),(5,.int .i64)],[],0,0⟩]
def q7q(x0:List UInt8)(x1:Int):X×St:=(.exit 0,⟨[(0,.str x0),(5,.int .i64 x1)],[],0,0⟩)
def znt:List (qiF->X×St):=[(k2 q7q)]
def qv8(x0:List UInt8)(x1:Int):DT (Rd qiF):=
 .bi (br (decide (x1<(x0.length:Int)))
 (br (inB x0.length x1) (br (sm (qn8 (IntKind.i32.wrap (qak x0 x1)))) (some (gv (qn8 (IntKind.i32.wrap (qak x0 x1))))) none) none) (some false)) (fun y0=>
 .br (y0) (.at (.next ((x0,IntKind.i64.wrap (x1+1))))) (.at (.done 0)))
 (.no)
def qv7:qiF->DT (Rd qiF):=(fun v=>qv8 v.1 v.2)
def qKD(v:qiF):Option (Nat×qiF):=qaz (qaf (fun v=>(qv7 v).ev) v)
theorem qDw(v):qKD v=qaf (fun v=>(qv7 v).ev) v:=qaa _
def qWq:qbQ:=LE (τ:=qiF) (hD qVL) (qKD) znt
theorem zmK:Go.Eng.Told IP (qad qCg 0).1 (qad qCg 0).2 (qWq):=lp (inferInstance:Inhabited qiF) (hs:=qVL) qv7 qSE qDw
abbrev qP7:Type:=List UInt8
def qXo:PArgs:=⟨[.str,.fn (.func 149) []],[]⟩
def qZJ:List PRes:=[⟨false,.str,[]⟩]
def qq1(x0:List UInt8):DT qP7:=
 .bi (pj 0 (qKD (x0,0))) (fun y0=>
 .br (leB y0.2 y0.1.length&&true) (.at (List.take y0.2.toNat y0.1)) (.no))
 (.no)
def qsX(x0:List UInt8):Option qP7:=qaz (qq1 x0).ev
theorem qNl(x0):qsX x0=(qq1 x0).ev:=qaa _
theorem zcJ:FH IP 140 qXo qZJ qsX:=qah (F:=qCg) (L:=[(1014000,qWq)]) (t:=qq1) qSE (qac (l:=[qad qCg 0]) (by kernel_rfl) ⟨qau (by kernel_rfl) zmK,trivial⟩) (by kernel_rfl) (fun v=>by kernel_rfl) (fun _=>qaa _)
def T17:Tab:=(140,FE qXo qZJ qsX)::T16
theorem qSJ:qan IP T17:=⟨qam zcJ,qSE⟩
abbrev qeZ:Type:=List UInt8×Int
def qJs:List PSt:=[⟨[(1014000,.junk),(0,.str),(1,.fn (.func 147) []),(5,.int .i64)],[],0,0⟩]
def q2p(x0:List UInt8)(x1:Int):X×St:=(.exit 0,⟨[(0,.str x0),(5,.int .i64 x1)],[],0,0⟩)
def zhf:List (qeZ->X×St):=[(k2 q2p)]
def qo2(x0:List UInt8)(x1:Int):DT (Rd qeZ):=
 .bi (br (decide (x1<(x0.length:Int)))
 (br (inB x0.length x1) (br (sm (qiR (IntKind.i32.wrap (qak x0 x1)))) (some (gv (qiR (IntKind.i32.wrap (qak x0 x1))))) none) none) (some false)) (fun y0=>
 .br (y0) (.at (.next ((x0,IntKind.i64.wrap (x1+1))))) (.at (.done 0)))
 (.no)
def qnn:qeZ->DT (Rd qeZ):=(fun v=>qo2 v.1 v.2)
def qzE(v:qeZ):Option (Nat×qeZ):=qaz (qaf (fun v=>(qnn v).ev) v)
theorem qxn(v):qzE v=qaf (fun v=>(qnn v).ev) v:=qaa _
def qKG:qbQ:=LE (τ:=qeZ) (hD qJs) (qzE) zhf
theorem zf7:Go.Eng.Told IP (qad qCg 0).1 (qad qCg 0).2 (qKG):=lp (inferInstance:Inhabited qeZ) (hs:=qJs) qnn qSJ qxn
abbrev qP8:Type:=List UInt8
def qXp:PArgs:=⟨[.str,.fn (.func 147) []],[]⟩
def qZK:List PRes:=[⟨false,.str,[]⟩]
def qq2(x0:List UInt8):DT qP8:=
 .bi (pj 0 (qzE (x0,0))) (fun y0=>
 .br (leB y0.2 y0.1.length&&true) (.at (List.take y0.2.toNat y0.1)) (.no))
 (.no)
def qhv(x0:List UInt8):Option qP8:=qaz (qq2 x0).ev
theorem qNm(x0):qhv x0=(qq2 x0).ev:=qaa _
theorem zcK:FH IP 140 qXp qZK qhv:=qah (F:=qCg) (L:=[(1014000,qKG)]) (t:=qq2) qSJ (qac (l:=[qad qCg 0]) (by kernel_rfl) ⟨qau (by kernel_rfl) zf7,trivial⟩) (by kernel_rfl) (fun v=>by kernel_rfl) (fun _=>qaa _)
def T18:Tab:=(140,FE qXp qZK qhv)::T17
theorem q8b:qan IP T18:=⟨qam zcK,qSJ⟩
abbrev qP5:Type:=Bool
def qXm:PArgs:=⟨[.str],[]⟩
def qZH:List PRes:=[⟨false,.bool,[]⟩]
def qqZ(x0:List UInt8):DT qP5:=
 .bi (br (!x0== []) (br (sm (qhv x0)) (some (gv (qhv x0)==x0)) none) (some false)) (fun y0=>
 .bi (br y0 (br ((x0.length:Int)==1) (some true) (br (inB x0.length 0) (some (qak x0 0 != 48)) none)) (some false)) (fun y1=>
 .at (y1))
 (.no))
 (.no)
def ql1(x0:List UInt8):Option qP5:=qaz (qqZ x0).ev
theorem qNj(x0):ql1 x0=(qqZ x0).ev:=qaa _
theorem zcH:FH IP 200 qXm qZH ql1:=fh zoN qqZ q8b
def T19:Tab:=(200,FE qXm qZH ql1)::T18
theorem q8c:qan IP T19:=⟨qam zcH,q8b⟩
abbrev zjn:Type:=Bool
def zlP:PArgs:=⟨[.str,.str],[]⟩
def zl2:List PRes:=[⟨false,.bool,[]⟩]
def qMt(x0 x1:List UInt8):DT zjn:=
 .bi (br (decide ((x0.length:Int)>=(x1.length:Int)))
 (br (leB (IntKind.i64.wrap ((x0.length:Int)-(x1.length:Int))) x0.length) (some (List.drop (IntKind.i64.wrap ((x0.length:Int)-(x1.length:Int))).toNat x0==x1))
 none)
 (some false)) (fun y0=>
 .at (y0))
 (.no)
def q4Y(x0 x1:List UInt8):Option zjn:=qaz (qMt x0 x1).ev
theorem q4Z(x0 x1):q4Y x0 x1=(qMt x0 x1).ev:=qaa _
theorem zpD:FH IP 265 zlP zl2 (k2 q4Y):=fh zoZ (k2 qMt) q8c
def T20:Tab:=(265,FE zlP zl2 (k2 q4Y))::T19
theorem q8d:qan IP T20:=⟨qam zpD,q8c⟩
abbrev zjl:Type:=List UInt8×Bool
def zlN:PArgs:=⟨[.str,.str],[]⟩
def zl0:List PRes:=[⟨false,.tup [.str,.bool],[]⟩]
def qMr(x0 x1:List UInt8):DT zjl:=
 .bi (q4Y x0 x1) (fun y0=>
 .br (!y0)
 (.at ((x0,false)))
 (.br (leB (IntKind.i64.wrap ((x0.length:Int)-(x1.length:Int))) x0.length&&true)
 (.at ((List.take (IntKind.i64.wrap ((x0.length:Int)-(x1.length:Int))).toNat x0,true)))
 (.no)))
 (.no)
def q4U(x0 x1:List UInt8):Option zjl:=qaz (qMr x0 x1).ev
theorem q4V(x0 x1):q4U x0 x1=(qMr x0 x1).ev:=qaa _
theorem zpB:FH IP 239 zlN zl0 (k2 q4U):=fh zoS (k2 qMr) q8d
def T21:Tab:=(239,FE zlN zl0 (k2 q4U))::T20
theorem q8e:qan IP T21:=⟨qam zpB,q8d⟩
abbrev q7X:Type:=List UInt8×Bool
def zaG:PArgs:=⟨[.str,.str],[]⟩
def zby:List PRes:=[⟨false,.tup [.str,.bool],[]⟩]
def qBZ(x0 x1:List UInt8):DT q7X:=
 .bi (q4U x0 x1) (fun y0=>
 .at ((y0)))
 (.no)
def qCX(x0 x1:List UInt8):Option q7X:=qaz (qBZ x0 x1).ev
theorem qU0(x0 x1):qCX x0 x1=(qBZ x0 x1).ev:=qaa _
theorem zkv:FH IP 206 zaG zby (k2 qCX):=fh zoO (k2 qBZ) q8e
def T22:Tab:=(206,FE zaG zby (k2 qCX))::T21
theorem q8f:qan IP T22:=⟨qam zkv,q8e⟩
abbrev q7s:Type:=Int
def q94:PArgs:=⟨[.str,.str],[]⟩
def zaV:List PRes:=[⟨false,.int .i64,[]⟩]
def qAY(x0 x1:List UInt8):DT q7s:=
 .bi (br ((x1.length:Int)==0) (some true) (some (x1==x0))) (fun y0=>
 .br (y0)
 (.at (0))
 (.br ((x1.length:Int)==1)
 (.br (inB x1.length 0) (.at (Lib.indexByte x0 (qak x1 0).toNat.toUInt8)) (.no))
 (.br (decide ((x1.length:Int)>=(x0.length:Int))) (.at (-1)) (.no))))
 (.no)
def qCP(x0 x1:List UInt8):Option q7s:=qaz (qAY x0 x1).ev
theorem qUk(x0 x1):qCP x0 x1=(qAY x0 x1).ev:=qaa _
theorem zjQ:FH IP 199 q94 zaV (k2 qCP):=qah (F:=znD) (L:=[]) (t:=(k2 qAY)) q8f (qac (l:=[qad znD 0]) (by kernel_rfl) ⟨qMh (by kernel_rfl),trivial⟩) (by kernel_rfl) (fun v=>by kernel_rfl) (fun _=>qaa _)
def T23:Tab:=(199,FE q94 zaV (k2 qCP))::T22
theorem q8g:qan IP T23:=⟨qam zjQ,q8f⟩
abbrev q7u:Type:=List UInt8×List UInt8×Bool
def q96:PArgs:=⟨[.str,.str],[]⟩
def zaX:List PRes:=[⟨false,.tup [.str,.str,.bool],[]⟩]
def qA3(x0 x1:List UInt8):DT q7u:=
 .bi (qCP x0 x1) (fun y0=>
 .br (decide (y0>=0))
 (.br (leB y0 x0.length&&true)
 (.br (leB (IntKind.i64.wrap (y0+(x1.length:Int))) x0.length)
 (.at ((List.take y0.toNat x0,List.drop (IntKind.i64.wrap (y0+(x1.length:Int))).toNat x0,true)))
 (.no))
 (.no))
 (.at ((x0,[],false))))
 (.no)
def qJg(x0 x1:List UInt8):Option q7u:=qaz (qA3 x0 x1).ev
theorem qUo(x0 x1):qJg x0 x1=(qA3 x0 x1).ev:=qaa _
theorem zjS:FH IP 240 q96 zaX (k2 qJg):=fh zoT (k2 qA3) q8g
def T24:Tab:=(240,FE q96 zaX (k2 qJg))::T23
theorem q8h:qan IP T24:=⟨qam zjS,q8g⟩
abbrev qQt:Type:=List UInt8×List UInt8×Bool
def qXP:PArgs:=⟨[.str,.str],[]⟩
def q0a:List PRes:=[⟨false,.tup [.str,.str,.bool],[]⟩]
def qrp(x0 x1:List UInt8):DT qQt:=
 .bi (qJg x0 x1) (fun y0=>
 .at ((y0)))
 (.no)
def qtc(x0 x1:List UInt8):Option qQt:=qaz (qrp x0 x1).ev
theorem qNK(x0 x1):qtc x0 x1=(qrp x0 x1).ev:=qaa _
theorem zde:FH IP 207 qXP q0a (k2 qtc):=fh zoP (k2 qrp) q8h
def T25:Tab:=(207,FE qXP q0a (k2 qtc))::T24
theorem qSZ:qan IP T25:=⟨qam zde,q8h⟩
abbrev qfj:Type:=List UInt8×List UInt8
def qJQ:List PSt:=[⟨[(1015600,.junk),(6,.str),(7,.str)],[],0,0⟩]
def q29(x0 x1:List UInt8):X×St:=(.exit 0,⟨[(6,.str x0),(7,.str x1)],[],0,0⟩)
def zhD:List (qfj->X×St):=[(k2 q29)]
def qpd(x0 x1:List UInt8):DT (Rd qfj):=
 .br (decide ((x1.length:Int)<4))
 (.br (decide (x1.length+1<=4611686018427387904)) (.at (.next ((x0,x1++[48])))) (.no))
 (.at (.done 0))
def qlk:qfj->DT (Rd qfj):=(fun v=>qpd v.1 v.2)
def qzP(v:qfj):Option (Nat×qfj):=qaz (qaf (fun v=>(qlk v).ev) v)
theorem qxz(v):qzP v=qaf (fun v=>(qlk v).ev) v:=qaa _
def qK4:qbQ:=LE (τ:=qfj) (hD qJQ) (qzP) zhD
theorem zgv:Go.Eng.Told IP (qad zit 0).1 (qad zit 0).2 (qK4):=lp (inferInstance:Inhabited qfj) (hs:=qJQ) qlk qSZ qxz
abbrev qQP:Type:=Int×Int
def qYb:PArgs:=⟨[.str],[]⟩
def q0w:List PRes:=[⟨false,.tup [.int .i64,.int .i64],[]⟩]
def qrE(x0:List UInt8):DT qQP:=
 .bi (qCX x0 [37]) (fun y0=>
 .bi (qtc y0.1 [46]) (fun y1=>
 .bi (br (!y0.2) (some true) (br (sm (ql1 y1.1)) (some !gv (ql1 y1.1)) none)) (fun y2=>
 .bi (br y2 (some true)
 (br y1.2.2
 (br (y1.2.1== []) (some true)
 (br (decide ((y1.2.1.length:Int)>4)) (some true)
 (br (sm (qhv y1.2.1))
 (br (!gv (qhv y1.2.1)==y1.2.1) (some true)
 (br (inB y1.2.1.length (IntKind.i64.wrap ((y1.2.1.length:Int)-1))) (some (qak y1.2.1 (IntKind.i64.wrap ((y1.2.1.length:Int)-1))==48))
 none))
 none)))
 (some false))) (fun y3=>
 .br (y3)
 (.at ((0,2)))
 (.br (decide ((y1.1.length:Int)>3))
 (.at ((0,1)))
 (.bi (pj 0 (qzP (y1.1,y1.2.1))) (fun y4=>
 .br (decide (y4.1.length+y4.2.length<=4611686018427387904))
 (.br (pOk (y4.1++y4.2)&&nOk (Lib.atoiAll (y4.1++y4.2)))
 (.br (decide (qPP (Lib.atoiAll (y4.1++y4.2))>1000000)) (.at ((0,1))) (.at ((qPP (Lib.atoiAll (y4.1++y4.2)),0))))
 (.br (pOk (y4.1++y4.2)&&qh5 (Lib.atoiAll (y4.1++y4.2)))
 (.br (decide (Lib.atoiSat (y4.1++y4.2)>1000000)) (.at ((0,1))) (.at ((Lib.atoiSat (y4.1++y4.2),0))))
 (.br (pOk (y4.1++y4.2)&&qdo (Lib.atoiAll (y4.1++y4.2))) (.at ((0,0))) (.no))))
 (.no))
 (.no))))
 (.no))
 (.no))
 (.no))
 (.no)
def qjS(x0:List UInt8):Option qQP:=qaz (qrE x0).ev
theorem qNZ(x0):qjS x0=(qrE x0).ev:=qaa _
theorem zdC:FH IP 156 qYb q0w qjS:=qah (F:=zit) (L:=[(1015600,qK4)]) (t:=qrE) qSZ (qac (l:=[qad zit 0]) (by kernel_rfl) ⟨qau (by kernel_rfl) zgv,trivial⟩) (by kernel_rfl) (fun v=>by kernel_rfl) (fun _=>qaa _)
def T26:Tab:=(156,FE qYb q0w qjS)::T25
theorem q8i:qan IP T26:=⟨qam zdC,qSZ⟩
abbrev qQi:Type:=Int×Int×List UInt8×Int
def qXC:PArgs:=⟨[.str],[]⟩
def qZX:List PRes:=[⟨false,.tup [.agg [.int .i64,.int .i64,.str],.int .i64],[]⟩]
def qrc(x0:List UInt8):DT qQi:=
 .bi (ql1 x0) (fun y0=>
 .br (y0)
 (.br (pOk x0&&nOk (Lib.parseIntB 64 x0))
 (.at ((2,0,x0,0)))
 (.br (pOk x0&&qh5 (Lib.parseIntB 64 x0))
 (.at ((0,0,[],6)))
 (.br (pOk x0&&qdo (Lib.parseIntB 64 x0)) (.at ((0,0,[],6))) (.no))))
 (.bi (qjS x0) (fun y1=>
 .br (y1.2==0)
 (.at ((3,0,x0,0)))
 (.br (y1.2==1) (.at ((0,0,[],6))) (.at ((0,0,[],2)))))
 (.no)))
 (.no)
def qs6(x0:List UInt8):Option qQi:=qaz (qrc x0).ev
theorem qNx(x0):qs6 x0=(qrc x0).ev:=qaa _
theorem zcY:FH IP 148 qXC qZX qs6:=fh zou qrc q8i
def T27:Tab:=(148,FE qXC qZX qs6)::T26
theorem q8j:qan IP T27:=⟨qam zcY,q8i⟩
abbrev qQv:Type:=List AV
def qXR:PArgs:=⟨[],[]⟩
def q0c:List PRes:=[⟨false,.view 1,[]⟩]
def qrr:DT qQv:=
 .at ([AV.str ([]++[61]++[61]),AV.str ([]++[33]++[61]),AV.str ([]++[60]++[61]),AV.str ([]++[123]),AV.str ([]++[125]),AV.str ([]++[40]),AV.str ([]++[41]),
 AV.str ([]++[44]),AV.str ([]++[59]),AV.str ([]++[58]),AV.str ([]++[36]),AV.str ([]++[43]),AV.str ([]++[45]),AV.str ([]++[42]),AV.str ([]++[47]),
 AV.str ([]++[60])])
def qte:Option qQv:=qaz (qrr).ev
theorem qNM:qte=(qrr).ev:=qaa _
theorem zdg:FH IP 150 qXR q0c (fun _=>qte):=qah (F:=zow) (L:=[]) (t:=(fun _=>qrr)) q8j (qac (l:=[]) (by kernel_rfl) trivial) (by kernel_rfl) (fun v=>by kernel_rfl) (fun _=>qaa _)
def T28:Tab:=(150,FE qXR q0c (fun _=>qte))::T27
theorem q8k:qan IP T28:=⟨qam zdg,q8j⟩
abbrev zjm:Type:=Bool
def zlO:PArgs:=⟨[.str,.str],[]⟩
def zl1:List PRes:=[⟨false,.bool,[]⟩]
def qMs(x0 x1:List UInt8):DT zjm:=
 .bi (br (decide ((x0.length:Int)>=(x1.length:Int))) (br (leB (x1.length:Int) x0.length&&true) (some (List.take (x1.length:Int).toNat x0==x1)) none) (some false)) (fun y0=>
 .at (y0))
 (.no)
def q4W(x0 x1:List UInt8):Option zjm:=qaz (qMs x0 x1).ev
theorem q4X(x0 x1):q4W x0 x1=(qMs x0 x1).ev:=qaa _
theorem zpC:FH IP 190 zlO zl1 (k2 q4W):=fh zoG (k2 qMs) q8k
def T29:Tab:=(190,FE zlO zl1 (k2 q4W))::T28
theorem q8l:qan IP T29:=⟨qam zpC,q8k⟩
abbrev q7Y:Type:=Bool
def zaH:PArgs:=⟨[.str,.str],[]⟩
def zbz:List PRes:=[⟨false,.bool,[]⟩]
def qB0(x0 x1:List UInt8):DT q7Y:=
 .bi (q4W x0 x1) (fun y0=>
 .at (y0))
 (.no)
def qCY(x0 x1:List UInt8):Option q7Y:=qaz (qB0 x0 x1).ev
theorem qU1(x0 x1):qCY x0 x1=(qB0 x0 x1).ev:=qaa _
theorem zkw:FH IP 129 zaH zbz (k2 qCY):=fh zon (k2 qB0) q8l
def T30:Tab:=(129,FE zaH zbz (k2 qCY))::T29
theorem qS0:qan IP T30:=⟨qam zkw,q8l⟩
abbrev qfk:Type:=List UInt8×List AV×Int×Int×Int×Int×List UInt8
def qJR:List PSt:=[⟨[(1008800,.junk),(0,.str),(2,.ref 0 0 0),(34,.view 1),(35,.int .i64),(36,.int .i64)],[(0,.box [.int .i64,.int .i64,.str] false)],1,0⟩]
def q3a(x0:List UInt8)(x1:List AV)(x2 x3:Int)(x4 x5:Int)(x6:List UInt8):X×St:=(.ret,
 ⟨[(2,.ref 0 0 0),(3,.int .i64 0)],[(0,.box [.int .i64 4,.int .i64 0,.str (strOf (cellAt x1 x3 0))] false)],1,0⟩)
def q3b(x0:List UInt8)(x1:List AV)(x2 x3:Int)(x4 x5:Int)(x6:List UInt8):X×St:=(.exit 1,⟨[(2,.ref 0 0 0),(3,.junk)],[(0,.box [.int .i64 x4,.int .i64 x5,.str x6] false)],1,0⟩)
def zhE:List (qfk->X×St):=[(k7 q3a),(k7 q3b)]
def qpe(x0:List UInt8)(x1:List AV)(x2 x3:Int)(x4 x5:Int)(x6:List UInt8):DT (Rd qfk):=
 .br (decide (x3<x2))
 (.br (qaH [.str] x1 x3)
 (.bi (qCY x0 (strOf (cellAt x1 x3 0))) (fun y0=>
 .br (y0) (.at (.done 0)) (.at (.next ((x0,x1,x2,IntKind.i64.wrap (x3+1),x4,x5,x6)))))
 (.no))
 (.no))
 (.at (.done 1))
def qnu:qfk->DT (Rd qfk):=(fun v=>qpe v.1 v.2.1 v.2.2.1 v.2.2.2.1 v.f.1 v.f.2.1 v.f.2.2)
def qud(v:qfk):Option (Nat×qfk):=qaz (qaf (fun v=>(qnu v).ev) v)
theorem qxA(v):qud v=qaf (fun v=>(qnu v).ev) v:=qaa _
def qK5:qbQ:=LE (τ:=qfk) (hD qJR) (qud) zhE
theorem zgw:Go.Eng.Told IP (qad F88 0).1 (qad F88 0).2 (qK5):=lp (inferInstance:Inhabited qfk) (hs:=qJR) qnu qS0 qxA
abbrev qQQ:Type:=Int×Int×List UInt8×Int
def qYc:PArgs:=⟨[.str],[]⟩
def q0x:List PRes:=[⟨false,.tup [.agg [.int .i64,.int .i64,.str],.int .i64],[]⟩]
def qrF(x0:List UInt8):DT qQQ:=
 .br (inB x0.length 0)
 (.bi (qoc (IntKind.i32.wrap (qak x0 0))) (fun y0=>
 .br (y0)
 (.bi (qsW x0) (fun y1=>
 .bi (qbS y1) (fun y2=>
 .br (y2)
 (.at ((5,0,y1,0)))
 (.br (decide ((y1.length:Int)>16)) (.at ((0,0,[],4))) (.at ((1,0,y1,0)))))
 (.no))
 (.no))
 (.bi (qiR (IntKind.i32.wrap (qak x0 0))) (fun y1=>
 .br (y1)
 (.bi (qsX x0) (fun y2=>
 .bi (qs6 y2) (fun y3=>
 .at ((y3)))
 (.no))
 (.no))
 (.bi (qte) (fun y2=>
 .bi (pj 0 (qud (x0,y2,(y2.length:Int),0,0,0,[]))) (fun y3=>
 .at ((4,0,strOf (cellAt y3.2.1 y3.2.2.2.1 0),0)))
 (.bi (pj 1 (qud (x0,y2,(y2.length:Int),0,0,0,[]))) (fun y3=>
 .at ((0,0,[],2)))
 (.no)))
 (.no)))
 (.no)))
 (.no))
 (.no)
def qeP(x0:List UInt8):Option qQQ:=qaz (qrF x0).ev
theorem qN0(x0):qeP x0=(qrF x0).ev:=qaa _
theorem zdD:FH IP 88 qYc q0x qeP:=qah (F:=F88) (L:=[(1008800,qK5)]) (t:=qrF) qS0 (qac (l:=[qad F88 0]) (by kernel_rfl) ⟨qau (by kernel_rfl) zgw,trivial⟩) (by kernel_rfl) (fun v=>by kernel_rfl) (fun _=>qaa _)
def T31:Tab:=(88,FE qYc q0x qeP)::T30
theorem qS1:qan IP T31:=⟨qam zdD,qS0⟩
abbrev qeL:Type:=(List UInt8×Int)⊕(List UInt8×Int×List AV)
def qVI:List PSt:=[⟨[(1003900,.junk),(0,.str),(5,.nils 3),(6,.int .i64)],[],0,0⟩,⟨[(1003900,.junk),(0,.str),(5,.own 0 0),(6,.int .i64)],[(0,.arr 3 false)],1,0⟩]
def q7f(x0:List UInt8)(x1:Int):X×St:=(.ret,⟨[(2,.nils ⟨3,.nil⟩),(3,.int .i64 0),(4,.int .i64 0)],[],0,0⟩)
def q7g(x0:List UInt8)(x1:Int):X×St:=(.ret,
 ⟨[(2,.nils ⟨3,.nil⟩),(3,.int .i64 (IntKind.i64.wrap (x1+((Lib.countByte (List.take (gv (qcr x0)).toNat x0) 10):Int)))),
 (4,.int .i64 (gv (qeP (List.drop (gv (qcr x0)).toNat x0))).2.2.2)],[],0,0⟩)
def q7h(x0:List UInt8)(x1:Int)(x2:List AV):X×St:=(.ret,⟨[(2,.own 0 0 none),(3,.int .i64 0),(4,.int .i64 0)],[(0,.arr 3 x2 false)],1,0⟩)
def q7i(x0:List UInt8)(x1:Int)(x2:List AV):X×St:=(.ret,
 ⟨[(2,.nils ⟨3,.nil⟩),(3,.int .i64 (IntKind.i64.wrap (x1+((Lib.countByte (List.take (gv (qcr x0)).toNat x0) 10):Int)))),
 (4,.int .i64 (gv (qeP (List.drop (gv (qcr x0)).toNat x0))).2.2.2)],[],0,0⟩)
def znq:List (qeL->X×St):=[fun w=>(k2 q7f) ((sl w)),fun w=>(k2 q7g) ((sl w)),fun w=>(k3 q7h) ((sr w)),fun w=>(k3 q7i) ((sr w))]
def qnG(x0:List UInt8)(x1:Int):DT (Rd qeL):=
 .bi (qcr x0) (fun y0=>
 .br (leB y0 x0.length&&true)
 (.br (leB y0 x0.length)
 (.br (List.drop y0.toNat x0== [])
 (.at (.done 0))
 (.bi (qeP (List.drop y0.toNat x0)) (fun y1=>
 .br (y1.2.2.2 != 0)
 (.at (.done 1))
 (.br (leB (y1.2.2.1.length:Int) (List.drop y0.toNat x0).length)
 (.at (.next ((.inr (List.drop (y1.2.2.1.length:Int).toNat (List.drop y0.toNat x0),IntKind.i64.wrap (x1+((Lib.countByte (List.take y0.toNat x0) 10):Int)),[AV.agg [.int .i64 y1.1,.int .i64 (IntKind.i64.wrap (x1+((Lib.countByte (List.take y0.toNat x0) 10):Int))),AV.str y1.2.2.1]])))))
 (.no)))
 (.no)))
 (.no))
 (.no))
 (.no)
def qnH(x0:List UInt8)(x1:Int)(x2:List AV):DT (Rd qeL):=
 .bi (qcr x0) (fun y0=>
 .br (leB y0 x0.length&&true)
 (.br (leB y0 x0.length)
 (.br (List.drop y0.toNat x0== [])
 (.at (.done 2))
 (.bi (qeP (List.drop y0.toNat x0)) (fun y1=>
 .br (y1.2.2.2 != 0)
 (.at (.done 3))
 (.br (room (x2.length+1) 32)
 (.br (leB (y1.2.2.1.length:Int) (List.drop y0.toNat x0).length)
 (.at (.next ((.inr (List.drop (y1.2.2.1.length:Int).toNat (List.drop y0.toNat x0),IntKind.i64.wrap (x1+((Lib.countByte (List.take y0.toNat x0) 10):Int)),x2++[AV.agg [.int .i64 y1.1,.int .i64 (IntKind.i64.wrap (x1+((Lib.countByte (List.take y0.toNat x0) 10):Int))),AV.str y1.2.2.1]])))))
 (.no))
 (.no)))
 (.no)))
 (.no))
 (.no))
 (.no)
def qhI:qeL->DT (Rd qeL):=(Sum.elim (fun v=>qnG v.1 v.2) (fun v=>qnH v.1 v.2.1 v.2.2))
def qpW(v:qeL):Option (Nat×qeL):=qaz (qaf (fun v=>(qhI v).ev) v)
theorem qun(v):qpW v=qaf (fun v=>(qhI v).ev) v:=qaa _
def qWn:qbQ:=LE (τ:=qeL) (hD qVI) (qpW) znq
theorem zmH:Go.Eng.Told IP (qad F39 0).1 (qad F39 0).2 (qWn):=qav (inferInstance:Inhabited qeL) (hs:=qVI) (st:=qhI) (L:=[]) qS1 (qac (l:=[]) (by kernel_rfl) trivial) (qun) (fun v=>match v with|(.inl v)=>by kernel_rfl|(.inr v)=>by kernel_rfl) (fun v=>match v with|(.inl v)=>by kernel_rfl|(.inr v)=>by kernel_rfl)
abbrev qE0:Type:=List AV×Int×Int
def qXd:PArgs:=⟨[.str],[]⟩
def qZy:List PRes:=[⟨false,.tup [.view 3,.int .i64,.int .i64],[]⟩]
def qqP(x0:List UInt8):DT qE0:=
 .br (decide ((x0.length:Int)>2048))
 (.at (([],0,5)))
 (.bi (pj 0 (qpW (Sum.inl (x0,1)))) (fun y0=>
 .at (([],0,0)))
 (.bi (pj 1 (qpW (Sum.inl (x0,1)))) (fun y0=>
 .at (([],IntKind.i64.wrap ((sl y0).2+((Lib.countByte (List.take (gv (qcr (sl y0).1)).toNat (sl y0).1) 10):Int)),(gv (qeP (List.drop (gv (qcr (sl y0).1)).toNat (sl y0).1))).2.2.2)))
 (.bi (pj 2 (qpW (Sum.inl (x0,1)))) (fun y0=>
 .at (((sr y0).2.2,0,0)))
 (.bi (pj 3 (qpW (Sum.inl (x0,1)))) (fun y0=>
 .at (([],IntKind.i64.wrap ((sr y0).2.1+((Lib.countByte (List.take (gv (qcr (sr y0).1)).toNat (sr y0).1) 10):Int)),(gv (qeP (List.drop (gv (qcr (sr y0).1)).toNat (sr y0).1))).2.2.2)))
 (.no)))))
def qjL(x0:List UInt8):Option qE0:=qaz (qqP x0).ev
theorem qM9(x0):qjL x0=(qqP x0).ev:=qaa _
theorem zcx:FH IP 39 qXd qZy qjL:=qah (F:=F39) (L:=[(1003900,qWn)]) (t:=qqP) qS1 (qac (l:=[qad F39 0]) (by kernel_rfl) ⟨qau (by kernel_rfl) zmH,trivial⟩) (by kernel_rfl) (fun v=>by kernel_rfl) (fun _=>qaa _)
def T32:Tab:=(39,FE qXd qZy qjL)::T31
theorem q8m:qan IP T32:=⟨qam zcx,qS1⟩
abbrev q7R:Type:=Bool×List AV×Int×Int×Int
def zaA:PArgs:=⟨[.ref 0 0 0,.int .i64],[(0,.box [.view 3,.int .i64,.int .i64,.int .i64] false)]⟩
def zbs:List PRes:=[⟨false,.bool,[(0,.box [.view 3,.int .i64,.int .i64,.int .i64] false)]⟩]
def qBS(x0:Int)(x1:List AV)(x2 x3 x4:Int):DT q7R:=
 .br (x3==0)
 (.br (decide (x2<(x1.length:Int)))
 (.br (qaH [.int .i64,.int .i64,.str] x1 x2) (.at ((intOf (cellAt x1 x2 0)==x0,x1,x2,x3,x4))) (.no))
 (.at ((false,x1,x2,x3,x4))))
 (.at ((false,x1,x2,x3,x4)))
def qtI(x0:Int)(x1:List AV)(x2 x3 x4:Int):Option q7R:=qaz (qBS x0 x1 x2 x3 x4).ev
theorem qUT(x0 x1 x2 x3 x4):qtI x0 x1 x2 x3 x4=(qBS x0 x1 x2 x3 x4).ev:=qaa _
theorem zko:FH IP 151 zaA zbs (k5 qtI):=fh zox (k5 qBS) q8m
def T33:Tab:=(151,FE zaA zbs (k5 qtI))::T32
theorem q8n:qan IP T33:=⟨qam zko,q8m⟩
abbrev qRD:Type:=Bool×List AV×Int×Int×Int
def zac:PArgs:=⟨[.ref 0 0 0,.str],[(0,.box [.view 3,.int .i64,.int .i64,.int .i64] false)]⟩
def za4:List PRes:=[⟨false,.bool,[(0,.box [.view 3,.int .i64,.int .i64,.int .i64] false)]⟩]
def qBw(x0:List UInt8)(x1:List AV)(x2 x3 x4:Int):DT qRD:=
 .bi (qtI 5 x1 x2 x3 x4) (fun y0=>
 .br (!y0.1)
 (.bi (qtI 4 y0.2.1 y0.2.2.1 y0.2.2.2.1 y0.f) (fun y1=>
 .br (!y1.1)
 (.at ((false,y1.2)))
 (.br (qaH [.int .i64,.int .i64,.str] y1.2.1 y1.2.2.1)
 (.br (!strOf (cellAt y1.2.1 y1.2.2.1 2)==x0)
 (.at ((false,y1.2)))
 (.at ((true,y1.2.1,IntKind.i64.wrap (y1.2.2.1+1),y1.2.2.2))))
 (.no)))
 (.no))
 (.br (qaH [.int .i64,.int .i64,.str] y0.2.1 y0.2.2.1)
 (.br (!strOf (cellAt y0.2.1 y0.2.2.1 2)==x0)
 (.at ((false,y0.2)))
 (.at ((true,y0.2.1,IntKind.i64.wrap (y0.2.2.1+1),y0.2.2.2))))
 (.no)))
 (.no)
def qap(x0:List UInt8)(x1:List AV)(x2 x3 x4:Int):Option qRD:=qaz (qBw x0 x1 x2 x3 x4).ev
theorem qUx(x0 x1 x2 x3 x4):qap x0 x1 x2 x3 x4=(qBw x0 x1 x2 x3 x4).ev:=qaa _
theorem zjY:FH IP 96 zac za4 (k5 qap):=fh F96 (k5 qBw) q8n
def T34:Tab:=(96,FE zac za4 (k5 qap))::T33
theorem q8o:qan IP T34:=⟨qam zjY,q8n⟩
abbrev qRJ:Type:=List AV×Int×Int×Int
def zap:PArgs:=⟨[.ref 0 0 0,.int .i64,.int .i64],[(0,.box [.view 3,.int .i64,.int .i64,.int .i64] false)]⟩
def zbh:List PRes:=[⟨false,.tup [],[(0,.box [.view 3,.int .i64,.int .i64,.int .i64] false)]⟩]
def qwj(x0 x1:Int)(x2:List AV)(x3 x4 x5:Int):DT qRJ:=
 .br (x4 != 0)
 (.at ((x2,x3,x4,x5)))
 (.br (decide ((x2.length:Int)>0))
 (.br (qaH [.int .i64,.int .i64,.str] x2 (if IntKind.i64.wrap ((x2.length:Int)-1)<x1 then IntKind.i64.wrap ((x2.length:Int)-1)else x1))
 (.at ((x2,x3,x0,intOf (cellAt x2 (if IntKind.i64.wrap ((x2.length:Int)-1)<x1 then IntKind.i64.wrap ((x2.length:Int)-1)else x1) 1))))
 (.no))
 (.at ((x2,x3,x0,x5))))
def qcm(x0 x1:Int)(x2:List AV)(x3 x4 x5:Int):Option qRJ:=qaz (qwj x0 x1 x2 x3 x4 x5).ev
theorem qCU(x0 x1 x2 x3 x4 x5):qcm x0 x1 x2 x3 x4 x5=(qwj x0 x1 x2 x3 x4 x5).ev:=qaa _
theorem zkc:FH IP 99 zap zbh (k6 qcm):=fh F99 (k6 qwj) q8o
def T35:Tab:=(99,FE zap zbh (k6 qcm))::T34
theorem qS2:qan IP T35:=⟨qam zkc,q8o⟩
abbrev qiy:Type:=List AV×Int×Int×List AV×Int×Int×Int
def qVu:List PSt:=[⟨[(1008900,.junk),(0,.ref 0 0 0),(6,.view 1),(7,.int .i64),(8,.int .i64)],[(0,.box [.view 3,.int .i64,.int .i64,.int .i64] false)],1,1⟩]
def q6L(x0:List AV)(x1 x2:Int)(x3:List AV)(x4 x5 x6:Int):X×St:=(.exit 0,⟨[],[(0,.box [.view 3 x3,.int .i64 x4,.int .i64 x5,.int .i64 x6] false)],1,1⟩)
def znc:List (qiy->X×St):=[(k7 q6L)]
def qkv(x0:List AV)(x1 x2:Int)(x3:List AV)(x4 x5 x6:Int):DT (Rd qiy):=
 .br (decide (x2<x1))
 (.br (qaH [.str] x0 x2)
 (.bi (qap (strOf (cellAt x0 x2 0)) x3 x4 x5 x6) (fun y0=>
 .br (!y0.1)
 (.bi (qcm 2 y0.2.2.1 y0.2.1 y0.2.2.1 y0.2.2.2.1 y0.f) (fun y1=>
 .at (.next ((x0,x1,IntKind.i64.wrap (x2+1),y1))))
 (.no))
 (.at (.next ((x0,x1,IntKind.i64.wrap (x2+1),y0.2)))))
 (.no))
 (.no))
 (.at (.done 0))
def qvL:qiy->DT (Rd qiy):=(fun v=>qkv v.1 v.2.1 v.2.2.1 v.2.2.2.1 v.f.1 v.f.2.1 v.f.2.2)
def qVR(v:qiy):Option (Nat×qiy):=qaz (qaf (fun v=>(qvL v).ev) v)
theorem qDg(v):qVR v=qaf (fun v=>(qvL v).ev) v:=qaa _
def qV9:qbQ:=LE (τ:=qiy) (hD qVu) (qVR) znc
theorem zmt:Go.Eng.Told IP (qad F89 0).1 (qad F89 0).2 (qV9):=lp (inferInstance:Inhabited qiy) (hs:=qVu) qvL qS2 qDg
abbrev q7L:Type:=List AV×Int×Int×Int
def zas:PArgs:=⟨[.ref 0 0 0,.view 1],[(0,.box [.view 3,.int .i64,.int .i64,.int .i64] false)]⟩
def zbk:List PRes:=[⟨false,.tup [],[(0,.box [.view 3,.int .i64,.int .i64,.int .i64] false)]⟩]
def qBK(x0 x1:List AV)(x2 x3 x4:Int):DT q7L:=
 .bi (pj 0 (qVR (x0,(x0.length:Int),0,x1,x2,x3,x4))) (fun y0=>
 .at ((y0.2.2.2)))
 (.no)
def qa0(x0 x1:List AV)(x2 x3 x4:Int):Option q7L:=qaz (qBK x0 x1 x2 x3 x4).ev
theorem qUL(x0 x1 x2 x3 x4):qa0 x0 x1 x2 x3 x4=(qBK x0 x1 x2 x3 x4).ev:=qaa _
theorem zkf:FH IP 89 zas zbk (k5 qa0):=qah (F:=F89) (L:=[(1008900,qV9)]) (t:=(k5 qBK)) qS2 (qac (l:=[qad F89 0]) (by kernel_rfl) ⟨qau (by kernel_rfl) zmt,trivial⟩) (by kernel_rfl) (fun v=>by kernel_rfl) (fun _=>qaa _)
def T36:Tab:=(89,FE zas zbk (k5 qa0))::T35
theorem q8p:qan IP T36:=⟨qam zkf,qS2⟩
abbrev qRK:Type:=List UInt8×List AV×Int×Int×Int
def zar:PArgs:=⟨[.ref 0 0 0,.int .i64],[(0,.box [.view 3,.int .i64,.int .i64,.int .i64] false)]⟩
def zbj:List PRes:=[⟨false,.str,[(0,.box [.view 3,.int .i64,.int .i64,.int .i64] false)]⟩]
def qBJ(x0:Int)(x1:List AV)(x2 x3 x4:Int):DT qRK:=
 .bi (qtI x0 x1 x2 x3 x4) (fun y0=>
 .br (!y0.1)
 (.bi (qcm 2 y0.2.2.1 y0.2.1 y0.2.2.1 y0.2.2.2.1 y0.f) (fun y1=>
 .at (([],y1)))
 (.no))
 (.br (qaH [.int .i64,.int .i64,.str] y0.2.1 (IntKind.i64.wrap (IntKind.i64.wrap (y0.2.2.1+1)-1)))
 (.at ((strOf (cellAt y0.2.1 (IntKind.i64.wrap (IntKind.i64.wrap (y0.2.2.1+1)-1)) 2),y0.2.1,IntKind.i64.wrap (y0.2.2.1+1),y0.2.2.2)))
 (.no)))
 (.no)
def qgv(x0:Int)(x1:List AV)(x2 x3 x4:Int):Option qRK:=qaz (qBJ x0 x1 x2 x3 x4).ev
theorem qUK(x0 x1 x2 x3 x4):qgv x0 x1 x2 x3 x4=(qBJ x0 x1 x2 x3 x4).ev:=qaa _
theorem zke:FH IP 90 zar zbj (k5 qgv):=fh F90 (k5 qBJ) q8p
def T37:Tab:=(90,FE zar zbj (k5 qgv))::T36
theorem q8q:qan IP T37:=⟨qam zke,q8p⟩
abbrev q7J:Type:=List UInt8×List AV×Int×Int×Int
def zan:PArgs:=⟨[.ref 0 0 0],[(0,.box [.view 3,.int .i64,.int .i64,.int .i64] false)]⟩
def zbf:List PRes:=[⟨false,.str,[(0,.box [.view 3,.int .i64,.int .i64,.int .i64] false)]⟩]
def qBH(x0:List AV)(x1 x2 x3:Int):DT q7J:=
 .bi (qgv 1 x0 x1 x2 x3) (fun y0=>
 .bi (br ((y0.1.length:Int) != 3) (some true)
 (br (decide (y0.1.length<=1000000)&&(qCv y0.1&&qCv [48,49,50,51,52,53,54,55,56,57,95]))
 (some (Lib.containsAny y0.1 [48,49,50,51,52,53,54,55,56,57,95])) none)) (fun y1=>
 .br (y1)
 (.bi (qcm 2 x1 y0.2.1 y0.2.2.1 y0.2.2.2.1 y0.f) (fun y2=>
 .at (([],y2)))
 (.no))
 (.br (decide (y0.1.length<=1000000)&&qCv y0.1) (.at ((Lib.toUpperA y0.1,y0.2))) (.no)))
 (.no))
 (.no)
def qCT(x0:List AV)(x1 x2 x3:Int):Option q7J:=qaz (qBH x0 x1 x2 x3).ev
theorem qUH(x0 x1 x2 x3):qCT x0 x1 x2 x3=(qBH x0 x1 x2 x3).ev:=qaa _
theorem zka:FH IP 91 zan zbf (k4 qCT):=fh F91 (k4 qBH) q8q
def T38:Tab:=(91,FE zan zbf (k4 qCT))::T37
theorem q8r:qan IP T38:=⟨qam zka,q8q⟩
abbrev qRE:Type:=Int×List AV×Int×Int×Int
def zae:PArgs:=⟨[.ref 0 0 0],[(0,.box [.view 3,.int .i64,.int .i64,.int .i64] false)]⟩
def za6:List PRes:=[⟨false,.int .i64,[(0,.box [.view 3,.int .i64,.int .i64,.int .i64] false)]⟩]
def qBy(x0:List AV)(x1 x2 x3:Int):DT qRE:=
 .bi (qgv 2 x0 x1 x2 x3) (fun y0=>
 .br (pOk y0.1&&nOk (Lib.atoiAll y0.1))
 (.at ((qPP (Lib.atoiAll y0.1),y0.2)))
 (.br (pOk y0.1&&qh5 (Lib.atoiAll y0.1))
 (.at ((Lib.atoiSat y0.1,y0.2)))
 (.br (pOk y0.1&&qdo (Lib.atoiAll y0.1)) (.at ((0,y0.2))) (.no))))
 (.no)
def qjt(x0:List AV)(x1 x2 x3:Int):Option qRE:=qaz (qBy x0 x1 x2 x3).ev
theorem qUz(x0 x1 x2 x3):qjt x0 x1 x2 x3=(qBy x0 x1 x2 x3).ev:=qaa _
theorem zj0:FH IP 93 zae za6 (k4 qjt):=fh F93 (k4 qBy) q8r
def T39:Tab:=(93,FE zae za6 (k4 qjt))::T38
theorem q8s:qan IP T39:=⟨qam zj0,q8r⟩
abbrev qQ8:Type:=Bool
def qYu:PArgs:=⟨[.int .i64],[]⟩
def q0P:List PRes:=[⟨false,.bool,[]⟩]
def qrT(x0:Int):DT qQ8:=
 .bi (br (x0.tmod 4==0) (br (x0.tmod 100 != 0) (some true) (some (x0.tmod 400==0))) (some false)) (fun y0=>
 .at (y0))
 (.no)
def qom(x0:Int):Option qQ8:=qaz (qrT x0).ev
theorem qOe(x0):qom x0=(qrT x0).ev:=qaa _
theorem zd1:FH IP 176 qYu q0P qom:=fh zoE qrT q8s
def T40:Tab:=(176,FE qYu q0P qom)::T39
theorem q8t:qan IP T40:=⟨qam zd1,q8s⟩
abbrev qQp:Type:=Int
def qXL:PArgs:=⟨[.int .i64,.int .i64],[]⟩
def qZ6:List PRes:=[⟨false,.int .i64,[]⟩]
def qrl(x0 x1:Int):DT qQp:=
 .bi (br (x1==2) (br (sm (qom x0)) (some (gv (qom x0))) none) (some false)) (fun y0=>
 .br (y0)
 (.at (29))
 (.br (decide (x1=Int.ofNat 0))
 (.at (0))
 (.br (decide (x1=Int.ofNat 1))
 (.at (31))
 (.br (decide (x1=Int.ofNat 2))
 (.at (28))
 (.br (decide (x1=Int.ofNat 3))
 (.at (31))
 (.br (decide (x1=Int.ofNat 4))
 (.at (30))
 (.br (decide (x1=Int.ofNat 5))
 (.at (31))
 (.br (decide (x1=Int.ofNat 6))
 (.at (30))
 (.br (decide (x1=Int.ofNat 7))
 (.at (31))
 (.br (decide (x1=Int.ofNat 8))
 (.at (31))
 (.br (decide (x1=Int.ofNat 9))
 (.at (30))
 (.br (decide (x1=Int.ofNat 10))
 (.at (31))
 (.br (decide (x1=Int.ofNat 11))
 (.at (30))
 (.br (decide (x1=Int.ofNat 12)) (.at (31)) (.no)))))))))))))))
 (.no)
def qiQ(x0 x1:Int):Option qQp:=qaz (qrl x0 x1).ev
theorem qNG(x0 x1):qiQ x0 x1=(qrl x0 x1).ev:=qaa _
theorem zc9:FH IP 119 qXL qZ6 (k2 qiQ):=fh zol (k2 qrl) q8t
def T41:Tab:=(119,FE qXL qZ6 (k2 qiQ))::T40
theorem q8u:qan IP T41:=⟨qam zc9,q8t⟩
abbrev qQM:Type:=Int
def qX9:PArgs:=⟨[.int .i64],[]⟩
def q0u:List PRes:=[⟨false,.int .i64,[]⟩]
def qrC(x0:Int):DT qQM:=
 .br (decide (x0>2100))
 (.at (IntKind.i64.wrap (IntKind.i64.wrap (365*IntKind.i64.wrap (x0-2000))+IntKind.i64.wrap (IntKind.i64.wrap ((IntKind.i64.wrap (IntKind.i64.wrap (x0-2000)+3)).tdiv 4)-1))))
 (.at (IntKind.i64.wrap (IntKind.i64.wrap (365*IntKind.i64.wrap (x0-2000))+IntKind.i64.wrap ((IntKind.i64.wrap (IntKind.i64.wrap (x0-2000)+3)).tdiv 4))))
def qmb(x0:Int):Option qQM:=qaz (qrC x0).ev
theorem qNX(x0):qmb x0=(qrC x0).ev:=qaa _
theorem zdx:FH IP 118 qX9 q0u qmb:=fh zok qrC q8u
def T42:Tab:=(118,FE qX9 q0u qmb)::T41
theorem qS4:qan IP T42:=⟨qam zdx,q8u⟩
end
end Go.Proofs.H16
namespace Go.Proofs.H16
open Go Go.Eng
set_option maxRecDepth 100000
noncomputable section
abbrev qfJ:Type:=Int×Int×Int×Int
def qKl:List PSt:=[⟨[(1015400,.junk),(0,.int .i64),(1,.int .i64),(8,.int .i64),(9,.int .i64)],[],0,0⟩]
def q38(x0 x1:Int)(x2 x3:Int):X×St:=(.exit 0,⟨[(8,.int .i64 x2)],[],0,0⟩)
def zh8:List (qfJ->X×St):=[(k4 q38)]
def qin(x0 x1:Int)(x2 x3:Int):DT (Rd qfJ):=
 .br (decide (x3<x1))
 (.bi (qiQ x0 x3) (fun y0=>
 .at (.next ((x0,x1,IntKind.i64.wrap (x2+y0),IntKind.i64.wrap (x3+1)))))
 (.no))
 (.at (.done 0))
def qqF:qfJ->DT (Rd qfJ):=(fun v=>qin v.1 v.2.1 v.2.2.1 v.2.2.2)
def qHL(v:qfJ):Option (Nat×qfJ):=qaz (qaf (fun v=>(qqF v).ev) v)
theorem qxQ(v):qHL v=qaf (fun v=>(qqF v).ev) v:=qaa _
def qLz:qbQ:=LE (τ:=qfJ) (hD qKl) (qHL) zh8
theorem zgZ:Go.Eng.Told IP (qad zis 0).1 (qad zis 0).2 (qLz):=lp (inferInstance:Inhabited qfJ) (hs:=qKl) qqF qS4 qxQ
abbrev qRx:Type:=Int×Int
def qYV:PArgs:=⟨[.int .i64,.int .i64,.int .i64],[]⟩
def q1f:List PRes:=[⟨false,.tup [.int .i64,.int .i64],[]⟩]
def qsf(x0 x1 x2:Int):DT qRx:=
 .bi (br (decide (x0<2000)) (some true) (some (decide (x0>2199)))) (fun y0=>
 .bi (br y0 (some true) (some (decide (x1<1)))) (fun y1=>
 .bi (br y1 (some true) (some (decide (x1>12)))) (fun y2=>
 .bi (br y2 (some true) (some (decide (x2<1)))) (fun y3=>
 .bi (br y3 (some true) (br (sm (qiQ x0 x1)) (some (decide (x2>gv (qiQ x0 x1)))) none)) (fun y4=>
 .br (y4)
 (.at ((0,1)))
 (.bi (qmb x0) (fun y5=>
 .bi (pj 0 (qHL (x0,x1,IntKind.i64.wrap (IntKind.i64.wrap (y5+x2)-1),1))) (fun y6=>
 .at ((y6.2.2.1,0)))
 (.no))
 (.no)))
 (.no))
 (.no))
 (.no))
 (.no))
 (.no)
def qtC(x0 x1 x2:Int):Option qRx:=qaz (qsf x0 x1 x2).ev
theorem qOv(x0 x1 x2):qtC x0 x1 x2=(qsf x0 x1 x2).ev:=qaa _
theorem zes:FH IP 154 qYV q1f (k3 qtC):=qah (F:=zis) (L:=[(1015400,qLz)]) (t:=(k3 qsf)) qS4 (qac (l:=[qad zis 0]) (by kernel_rfl) ⟨qau (by kernel_rfl) zgZ,trivial⟩) (by kernel_rfl) (fun v=>by kernel_rfl) (fun _=>qaa _)
def T43:Tab:=(154,FE qYV q1f (k3 qtC))::T42
theorem q8v:qan IP T43:=⟨qam zes,qS4⟩
abbrev qIK:Type:=Int×List AV×Int×Int×Int
def zau:PArgs:=⟨[.ref 0 0 0],[(0,.box [.view 3,.int .i64,.int .i64,.int .i64] false)]⟩
def zbm:List PRes:=[⟨false,.int .i64,[(0,.box [.view 3,.int .i64,.int .i64,.int .i64] false)]⟩]
def qwk(x0:List AV)(x1 x2 x3:Int):DT qIK:=
 .bi (qjt x0 x1 x2 x3) (fun y0=>
 .bi (qa0 [AV.str [47]] y0.2.1 y0.2.2.1 y0.2.2.2.1 y0.f) (fun y1=>
 .bi (qjt y1.1 y1.2.1 y1.2.2.1 y1.2.2.2) (fun y2=>
 .bi (qa0 [AV.str [47]] y2.2.1 y2.2.2.1 y2.2.2.2.1 y2.f) (fun y3=>
 .bi (qjt y3.1 y3.2.1 y3.2.2.1 y3.2.2.2) (fun y4=>
 .bi (qtC y0.1 y2.1 y4.1) (fun y5=>
 .br (y5.2 != 0)
 (.bi (qcm 1 x1 y4.2.1 y4.2.2.1 y4.2.2.2.1 y4.f) (fun y6=>
 .at ((y5.1,y6)))
 (.no))
 (.at ((y5.1,y4.2))))
 (.no))
 (.no))
 (.no))
 (.no))
 (.no))
 (.no)
def qCV(x0:List AV)(x1 x2 x3:Int):Option qIK:=qaz (qwk x0 x1 x2 x3).ev
theorem qUN(x0 x1 x2 x3):qCV x0 x1 x2 x3=(qwk x0 x1 x2 x3).ev:=qaa _
theorem zkh:FH IP 92 zau zbm (k4 qCV):=fh F92 (k4 qwk) q8v
def T44:Tab:=(92,FE zau zbm (k4 qCV))::T43
theorem q8w:qan IP T44:=⟨qam zkh,q8v⟩
abbrev q7K:Type:=Int×List AV×Int×Int×Int
def zaq:PArgs:=⟨[.ref 0 0 0],[(0,.box [.view 3,.int .i64,.int .i64,.int .i64] false)]⟩
def zbi:List PRes:=[⟨false,.int .i64,[(0,.box [.view 3,.int .i64,.int .i64,.int .i64] false)]⟩]
def qBI(x0:List AV)(x1 x2 x3:Int):DT q7K:=
 .bi (qgv 3 x0 x1 x2 x3) (fun y0=>
 .bi (qjS y0.1) (fun y1=>
 .at ((y1.1,y0.2)))
 (.no))
 (.no)
def qpR(x0:List AV)(x1 x2 x3:Int):Option q7K:=qaz (qBI x0 x1 x2 x3).ev
theorem qUJ(x0 x1 x2 x3):qpR x0 x1 x2 x3=(qBI x0 x1 x2 x3).ev:=qaa _
theorem zkd:FH IP 94 zaq zbi (k4 qpR):=fh F94 (k4 qBI) q8w
def T45:Tab:=(94,FE zaq zbi (k4 qpR))::T44
theorem qS5:qan IP T45:=⟨qam zkd,q8w⟩
abbrev qiv:Type:=List AV×Int×Int×List AV×Int×Int×Int
def qVq:List PSt:=[⟨[(1009700,.junk),(0,.ref 0 0 0),(7,.view 1),(8,.int .i64),(9,.int .i64)],[(0,.box [.view 3,.int .i64,.int .i64,.int .i64] false)],1,1⟩]
def q6D(x0:List AV)(x1 x2:Int)(x3:List AV)(x4 x5 x6:Int):X×St:=(.ret,
 ⟨[(0,.ref 0 0 0),(4,.int .i64 (IntKind.i64.wrap (x2+1)))],[(0,
 .box
 [.view 3 (gv (qap (strOf (cellAt x0 x2 0)) x3 x4 x5 x6)).2.1,
 .int .i64 (gv (qap (strOf (cellAt x0 x2 0)) x3 x4 x5 x6)).2.2.1,
 .int .i64 (gv (qap (strOf (cellAt x0 x2 0)) x3 x4 x5 x6)).2.2.2.1,
 .int .i64 (gv (qap (strOf (cellAt x0 x2 0)) x3 x4 x5 x6)).f]
 false)],1,1⟩)
def q6E(x0:List AV)(x1 x2:Int)(x3:List AV)(x4 x5 x6:Int):X×St:=(.exit 0,
 ⟨[(0,.ref 0 0 0),(4,.junk)],[(0,.box [.view 3 x3,.int .i64 x4,.int .i64 x5,.int .i64 x6] false)],1,1⟩)
def zm8:List (qiv->X×St):=[(k7 q6D),(k7 q6E)]
def qgO(x0:List AV)(x1 x2:Int)(x3:List AV)(x4 x5 x6:Int):DT (Rd qiv):=
 .br (decide (x2<x1))
 (.br (qaH [.str] x0 x2)
 (.bi (qap (strOf (cellAt x0 x2 0)) x3 x4 x5 x6) (fun y0=>
 .br (y0.1) (.at (.done 0)) (.at (.next ((x0,x1,IntKind.i64.wrap (x2+1),y0.2)))))
 (.no))
 (.no))
 (.at (.done 1))
def qmC:qiv->DT (Rd qiv):=(fun v=>qgO v.1 v.2.1 v.2.2.1 v.2.2.2.1 v.f.1 v.f.2.1 v.f.2.2)
def qKv(v:qiv):Option (Nat×qiv):=qaz (qaf (fun v=>(qmC v).ev) v)
theorem qDb(v):qKv v=qaf (fun v=>(qmC v).ev) v:=qaa _
def qV5:qbQ:=LE (τ:=qiv) (hD qVq) (qKv) zm8
theorem zmp:Go.Eng.Told IP (qad F97 0).1 (qad F97 0).2 (qV5):=lp (inferInstance:Inhabited qiv) (hs:=qVq) qmC qS5 qDb
abbrev q7A:Type:=Int×List AV×Int×Int×Int
def zad:PArgs:=⟨[.ref 0 0 0,.view 1],[(0,.box [.view 3,.int .i64,.int .i64,.int .i64] false)]⟩
def za5:List PRes:=[⟨false,.int .i64,[(0,.box [.view 3,.int .i64,.int .i64,.int .i64] false)]⟩]
def qBx(x0 x1:List AV)(x2 x3 x4:Int):DT q7A:=
 .bi (pj 0 (qKv (x0,(x0.length:Int),0,x1,x2,x3,x4))) (fun y0=>
 .at ((IntKind.i64.wrap (y0.2.2.1+1),(gv (qap (strOf (cellAt y0.1 y0.2.2.1 0)) y0.2.2.2.1 y0.f.1 y0.f.2.1 y0.f.2.2)).2.1,(gv (qap (strOf (cellAt y0.1 y0.2.2.1 0)) y0.2.2.2.1 y0.f.1 y0.f.2.1 y0.f.2.2)).2.2.1,(gv
 (qap (strOf (cellAt y0.1 y0.2.2.1 0)) y0.2.2.2.1 y0.f.1 y0.f.2.1
 y0.f.2.2)).2.2.2.1,(gv
 (qap (strOf (cellAt y0.1 y0.2.2.1 0)) y0.2.2.2.1 y0.f.1 y0.f.2.1
 y0.f.2.2)).f)))
 (.bi (pj 1 (qKv (x0,(x0.length:Int),0,x1,x2,x3,x4))) (fun y0=>
 .bi (qcm 2 y0.f.1 y0.2.2.2.1 y0.f.1 y0.f.2.1 y0.f.2.2) (fun y1=>
 .at ((0,y1)))
 (.no))
 (.no))
def qg4(x0 x1:List AV)(x2 x3 x4:Int):Option q7A:=qaz (qBx x0 x1 x2 x3 x4).ev
theorem qUy(x0 x1 x2 x3 x4):qg4 x0 x1 x2 x3 x4=(qBx x0 x1 x2 x3 x4).ev:=qaa _
theorem zjZ:FH IP 97 zad za5 (k5 qg4):=qah (F:=F97) (L:=[(1009700,qV5)]) (t:=(k5 qBx)) qS5 (qac (l:=[qad F97 0]) (by kernel_rfl) ⟨qau (by kernel_rfl) zmp,trivial⟩) (by kernel_rfl) (fun v=>by kernel_rfl) (fun _=>qaa _)
def T46:Tab:=(97,FE zad za5 (k5 qg4))::T45
theorem q8x:qan IP T46:=⟨qam zjZ,qS5⟩
abbrev qPV:Type:=List AV
def qXb:PArgs:=⟨[],[]⟩
def qZw:List PRes:=[⟨false,.view 1,[]⟩]
def qqN:DT qPV:=
 .at ([AV.str ([]++[97]++[99]++[116]++[51]++[54]++[48]),AV.str ([]++[97]++[99]++[116]++[51]++[54]++[53]),
 AV.str ([]++[97]++[99]++[116]++[117]++[97]++[108]),AV.str ([]++[116]++[104]++[105]++[114]++[116]++[121])])
def qhs:Option qPV:=qaz (qqN).ev
theorem qM7:qhs=(qqN).ev:=qaa _
theorem zcv:FH IP 60 qXb qZw (fun _=>qhs):=qah (F:=F60) (L:=[]) (t:=(fun _=>qqN)) q8x (qac (l:=[]) (by kernel_rfl) trivial) (by kernel_rfl) (fun v=>by kernel_rfl) (fun _=>qaa _)
def T47:Tab:=(60,FE qXb qZw (fun _=>qhs))::T46
theorem q8y:qan IP T47:=⟨qam zcv,q8x⟩
abbrev qPW:Type:=List AV
def qXc:PArgs:=⟨[],[]⟩
def qZx:List PRes:=[⟨false,.view 1,[]⟩]
def qqO:DT qPW:=
 .at ([AV.str ([]++[100]++[111]++[119]++[110]),AV.str ([]++[117]++[112]),AV.str ([]++[102]++[108]++[111]++[111]++[114]),
 AV.str ([]++[99]++[101]++[105]++[108]),AV.str ([]++[104]++[97]++[108]++[102]++[95]++[117]++[112]),
 AV.str ([]++[104]++[97]++[108]++[102]++[95]++[101]++[118]++[101]++[110])])
def qht:Option qPW:=qaz (qqO).ev
theorem qM8:qht=(qqO).ev:=qaa _
theorem zcw:FH IP 61 qXc qZx (fun _=>qht):=qah (F:=F61) (L:=[]) (t:=(fun _=>qqO)) q8y (qac (l:=[]) (by kernel_rfl) trivial) (by kernel_rfl) (fun v=>by kernel_rfl) (fun _=>qaa _)
def T48:Tab:=(61,FE qXc qZx (fun _=>qht))::T47
theorem qS6:qan IP T48:=⟨qam zcw,q8y⟩
abbrev qeH:Type:=(List AV×Int×Int×Int×Bool×Int×Int×Bool×Bool×Int×Int×Bool)⊕(List AV×Int×Int×Int×Bool×Int×Int×Bool×Bool×Int×Int×Bool×List AV)
def qVn:List PSt:=[⟨[(1009500,.junk),(0,.ref 0 0 0),(4,.ref 1 0 0),(5,.ref 2 0 0)],[(0,.box [.view 3,.int .i64,.int .i64,.int .i64] false),(1,.box [.nils 2,.bool,.int .i64,.int .i64,.bool] false),(2,.box [.nils 2,.bool,.int .i64,.int .i64,.bool] false)],3,1⟩,⟨[(1009500,.junk),(0,.ref 0 0 0),(4,.ref 1 0 0),(5,.ref 2 0 0)],[(0,.box [.view 3,.int .i64,.int .i64,.int .i64] false),(1,.box [.nils 2,.bool,.int .i64,.int .i64,.bool] false),(2,.box [.own 3 0,.bool,.int .i64,.int .i64,.bool] false),(3,.arr 2 false)],4,1⟩]
def q6v(x0:List AV)(x1 x2 x3:Int)(x4:Bool)(x5 x6:Int)(x7 x8:Bool)(x9 x10:Int)(x11:Bool):X×St:=(.exit 0,
 ⟨[(0,.ref 0 0 0),(4,.ref 1 0 0),(5,.ref 2 0 0)],[(0,
 .box
 [.view 3 (gv (qap [36] x0 x1 x2 x3)).2.1,.int .i64 (gv (qap [36] x0 x1 x2 x3)).2.2.1,
 .int .i64 (gv (qap [36] x0 x1 x2 x3)).2.2.2.1,
 .int .i64 (gv (qap [36] x0 x1 x2 x3)).f]
 false),
 (1,.box [.nils ⟨2,.nil⟩,.bool x4,.int .i64 x5,.int .i64 x6,.bool x7] false),
 (2,.box [.nils ⟨2,.nil⟩,.bool x8,.int .i64 x9,.int .i64 x10,.bool x11] false)],3,1⟩)
def q6w(x0:List AV)(x1 x2 x3:Int)(x4:Bool)(x5 x6:Int)(x7 x8:Bool)(x9 x10:Int)(x11:Bool)(x12:List AV):X×St:=(.exit 0,
 ⟨[(0,.ref 0 0 0),(4,.ref 1 0 0),(5,.ref 2 0 0)],[(0,
 .box
 [.view 3 (gv (qap [36] x0 x1 x2 x3)).2.1,.int .i64 (gv (qap [36] x0 x1 x2 x3)).2.2.1,
 .int .i64 (gv (qap [36] x0 x1 x2 x3)).2.2.2.1,
 .int .i64 (gv (qap [36] x0 x1 x2 x3)).f]
 false),
 (1,.box [.nils ⟨2,.nil⟩,.bool x4,.int .i64 x5,.int .i64 x6,.bool x7] false),
 (2,.box [.own 3 0 none,.bool x8,.int .i64 x9,.int .i64 x10,.bool x11] false),(3,.arr 2 x12 false)],4,1⟩)
def zm5:List (qeH->X×St):=[fun w=>(k12 q6v) ((sl w)),fun w=>(k13 q6w) ((sr w))]
def qkq(x0:List AV)(x1 x2 x3:Int)(x4:Bool)(x5 x6:Int)(x7 x8:Bool)(x9 x10:Int)(x11:Bool):DT (Rd qeH):=
 .bi (qap [36] x0 x1 x2 x3) (fun y0=>
 .br (y0.1)
 (.bi (qjt y0.2.1 y0.2.2.1 y0.2.2.2.1 y0.f) (fun y1=>
 .bi (qa0 [AV.str [58]] y1.2.1 y1.2.2.1 y1.2.2.2.1 y1.f) (fun y2=>
 .bi (qpR y2.1 y2.2.1 y2.2.2.1 y2.2.2.2) (fun y3=>
 .bi (qa0 [AV.str [59]] y3.2.1 y3.2.2.1 y3.2.2.2.1 y3.f) (fun y4=>
 .at (.next ((.inr (y4.1,y4.2.1,y4.2.2.1,y4.2.2.2,x4,x5,x6,x7,x8,x9,x10,x11,[AV.agg [.int .i64 y1.1,.int .i64 y3.1]])))))
 (.no))
 (.no))
 (.no))
 (.no))
 (.at (.done 0)))
 (.no)
def qkr(x0:List AV)(x1 x2 x3:Int)(x4:Bool)(x5 x6:Int)(x7 x8:Bool)(x9 x10:Int)(x11:Bool)(x12:List AV):DT (Rd qeH):=
 .bi (qap [36] x0 x1 x2 x3) (fun y0=>
 .br (y0.1)
 (.bi (qjt y0.2.1 y0.2.2.1 y0.2.2.2.1 y0.f) (fun y1=>
 .bi (qa0 [AV.str [58]] y1.2.1 y1.2.2.1 y1.2.2.2.1 y1.f) (fun y2=>
 .bi (qpR y2.1 y2.2.1 y2.2.2.1 y2.2.2.2) (fun y3=>
 .bi (qa0 [AV.str [59]] y3.2.1 y3.2.2.1 y3.2.2.2.1 y3.f) (fun y4=>
 .br (room (x12.length+1) 16)
 (.at (.next ((.inr (y4.1,y4.2.1,y4.2.2.1,y4.2.2.2,x4,x5,x6,x7,x8,x9,x10,x11,x12++[AV.agg [.int .i64 y1.1,.int .i64 y3.1]])))))
 (.no))
 (.no))
 (.no))
 (.no))
 (.no))
 (.at (.done 1)))
 (.no)
def qAF:qeH->DT (Rd qeH):=(Sum.elim (fun v=>qkq v.1 v.2.1 v.2.2.1 v.2.2.2.1 v.f.1 v.f.2.1 v.f.2.2.1 v.f.2.2.2.1 v.h.1 v.h.2.1 v.h.2.2.1 v.h.2.2.2) (fun v=>qkr v.1 v.2.1 v.2.2.1 v.2.2.2.1 v.f.1 v.f.2.1 v.f.2.2.1 v.f.2.2.2.1 v.h.1 v.h.2.1 v.h.2.2.1 v.h.2.2.2.1 v.h.f))
def qKt(v:qeH):Option (Nat×qeH):=qaz (qaf (fun v=>(qAF v).ev) v)
theorem qm3(v):qKt v=qaf (fun v=>(qAF v).ev) v:=qaa _
def qV2:qbQ:=LE (τ:=qeH) (hD qVn) (qKt) zm5
theorem zmm:Go.Eng.Told IP (qad F95 0).1 (qad F95 0).2 (qV2):=qav (inferInstance:Inhabited qeH) (hs:=qVn) (st:=qAF) (L:=[]) qS6 (qac (l:=[]) (by kernel_rfl) trivial) (qm3) (fun v=>match v with|(.inl v)=>by kernel_rfl|(.inr v)=>by kernel_rfl) (fun v=>match v with|(.inl v)=>by kernel_rfl|(.inr v)=>by kernel_rfl)
abbrev q7v:Type:=List AV×Bool×Int×Int×Bool×List AV×Int×Int×Int
def q97:PArgs:=⟨[.ref 0 0 0,.str],[(0,.box [.view 3,.int .i64,.int .i64,.int .i64] false)]⟩
def zaY:List PRes:=[⟨false,.agg [.view 2,.bool,.int .i64,.int .i64,.bool],[(0,.box [.view 3,.int .i64,.int .i64,.int .i64] false)]⟩]
def qA5(x0:List UInt8)(x1:List AV)(x2 x3 x4:Int):DT q7v:=
 .bi (qa0 [AV.str x0] x1 x2 x3 x4) (fun y0=>
 .bi (qg4 [AV.str [119,104,111,108,101],AV.str [109,97,114,103,105,110,97,108]] y0.1 y0.2.1 y0.2.2.1 y0.2.2.2) (fun y1=>
 .bi (qhs) (fun y2=>
 .bi (qg4 y2 y1.2.1 y1.2.2.1 y1.2.2.2.1 y1.f) (fun y3=>
 .bi (qht) (fun y4=>
 .bi (qg4 y4 y3.2.1 y3.2.2.1 y3.2.2.2.1 y3.f) (fun y5=>
 .bi (qg4 [AV.str [100,114,111,112],AV.str [107,101,101,112]] y5.2.1 y5.2.2.1 y5.2.2.2.1 y5.f) (fun y6=>
 .bi (qa0 [AV.str [123]] y6.2.1 y6.2.2.1 y6.2.2.2.1 y6.f) (fun y7=>
 .bi (pj 0 (qKt (Sum.inl (y7.1,y7.2.1,y7.2.2.1,y7.2.2.2,false,0,0,false,y1.1==2,y3.1,y5.1,y6.1==2)))) (fun y8=>
 .bi (qa0 [AV.str [125]] (gv (qap [36] (sl y8).1 (sl y8).2.1 (sl y8).2.2.1 (sl y8).2.2.2.1)).2.1
 (gv (qap [36] (sl y8).1 (sl y8).2.1 (sl y8).2.2.1 (sl y8).2.2.2.1)).2.2.1
 (gv (qap [36] (sl y8).1 (sl y8).2.1 (sl y8).2.2.1 (sl y8).2.2.2.1)).2.2.2.1
 (gv (qap [36] (sl y8).1 (sl y8).2.1 (sl y8).2.2.1 (sl y8).2.2.2.1)).f) (fun y9=>
 .at (([],(sl y8).h.1,(sl y8).h.2.1,(sl y8).h.2.2.1,(sl y8).h.2.2.2,y9)))
 (.no))
 (.bi (pj 1 (qKt (Sum.inl (y7.1,y7.2.1,y7.2.2.1,y7.2.2.2,false,0,0,false,y1.1==2,y3.1,y5.1,y6.1==2)))) (fun y8=>
 .bi (qa0 [AV.str [125]] (gv (qap [36] (sr y8).1 (sr y8).2.1 (sr y8).2.2.1 (sr y8).2.2.2.1)).2.1
 (gv (qap [36] (sr y8).1 (sr y8).2.1 (sr y8).2.2.1 (sr y8).2.2.2.1)).2.2.1
 (gv (qap [36] (sr y8).1 (sr y8).2.1 (sr y8).2.2.1 (sr y8).2.2.2.1)).2.2.2.1
 (gv (qap [36] (sr y8).1 (sr y8).2.1 (sr y8).2.2.1 (sr y8).2.2.2.1)).f) (fun y9=>
 .at (((sr y8).h.f,(sr y8).h.1,(sr y8).h.2.1,(sr y8).h.2.2.1,(sr y8).h.2.2.2.1,y9)))
 (.no))
 (.no)))
 (.no))
 (.no))
 (.no))
 (.no))
 (.no))
 (.no))
 (.no))
 (.no)
def qw3(x0:List UInt8)(x1:List AV)(x2 x3 x4:Int):Option q7v:=qaz (qA5 x0 x1 x2 x3 x4).ev
theorem qUp(x0 x1 x2 x3 x4):qw3 x0 x1 x2 x3 x4=(qA5 x0 x1 x2 x3 x4).ev:=qaa _
theorem zjT:FH IP 95 q97 zaY (k5 qw3):=qah (F:=F95) (L:=[(1009500,qV2)]) (t:=(k5 qA5)) qS6 (qac (l:=[qad F95 0]) (by kernel_rfl) ⟨qau (by kernel_rfl) zmm,trivial⟩) (by kernel_rfl) (fun v=>by kernel_rfl) (fun _=>qaa _)
def T49:Tab:=(95,FE q97 zaY (k5 qw3))::T48
theorem q8z:qan IP T49:=⟨qam zjT,qS6⟩
abbrev q75:Type:=List AV
def zaQ:PArgs:=⟨[],[]⟩
def zbI:List PRes:=[⟨false,.view 1,[]⟩]
def qCc:DT q75:=
 .at ([AV.str ([]++[109]++[111]++[110]++[116]++[104]),AV.str ([]++[100]++[101]++[98]++[105]++[116]),
 AV.str ([]++[114]++[101]++[116]++[117]++[114]++[110]),AV.str ([]++[99]++[108]++[111]++[115]++[101])])
def qpT:Option q75:=qaz (qCc).ev
theorem qVb:qpT=(qCc).ev:=qaa _
theorem zkH:FH IP 20 zaQ zbI (fun _=>qpT):=qah (F:=F20) (L:=[]) (t:=(fun _=>qCc)) q8z (qac (l:=[]) (by kernel_rfl) trivial) (by kernel_rfl) (fun v=>by kernel_rfl) (fun _=>qaa _)
def T50:Tab:=(20,FE zaQ zbI (fun _=>qpT))::T49
theorem q8A:qan IP T50:=⟨qam zkH,q8z⟩
abbrev qRI:Type:=Int×Int×List UInt8×List AV×List AV×Int×Int×Int
def zao:PArgs:=⟨[.ref 0 0 0],[(0,.box [.view 3,.int .i64,.int .i64,.int .i64] false)]⟩
def zbg:List PRes:=[⟨false,.agg [.int .i64,.int .i64,.str,.view 4],[(0,.box [.view 3,.int .i64,.int .i64,.int .i64] false)]⟩]
def qpI(x0:List AV)(x1 x2 x3:Int):DT qRI:=
 .br (x2 != 0)
 (.at ((0,0,[],[],x0,x1,x2,x3)))
 (.br (Tk.paB IP 157 x0 x1)
 (.br (Tk.paE IP 157 x0 x1 != 0)
 (.bi (qcm (Tk.paE IP 157 x0 x1) (Tk.paK IP 157 x0 x1) x0 x1 x2 x3) (fun y0=>
 .at ((0,0,[],[],y0)))
 (.no))
 (.at ((Tk.paO IP 157 x0 x1,Tk.paN IP 157 x0 x1,Tk.paS IP 157 x0 x1,Tk.paX IP 157 x0 x1,x0,Tk.paK IP 157 x0 x1,x2,x3))))
 (.no))
def qjv(x0:List AV)(x1 x2 x3:Int):Option qRI:=qaz (qpI x0 x1 x2 x3).ev
theorem qUI(x0 x1 x2 x3):qjv x0 x1 x2 x3=(qpI x0 x1 x2 x3).ev:=qaa _
theorem zkb:FH IP 98 zao zbg (k4 qjv):=fh F98 (k4 qpI) q8A
def T51:Tab:=(98,FE zao zbg (k4 qjv))::T50
theorem qS8:qan IP T51:=⟨qam zkb,q8A⟩
abbrev qeI:Type:=(List AV×Int×Int×Int×List UInt8×List UInt8×List UInt8×Int×Int×Int×Int×Bool×Int×Int×Bool×Bool×Int×Int×Bool×List UInt8×List UInt8×List UInt8×Int×Int×Int×Int×List AV×Bool×Int×Int×Bool×List AV×Bool×Int×Int×Bool)⊕(List AV×Int×Int×Int×List UInt8×List UInt8×List UInt8×Int×Int×Int×Int×Bool×Int×Int×Bool×Bool×Int×Int×Bool×List UInt8×List UInt8×List UInt8×Int×Int×Int×Int×List AV×Bool×Int×Int×Bool×List AV×Bool×Int×Int×Bool×List AV)
def qVo:List PSt:=[⟨[(1004100,.junk),(0,.ref 0 0 0),(2,.ref 1 0 0),(3,.ref 2 0 0)],[(0,.box [.view 3,.int .i64,.int .i64,.int .i64] false),(1,.box [.str,.str,.str,.int .i64,.int .i64,.int .i64,.int .i64,.nils 2,.bool,.int .i64,.int .i64,.bool,.nils 2,.bool,.int .i64,.int .i64,.bool,.nils 10,.nils 6] false),(2,.box [.str,.str,.str,.int .i64,.int .i64,.int .i64,.int .i64,.view 2,.bool,.int .i64,.int .i64,.bool,.view 2,.bool,.int .i64,.int .i64,.bool,.nils 10,.nils 6] false)],3,1⟩,⟨[(1004100,.junk),(0,.ref 0 0 0),(2,.ref 1 0 0),(3,.ref 2 0 0)],[(0,.box [.view 3,.int .i64,.int .i64,.int .i64] false),(1,.box [.str,.str,.str,.int .i64,.int .i64,.int .i64,.int .i64,.nils 2,.bool,.int .i64,.int .i64,.bool,.nils 2,.bool,.int .i64,.int .i64,.bool,.nils 10,.nils 6] false),(2,.box [.str,.str,.str,.int .i64,.int .i64,.int .i64,.int .i64,.view 2,.bool,.int .i64,.int .i64,.bool,.view 2,.bool,.int .i64,.int .i64,.bool,.own 3 0,.nils 6] false),(3,.arr 10 false)],4,1⟩]
def q6x(x0:List AV)(x1 x2 x3:Int)(x4 x5 x6:List UInt8)(x7 x8:Int)(x9 x10:Int)(x11:Bool)(x12 x13:Int)(x14 x15:Bool)(x16 x17:Int)(x18:Bool)(x19 x20 x21:List UInt8)(x22 x23:Int)(x24 x25:Int)(x26:List AV)(x27:Bool)(x28 x29:Int)(x30:Bool)(x31:List AV)(x32:Bool)(x33 x34:Int)(x35:Bool):X×St:=(.exit 1000001,
 ⟨[(0,.ref 0 0 0),(2,.ref 1 0 0),(3,.ref 2 0 0)],[(0,
 .box
 [.view 3 (gv (qap [102,101,101] x0 x1 x2 x3)).2.1,
 .int .i64 (gv (qap [102,101,101] x0 x1 x2 x3)).2.2.1,
 .int .i64 (gv (qap [102,101,101] x0 x1 x2 x3)).2.2.2.1,
 .int .i64 (gv (qap [102,101,101] x0 x1 x2 x3)).f]
 false),
 (1,
 .box
 [.str x4,.str x5,.str x6,.int .i64 x7,.int .i64 x8,.int .i64 x9,.int .i64 x10,.nils ⟨2,.nil⟩,
 .bool x11,.int .i64 x12,.int .i64 x13,.bool x14,.nils ⟨2,.nil⟩,.bool x15,.int .i64 x16,
 .int .i64 x17,.bool x18,.nils ⟨10,.nil⟩,.nils ⟨6,.nil⟩]
 false),
 (2,
 .box
 [.str x19,.str x20,.str x21,.int .i64 x22,.int .i64 x23,.int .i64 x24,.int .i64 x25,.view 2 x26,.bool x27,
 .int .i64 x28,.int .i64 x29,.bool x30,.view 2 x31,.bool x32,.int .i64 x33,.int .i64 x34,.bool x35,
 .nils ⟨10,.nil⟩,.nils ⟨6,.nil⟩]
 false)],3,1⟩)
def q6y(x0:List AV)(x1 x2 x3:Int)(x4 x5 x6:List UInt8)(x7 x8:Int)(x9 x10:Int)(x11:Bool)(x12 x13:Int)(x14 x15:Bool)(x16 x17:Int)(x18:Bool)(x19 x20 x21:List UInt8)(x22 x23:Int)(x24 x25:Int)(x26:List AV)(x27:Bool)(x28 x29:Int)(x30:Bool)(x31:List AV)(x32:Bool)(x33 x34:Int)(x35:Bool)(x36:List AV):X×St:=(.exit 1000001,
 ⟨[(0,.ref 0 0 0),(2,.ref 1 0 0),(3,.ref 2 0 0)],[(0,
 .box
 [.view 3 (gv (qap [102,101,101] x0 x1 x2 x3)).2.1,
 .int .i64 (gv (qap [102,101,101] x0 x1 x2 x3)).2.2.1,
 .int .i64 (gv (qap [102,101,101] x0 x1 x2 x3)).2.2.2.1,
 .int .i64 (gv (qap [102,101,101] x0 x1 x2 x3)).f]
 false),
 (1,
 .box
 [.str x4,.str x5,.str x6,.int .i64 x7,.int .i64 x8,.int .i64 x9,.int .i64 x10,.nils ⟨2,.nil⟩,
 .bool x11,.int .i64 x12,.int .i64 x13,.bool x14,.nils ⟨2,.nil⟩,.bool x15,.int .i64 x16,
 .int .i64 x17,.bool x18,.nils ⟨10,.nil⟩,.nils ⟨6,.nil⟩]
 false),
 (2,
 .box
 [.str x19,.str x20,.str x21,.int .i64 x22,.int .i64 x23,.int .i64 x24,.int .i64 x25,.view 2 x26,.bool x27,
 .int .i64 x28,.int .i64 x29,.bool x30,.view 2 x31,.bool x32,.int .i64 x33,.int .i64 x34,.bool x35,.own 3 0 none,
 .nils ⟨6,.nil⟩]
 false),
 (3,.arr 10 x36 false)],4,1⟩)
def zm6:List (qeI->X×St):=[fun w=>(k36 q6x) ((sl w)),fun w=>(k37 q6y) ((sr w))]
def qvB(x0:List AV)(x1 x2 x3:Int)(x4 x5 x6:List UInt8)(x7 x8:Int)(x9 x10:Int)(x11:Bool)(x12 x13:Int)(x14 x15:Bool)(x16 x17:Int)(x18:Bool)(x19 x20 x21:List UInt8)(x22 x23:Int)(x24 x25:Int)(x26:List AV)(x27:Bool)(x28 x29:Int)(x30:Bool)(x31:List AV)(x32:Bool)(x33 x34:Int)(x35:Bool):DT (Rd qeI):=
 .bi (qap [102,101,101] x0 x1 x2 x3) (fun y0=>
 .br (y0.1)
 (.bi (qgv 1 y0.2.1 y0.2.2.1 y0.2.2.2.1 y0.f) (fun y1=>
 .bi (qpT) (fun y2=>
 .bi (qg4 y2 y1.2.1 y1.2.2.1 y1.2.2.2.1 y1.f) (fun y3=>
 .bi (qa0 [AV.str [119,104,101,110]] y3.2.1 y3.2.2.1 y3.2.2.2.1 y3.f) (fun y4=>
 .bi (qjv y4.1 y4.2.1 y4.2.2.1 y4.2.2.2) (fun y5=>
 .bi (qa0 [AV.str [97,109,111,117,110,116,95,111,102]] y5.f.1 y5.f.2.1 y5.f.2.2.1
 y5.f.2.2.2) (fun y6=>
 .bi (qjv y6.1 y6.2.1 y6.2.2.1 y6.2.2.2) (fun y7=>
 .bi (qa0 [AV.str [59]] y7.f.1 y7.f.2.1 y7.f.2.2.1 y7.f.2.2.2) (fun y8=>
 .at (.next ((.inr (y8.1,y8.2.1,y8.2.2.1,y8.2.2.2,x4,x5,x6,x7,x8,x9,x10,x11,x12,x13,x14,x15,x16,x17,x18,x19,x20,x21,x22,x23,x24,x25,x26,x27,x28,x29,x30,x31,x32,x33,x34,x35,[AV.agg
 [AV.str y1.1,.int .i64 y3.1,.int .i64 y5.1,.int .i64 y5.2.1,AV.str y5.2.2.1,AV.view 4 y5.2.2.2.1,
 .int .i64 y7.1,.int .i64 y7.2.1,AV.str y7.2.2.1,AV.view 4 y7.2.2.2.1]])))))
 (.no))
 (.no))
 (.no))
 (.no))
 (.no))
 (.no))
 (.no))
 (.no))
 (.at (.done 0)))
 (.no)
def qvC(x0:List AV)(x1 x2 x3:Int)(x4 x5 x6:List UInt8)(x7 x8:Int)(x9 x10:Int)(x11:Bool)(x12 x13:Int)(x14 x15:Bool)(x16 x17:Int)(x18:Bool)(x19 x20 x21:List UInt8)(x22 x23:Int)(x24 x25:Int)(x26:List AV)(x27:Bool)(x28 x29:Int)(x30:Bool)(x31:List AV)(x32:Bool)(x33 x34:Int)(x35:Bool)(x36:List AV):DT (Rd qeI):=
 .bi (qap [102,101,101] x0 x1 x2 x3) (fun y0=>
 .br (y0.1)
 (.bi (qgv 1 y0.2.1 y0.2.2.1 y0.2.2.2.1 y0.f) (fun y1=>
 .bi (qpT) (fun y2=>
 .bi (qg4 y2 y1.2.1 y1.2.2.1 y1.2.2.2.1 y1.f) (fun y3=>
 .bi (qa0 [AV.str [119,104,101,110]] y3.2.1 y3.2.2.1 y3.2.2.2.1 y3.f) (fun y4=>
 .bi (qjv y4.1 y4.2.1 y4.2.2.1 y4.2.2.2) (fun y5=>
 .bi (qa0 [AV.str [97,109,111,117,110,116,95,111,102]] y5.f.1 y5.f.2.1 y5.f.2.2.1
 y5.f.2.2.2) (fun y6=>
 .bi (qjv y6.1 y6.2.1 y6.2.2.1 y6.2.2.2) (fun y7=>
 .bi (qa0 [AV.str [59]] y7.f.1 y7.f.2.1 y7.f.2.2.1 y7.f.2.2.2) (fun y8=>
 .br (room (x36.length+1) 136)
 (.at (.next ((.inr (y8.1,y8.2.1,y8.2.2.1,y8.2.2.2,x4,x5,x6,x7,x8,x9,x10,x11,x12,x13,x14,x15,x16,x17,x18,x19,x20,x21,x22,x23,x24,x25,x26,x27,x28,x29,x30,x31,x32,x33,x34,x35,x36 ++
 [AV.agg
 [AV.str y1.1,.int .i64 y3.1,.int .i64 y5.1,.int .i64 y5.2.1,AV.str y5.2.2.1,AV.view 4 y5.2.2.2.1,
 .int .i64 y7.1,.int .i64 y7.2.1,AV.str y7.2.2.1,AV.view 4 y7.2.2.2.1]])))))
 (.no))
 (.no))
 (.no))
 (.no))
 (.no))
 (.no))
 (.no))
 (.no))
 (.no))
 (.at (.done 1)))
 (.no)
def qeU:qeI->DT (Rd qeI):=(Sum.elim (fun v=>qvB v.1 v.2.1 v.2.2.1 v.2.2.2.1 v.f.1 v.f.2.1 v.f.2.2.1 v.f.2.2.2.1 v.h.1 v.h.2.1 v.h.2.2.1 v.h.2.2.2.1 v.h.f.1 v.h.f.2.1 v.h.f.2.2.1 v.h.f.2.2.2.1 v.i.1 v.i.2.1 v.i.2.2.1 v.i.2.2.2.1 v.i.f.1 v.i.f.2.1 v.i.f.2.2.1 v.i.f.2.2.2.1 v.i.h.1 v.i.h.2.1 v.i.h.2.2.1 v.i.h.2.2.2.1 v.i.h.f.1 v.i.h.f.2.1 v.i.h.f.2.2.1 v.i.h.f.2.2.2.1 v.i.i.1 v.i.i.2.1 v.i.i.2.2.1 v.i.i.2.2.2) (fun v=>qvC v.1 v.2.1 v.2.2.1 v.2.2.2.1 v.f.1 v.f.2.1 v.f.2.2.1 v.f.2.2.2.1 v.h.1 v.h.2.1 v.h.2.2.1 v.h.2.2.2.1 v.h.f.1 v.h.f.2.1 v.h.f.2.2.1 v.h.f.2.2.2.1 v.i.1 v.i.2.1 v.i.2.2.1 v.i.2.2.2.1 v.i.f.1 v.i.f.2.1 v.i.f.2.2.1 v.i.f.2.2.2.1 v.i.h.1 v.i.h.2.1 v.i.h.2.2.1 v.i.h.2.2.2.1 v.i.h.f.1 v.i.h.f.2.1 v.i.h.f.2.2.1 v.i.h.f.2.2.2.1 v.i.i.1 v.i.i.2.1 v.i.i.2.2.1 v.i.i.2.2.2.1 v.i.i.f))
def qKu(v:qeI):Option (Nat×qeI):=qaz (qaf (fun v=>(qeU v).ev) v)
theorem qgz(v):qKu v=qaf (fun v=>(qeU v).ev) v:=qaa _
def qV3:qbQ:=LE (τ:=qeI) (hD qVo) (qKu) zm6
theorem zmn:Go.Eng.Told IP (qad F41 0).1 (qad F41 0).2 (qV3):=qav (inferInstance:Inhabited qeI) (hs:=qVo) (st:=qeU) (L:=[]) qS8 (qac (l:=[]) (by kernel_rfl) trivial) (qgz) (fun v=>match v with|(.inl v)=>by kernel_rfl|(.inr v)=>by kernel_rfl) (fun v=>match v with|(.inl v)=>by kernel_rfl|(.inr v)=>by kernel_rfl)
abbrev q74:Type:=List AV
def zaO:PArgs:=⟨[],[]⟩
def zbG:List PRes:=[⟨false,.view 1,[]⟩]
def qB9:DT q74:=
 .at ([AV.str ([]++[115]++[105]++[110]++[103]++[108]++[101]),AV.str ([]++[100]++[97]++[105]++[108]++[121]),
 AV.str ([]++[109]++[111]++[110]++[116]++[104]++[108]++[121])])
def qlI:Option q74:=qaz (qB9).ev
theorem qU9:qlI=(qB9).ev:=qaa _
theorem zkE:FH IP 23 zaO zbG (fun _=>qlI):=qah (F:=F23) (L:=[]) (t:=(fun _=>qB9)) qS8 (qac (l:=[]) (by kernel_rfl) trivial) (by kernel_rfl) (fun v=>by kernel_rfl) (fun _=>qaa _)
def T52:Tab:=(23,FE zaO zbG (fun _=>qlI))::T51
theorem qS9:qan IP T52:=⟨qam zkE,qS8⟩
end
end Go.Proofs.H16
namespace Go.Proofs.H16
open Go Go.Eng
set_option maxRecDepth 100000
noncomputable section
abbrev qcq:Type:=(List AV×Int×Int×Int×List UInt8×List UInt8×List UInt8×Int×Int×Int×Int×Bool×Int×Int×Bool×Bool×Int×Int×Bool×List UInt8×List UInt8×List UInt8×Int×Int×Int×Int×List AV×Bool×Int×Int×Bool×List AV×Bool×Int×Int×Bool)⊕(List AV×Int×Int×Int×List UInt8×List UInt8×List UInt8×Int×Int×Int×Int×Bool×Int×Int×Bool×Bool×Int×Int×Bool×List UInt8×List UInt8×List UInt8×Int×Int×Int×Int×List AV×Bool×Int×Int×Bool×List AV×Bool×Int×Int×Bool×List AV)⊕(List AV×Int×Int×Int×List UInt8×List UInt8×List UInt8×Int×Int×Int×Int×Bool×Int×Int×Bool×Bool×Int×Int×Bool×List UInt8×List UInt8×List UInt8×Int×Int×Int×Int×List AV×Bool×Int×Int×Bool×List AV×Bool×Int×Int×Bool×List AV)⊕(List AV×Int×Int×Int×List UInt8×List UInt8×List UInt8×Int×Int×Int×Int×Bool×Int×Int×Bool×Bool×Int×Int×Bool×List UInt8×List UInt8×List UInt8×Int×Int×Int×Int×List AV×Bool×Int×Int×Bool×List AV×Bool×Int×Int×Bool×List AV×List AV)
def qVp:List PSt:=[⟨[(1004101,.junk),(0,.ref 0 0 0),(2,.ref 1 0 0),(3,.ref 2 0 0)],[(0,.box [.view 3,.int .i64,.int .i64,.int .i64] false),(1,.box [.str,.str,.str,.int .i64,.int .i64,.int .i64,.int .i64,.nils 2,.bool,.int .i64,.int .i64,.bool,.nils 2,.bool,.int .i64,.int .i64,.bool,.nils 10,.nils 6] false),(2,.box [.str,.str,.str,.int .i64,.int .i64,.int .i64,.int .i64,.view 2,.bool,.int .i64,.int .i64,.bool,.view 2,.bool,.int .i64,.int .i64,.bool,.nils 10,.nils 6] false)],3,1⟩,⟨[(1004101,.junk),(0,.ref 0 0 0),(2,.ref 1 0 0),(3,.ref 2 0 0)],[(0,.box [.view 3,.int .i64,.int .i64,.int .i64] false),(1,.box [.str,.str,.str,.int .i64,.int .i64,.int .i64,.int .i64,.nils 2,.bool,.int .i64,.int .i64,.bool,.nils 2,.bool,.int .i64,.int .i64,.bool,.nils 10,.nils 6] false),(2,.box [.str,.str,.str,.int .i64,.int .i64,.int .i64,.int .i64,.view 2,.bool,.int .i64,.int .i64,.bool,.view 2,.bool,.int .i64,.int .i64,.bool,.own 3 0,.nils 6] false),(3,.arr 10 false)],4,1⟩,⟨[(1004101,.junk),(0,.ref 0 0 0),(2,.ref 1 0 0),(3,.ref 2 0 0)],[(0,.box [.view 3,.int .i64,.int .i64,.int .i64] false),(1,.box [.str,.str,.str,.int .i64,.int .i64,.int .i64,.int .i64,.nils 2,.bool,.int .i64,.int .i64,.bool,.nils 2,.bool,.int .i64,.int .i64,.bool,.nils 10,.nils 6] false),(2,.box [.str,.str,.str,.int .i64,.int .i64,.int .i64,.int .i64,.view 2,.bool,.int .i64,.int .i64,.bool,.view 2,.bool,.int .i64,.int .i64,.bool,.nils 10,.own 3 0] false),(3,.arr 6 false)],4,1⟩,⟨[(1004101,.junk),(0,.ref 0 0 0),(2,.ref 1 0 0),(3,.ref 2 0 0)],[(0,.box [.view 3,.int .i64,.int .i64,.int .i64] false),(1,.box [.str,.str,.str,.int .i64,.int .i64,.int .i64,.int .i64,.nils 2,.bool,.int .i64,.int .i64,.bool,.nils 2,.bool,.int .i64,.int .i64,.bool,.nils 10,.nils 6] false),(2,.box [.str,.str,.str,.int .i64,.int .i64,.int .i64,.int .i64,.view 2,.bool,.int .i64,.int .i64,.bool,.view 2,.bool,.int .i64,.int .i64,.bool,.own 3 0,.own 4 0] false),(3,.arr 10 false),(4,.arr 6 false)],5,1⟩]
def q6z(x0:List AV)(x1 x2 x3:Int)(x4 x5 x6:List UInt8)(x7 x8:Int)(x9 x10:Int)(x11:Bool)(x12 x13:Int)(x14 x15:Bool)(x16 x17:Int)(x18:Bool)(x19 x20 x21:List UInt8)(x22 x23:Int)(x24 x25:Int)(x26:List AV)(x27:Bool)(x28 x29:Int)(x30:Bool)(x31:List AV)(x32:Bool)(x33 x34:Int)(x35:Bool):X×St:=(.exit 1000003,
 ⟨[(0,.ref 0 0 0),(2,.ref 1 0 0),(3,.ref 2 0 0)],[(0,
 .box
 [.view 3 (gv (qap [108,105,109,105,116] x0 x1 x2 x3)).2.1,
 .int .i64 (gv (qap [108,105,109,105,116] x0 x1 x2 x3)).2.2.1,
 .int .i64 (gv (qap [108,105,109,105,116] x0 x1 x2 x3)).2.2.2.1,
 .int .i64 (gv (qap [108,105,109,105,116] x0 x1 x2 x3)).f]
 false),
 (1,
 .box
 [.str x4,.str x5,.str x6,.int .i64 x7,.int .i64 x8,.int .i64 x9,.int .i64 x10,.nils ⟨2,.nil⟩,
 .bool x11,.int .i64 x12,.int .i64 x13,.bool x14,.nils ⟨2,.nil⟩,.bool x15,.int .i64 x16,
 .int .i64 x17,.bool x18,.nils ⟨10,.nil⟩,.nils ⟨6,.nil⟩]
 false),
 (2,
 .box
 [.str x19,.str x20,.str x21,.int .i64 x22,.int .i64 x23,.int .i64 x24,.int .i64 x25,.view 2 x26,.bool x27,
 .int .i64 x28,.int .i64 x29,.bool x30,.view 2 x31,.bool x32,.int .i64 x33,.int .i64 x34,.bool x35,
 .nils ⟨10,.nil⟩,.nils ⟨6,.nil⟩]
 false)],3,1⟩)
def q6A(x0:List AV)(x1 x2 x3:Int)(x4 x5 x6:List UInt8)(x7 x8:Int)(x9 x10:Int)(x11:Bool)(x12 x13:Int)(x14 x15:Bool)(x16 x17:Int)(x18:Bool)(x19 x20 x21:List UInt8)(x22 x23:Int)(x24 x25:Int)(x26:List AV)(x27:Bool)(x28 x29:Int)(x30:Bool)(x31:List AV)(x32:Bool)(x33 x34:Int)(x35:Bool)(x36:List AV):X×St:=(.exit 1000003,
 ⟨[(0,.ref 0 0 0),(2,.ref 1 0 0),(3,.ref 2 0 0)],[(0,
 .box
 [.view 3 (gv (qap [108,105,109,105,116] x0 x1 x2 x3)).2.1,
 .int .i64 (gv (qap [108,105,109,105,116] x0 x1 x2 x3)).2.2.1,
 .int .i64 (gv (qap [108,105,109,105,116] x0 x1 x2 x3)).2.2.2.1,
 .int .i64 (gv (qap [108,105,109,105,116] x0 x1 x2 x3)).f]
 false),
 (1,
 .box
 [.str x4,.str x5,.str x6,.int .i64 x7,.int .i64 x8,.int .i64 x9,.int .i64 x10,.nils ⟨2,.nil⟩,
 .bool x11,.int .i64 x12,.int .i64 x13,.bool x14,.nils ⟨2,.nil⟩,.bool x15,.int .i64 x16,
 .int .i64 x17,.bool x18,.nils ⟨10,.nil⟩,.nils ⟨6,.nil⟩]
 false),
 (2,
 .box
 [.str x19,.str x20,.str x21,.int .i64 x22,.int .i64 x23,.int .i64 x24,.int .i64 x25,.view 2 x26,.bool x27,
 .int .i64 x28,.int .i64 x29,.bool x30,.view 2 x31,.bool x32,.int .i64 x33,.int .i64 x34,.bool x35,.own 3 0 none,
 .nils ⟨6,.nil⟩]
 false),
 (3,.arr 10 x36 false)],4,1⟩)
def q6B(x0:List AV)(x1 x2 x3:Int)(x4 x5 x6:List UInt8)(x7 x8:Int)(x9 x10:Int)(x11:Bool)(x12 x13:Int)(x14 x15:Bool)(x16 x17:Int)(x18:Bool)(x19 x20 x21:List UInt8)(x22 x23:Int)(x24 x25:Int)(x26:List AV)(x27:Bool)(x28 x29:Int)(x30:Bool)(x31:List AV)(x32:Bool)(x33 x34:Int)(x35:Bool)(x36:List AV):X×St:=(.exit 1000003,
 ⟨[(0,.ref 0 0 0),(2,.ref 1 0 0),(3,.ref 2 0 0)],[(0,
 .box
 [.view 3 (gv (qap [108,105,109,105,116] x0 x1 x2 x3)).2.1,
 .int .i64 (gv (qap [108,105,109,105,116] x0 x1 x2 x3)).2.2.1,
 .int .i64 (gv (qap [108,105,109,105,116] x0 x1 x2 x3)).2.2.2.1,
 .int .i64 (gv (qap [108,105,109,105,116] x0 x1 x2 x3)).f]
 false),
 (1,
 .box
 [.str x4,.str x5,.str x6,.int .i64 x7,.int .i64 x8,.int .i64 x9,.int .i64 x10,.nils ⟨2,.nil⟩,
 .bool x11,.int .i64 x12,.int .i64 x13,.bool x14,.nils ⟨2,.nil⟩,.bool x15,.int .i64 x16,
 .int .i64 x17,.bool x18,.nils ⟨10,.nil⟩,.nils ⟨6,.nil⟩]
 false),
 (2,
 .box
 [.str x19,.str x20,.str x21,.int .i64 x22,.int .i64 x23,.int .i64 x24,.int .i64 x25,.view 2 x26,.bool x27,
 .int .i64 x28,.int .i64 x29,.bool x30,.view 2 x31,.bool x32,.int .i64 x33,.int .i64 x34,.bool x35,
 .nils ⟨10,.nil⟩,.own 3 0 none]
 false),
 (3,.arr 6 x36 false)],4,1⟩)
def q6C(x0:List AV)(x1 x2 x3:Int)(x4 x5 x6:List UInt8)(x7 x8:Int)(x9 x10:Int)(x11:Bool)(x12 x13:Int)(x14 x15:Bool)(x16 x17:Int)(x18:Bool)(x19 x20 x21:List UInt8)(x22 x23:Int)(x24 x25:Int)(x26:List AV)(x27:Bool)(x28 x29:Int)(x30:Bool)(x31:List AV)(x32:Bool)(x33 x34:Int)(x35:Bool)(x36 x37:List AV):X×St:=(.exit 1000003,
 ⟨[(0,.ref 0 0 0),(2,.ref 1 0 0),(3,.ref 2 0 0)],[(0,
 .box
 [.view 3 (gv (qap [108,105,109,105,116] x0 x1 x2 x3)).2.1,
 .int .i64 (gv (qap [108,105,109,105,116] x0 x1 x2 x3)).2.2.1,
 .int .i64 (gv (qap [108,105,109,105,116] x0 x1 x2 x3)).2.2.2.1,
 .int .i64 (gv (qap [108,105,109,105,116] x0 x1 x2 x3)).f]
 false),
 (1,
 .box
 [.str x4,.str x5,.str x6,.int .i64 x7,.int .i64 x8,.int .i64 x9,.int .i64 x10,.nils ⟨2,.nil⟩,
 .bool x11,.int .i64 x12,.int .i64 x13,.bool x14,.nils ⟨2,.nil⟩,.bool x15,.int .i64 x16,
 .int .i64 x17,.bool x18,.nils ⟨10,.nil⟩,.nils ⟨6,.nil⟩]
 false),
 (2,
 .box
 [.str x19,.str x20,.str x21,.int .i64 x22,.int .i64 x23,.int .i64 x24,.int .i64 x25,.view 2 x26,.bool x27,
 .int .i64 x28,.int .i64 x29,.bool x30,.view 2 x31,.bool x32,.int .i64 x33,.int .i64 x34,.bool x35,.own 3 0 none,
 .own 4 0 none]
 false),
 (3,.arr 10 x36 false),(4,.arr 6 x37 false)],5,1⟩)
def zm7:List (qcq->X×St):=[fun w=>(k36 q6z) ((sl w)),fun w=>(k37 q6A) ((sl (sr w))),fun w=>(k37 q6B) ((sl (sr (sr w)))),fun w=>(k38 q6C) ((sr (sr (sr w))))]
def qvD(x0:List AV)(x1 x2 x3:Int)(x4 x5 x6:List UInt8)(x7 x8:Int)(x9 x10:Int)(x11:Bool)(x12 x13:Int)(x14 x15:Bool)(x16 x17:Int)(x18:Bool)(x19 x20 x21:List UInt8)(x22 x23:Int)(x24 x25:Int)(x26:List AV)(x27:Bool)(x28 x29:Int)(x30:Bool)(x31:List AV)(x32:Bool)(x33 x34:Int)(x35:Bool):DT (Rd qcq):=
 .bi (qap [108,105,109,105,116] x0 x1 x2 x3) (fun y0=>
 .br (y0.1)
 (.bi (qgv 1 y0.2.1 y0.2.2.1 y0.2.2.2.1 y0.f) (fun y1=>
 .bi (qlI) (fun y2=>
 .bi (qg4 y2 y1.2.1 y1.2.2.1 y1.2.2.2.1 y1.f) (fun y3=>
 .bi (qjv y3.2.1 y3.2.2.1 y3.2.2.2.1 y3.f) (fun y4=>
 .bi (qa0 [AV.str [59]] y4.f.1 y4.f.2.1 y4.f.2.2.1 y4.f.2.2.2) (fun y5=>
 .at (.next ((.inr (.inr (.inl (y5.1,y5.2.1,y5.2.2.1,y5.2.2.2,x4,x5,x6,x7,x8,x9,x10,x11,x12,x13,x14,x15,x16,x17,x18,x19,x20,x21,x22,x23,x24,x25,x26,x27,x28,x29,x30,x31,x32,x33,x34,x35,[AV.agg [AV.str y1.1,.int .i64 y3.1,.int .i64 y4.1,.int .i64 y4.2.1,AV.str y4.2.2.1,AV.view 4 y4.2.2.2.1]])))))))
 (.no))
 (.no))
 (.no))
 (.no))
 (.no))
 (.at (.done 0)))
 (.no)
def qvE(x0:List AV)(x1 x2 x3:Int)(x4 x5 x6:List UInt8)(x7 x8:Int)(x9 x10:Int)(x11:Bool)(x12 x13:Int)(x14 x15:Bool)(x16 x17:Int)(x18:Bool)(x19 x20 x21:List UInt8)(x22 x23:Int)(x24 x25:Int)(x26:List AV)(x27:Bool)(x28 x29:Int)(x30:Bool)(x31:List AV)(x32:Bool)(x33 x34:Int)(x35:Bool)(x36:List AV):DT (Rd qcq):=
 .bi (qap [108,105,109,105,116] x0 x1 x2 x3) (fun y0=>
 .br (y0.1)
 (.bi (qgv 1 y0.2.1 y0.2.2.1 y0.2.2.2.1 y0.f) (fun y1=>
 .bi (qlI) (fun y2=>
 .bi (qg4 y2 y1.2.1 y1.2.2.1 y1.2.2.2.1 y1.f) (fun y3=>
 .bi (qjv y3.2.1 y3.2.2.1 y3.2.2.2.1 y3.f) (fun y4=>
 .bi (qa0 [AV.str [59]] y4.f.1 y4.f.2.1 y4.f.2.2.1 y4.f.2.2.2) (fun y5=>
 .at (.next ((.inr (.inr (.inr (y5.1,y5.2.1,y5.2.2.1,y5.2.2.2,x4,x5,x6,x7,x8,x9,x10,x11,x12,x13,x14,x15,x16,x17,x18,x19,x20,x21,x22,x23,x24,x25,x26,x27,x28,x29,x30,x31,x32,x33,x34,x35,x36,[AV.agg [AV.str y1.1,.int .i64 y3.1,.int .i64 y4.1,.int .i64 y4.2.1,AV.str y4.2.2.1,AV.view 4 y4.2.2.2.1]])))))))
 (.no))
 (.no))
 (.no))
 (.no))
 (.no))
 (.at (.done 1)))
 (.no)
def qvF(x0:List AV)(x1 x2 x3:Int)(x4 x5 x6:List UInt8)(x7 x8:Int)(x9 x10:Int)(x11:Bool)(x12 x13:Int)(x14 x15:Bool)(x16 x17:Int)(x18:Bool)(x19 x20 x21:List UInt8)(x22 x23:Int)(x24 x25:Int)(x26:List AV)(x27:Bool)(x28 x29:Int)(x30:Bool)(x31:List AV)(x32:Bool)(x33 x34:Int)(x35:Bool)(x36:List AV):DT (Rd qcq):=
 .bi (qap [108,105,109,105,116] x0 x1 x2 x3) (fun y0=>
 .br (y0.1)
 (.bi (qgv 1 y0.2.1 y0.2.2.1 y0.2.2.2.1 y0.f) (fun y1=>
 .bi (qlI) (fun y2=>
 .bi (qg4 y2 y1.2.1 y1.2.2.1 y1.2.2.2.1 y1.f) (fun y3=>
 .bi (qjv y3.2.1 y3.2.2.1 y3.2.2.2.1 y3.f) (fun y4=>
 .bi (qa0 [AV.str [59]] y4.f.1 y4.f.2.1 y4.f.2.2.1 y4.f.2.2.2) (fun y5=>
 .br (room (x36.length+1) 80)
 (.at (.next ((.inr (.inr (.inl (y5.1,y5.2.1,y5.2.2.1,y5.2.2.2,x4,x5,x6,x7,x8,x9,x10,x11,x12,x13,x14,x15,x16,x17,x18,x19,x20,x21,x22,x23,x24,x25,x26,x27,x28,x29,x30,x31,x32,x33,x34,x35,x36++[AV.agg [AV.str y1.1,.int .i64 y3.1,.int .i64 y4.1,.int .i64 y4.2.1,AV.str y4.2.2.1,AV.view 4 y4.2.2.2.1]])))))))
 (.no))
 (.no))
 (.no))
 (.no))
 (.no))
 (.no))
 (.at (.done 2)))
 (.no)
def qvG(x0:List AV)(x1 x2 x3:Int)(x4 x5 x6:List UInt8)(x7 x8:Int)(x9 x10:Int)(x11:Bool)(x12 x13:Int)(x14 x15:Bool)(x16 x17:Int)(x18:Bool)(x19 x20 x21:List UInt8)(x22 x23:Int)(x24 x25:Int)(x26:List AV)(x27:Bool)(x28 x29:Int)(x30:Bool)(x31:List AV)(x32:Bool)(x33 x34:Int)(x35:Bool)(x36 x37:List AV):DT (Rd qcq):=
 .bi (qap [108,105,109,105,116] x0 x1 x2 x3) (fun y0=>
 .br (y0.1)
 (.bi (qgv 1 y0.2.1 y0.2.2.1 y0.2.2.2.1 y0.f) (fun y1=>
 .bi (qlI) (fun y2=>
 .bi (qg4 y2 y1.2.1 y1.2.2.1 y1.2.2.2.1 y1.f) (fun y3=>
 .bi (qjv y3.2.1 y3.2.2.1 y3.2.2.2.1 y3.f) (fun y4=>
 .bi (qa0 [AV.str [59]] y4.f.1 y4.f.2.1 y4.f.2.2.1 y4.f.2.2.2) (fun y5=>
 .br (room (x37.length+1) 80)
 (.at (.next ((.inr (.inr (.inr (y5.1,y5.2.1,y5.2.2.1,y5.2.2.2,x4,x5,x6,x7,x8,x9,x10,x11,x12,x13,x14,x15,x16,x17,x18,x19,x20,x21,x22,x23,x24,x25,x26,x27,x28,x29,x30,x31,x32,x33,x34,x35,x36,x37++[AV.agg [AV.str y1.1,.int .i64 y3.1,.int .i64 y4.1,.int .i64 y4.2.1,AV.str y4.2.2.1,AV.view 4 y4.2.2.2.1]])))))))
 (.no))
 (.no))
 (.no))
 (.no))
 (.no))
 (.no))
 (.at (.done 3)))
 (.no)
def qcc:qcq->DT (Rd qcq):=(Sum.elim (fun v=>qvD v.1 v.2.1 v.2.2.1 v.2.2.2.1 v.f.1 v.f.2.1 v.f.2.2.1 v.f.2.2.2.1 v.h.1 v.h.2.1 v.h.2.2.1 v.h.2.2.2.1 v.h.f.1 v.h.f.2.1 v.h.f.2.2.1 v.h.f.2.2.2.1 v.i.1 v.i.2.1 v.i.2.2.1 v.i.2.2.2.1 v.i.f.1 v.i.f.2.1 v.i.f.2.2.1 v.i.f.2.2.2.1 v.i.h.1 v.i.h.2.1 v.i.h.2.2.1 v.i.h.2.2.2.1 v.i.h.f.1 v.i.h.f.2.1 v.i.h.f.2.2.1 v.i.h.f.2.2.2.1 v.i.i.1 v.i.i.2.1 v.i.i.2.2.1 v.i.i.2.2.2) (Sum.elim (fun v=>qvE v.1 v.2.1 v.2.2.1 v.2.2.2.1 v.f.1 v.f.2.1 v.f.2.2.1 v.f.2.2.2.1 v.h.1 v.h.2.1 v.h.2.2.1 v.h.2.2.2.1 v.h.f.1 v.h.f.2.1 v.h.f.2.2.1 v.h.f.2.2.2.1 v.i.1 v.i.2.1 v.i.2.2.1 v.i.2.2.2.1 v.i.f.1 v.i.f.2.1 v.i.f.2.2.1 v.i.f.2.2.2.1 v.i.h.1 v.i.h.2.1 v.i.h.2.2.1 v.i.h.2.2.2.1 v.i.h.f.1 v.i.h.f.2.1 v.i.h.f.2.2.1 v.i.h.f.2.2.2.1 v.i.i.1 v.i.i.2.1 v.i.i.2.2.1 v.i.i.2.2.2.1 v.i.i.f) (Sum.elim (fun v=>qvF v.1 v.2.1 v.2.2.1 v.2.2.2.1 v.f.1 v.f.2.1 v.f.2.2.1 v.f.2.2.2.1 v.h.1 v.h.2.1 v.h.2.2.1 v.h.2.2.2.1 v.h.f.1 v.h.f.2.1 v.h.f.2.2.1 v.h.f.2.2.2.1 v.i.1 v.i.2.1 v.i.2.2.1 v.i.2.2.2.1 v.i.f.1 v.i.f.2.1 v.i.f.2.2.1 v.i.f.2.2.2.1 v.i.h.1 v.i.h.2.1 v.i.h.2.2.1 v.i.h.2.2.2.1 v.i.h.f.1 v.i.h.f.2.1 v.i.h.f.2.2.1 v.i.h.f.2.2.2.1 v.i.i.1 v.i.i.2.1 v.i.i.2.2.1 v.i.i.2.2.2.1 v.i.i.f) (fun v=>qvG v.1 v.2.1 v.2.2.1 v.2.2.2.1 v.f.1 v.f.2.1 v.f.2.2.1 v.f.2.2.2.1 v.h.1 v.h.2.1 v.h.2.2.1 v.h.2.2.2.1 v.h.f.1 v.h.f.2.1 v.h.f.2.2.1 v.h.f.2.2.2.1 v.i.1 v.i.2.1 v.i.2.2.1 v.i.2.2.2.1 v.i.f.1 v.i.f.2.1 v.i.f.2.2.1 v.i.f.2.2.2.1 v.i.h.1 v.i.h.2.1 v.i.h.2.2.1 v.i.h.2.2.2.1 v.i.h.f.1 v.i.h.f.2.1 v.i.h.f.2.2.1 v.i.h.f.2.2.2.1 v.i.i.1 v.i.i.2.1 v.i.i.2.2.1 v.i.i.2.2.2.1 v.i.i.f.1 v.i.i.f.2))))
def qlJ(v:qcq):Option (Nat×qcq):=qaz (qaf (fun v=>(qcc v).ev) v)
theorem qcK(v):qlJ v=qaf (fun v=>(qcc v).ev) v:=qaa _
def qV4:qbQ:=LE (τ:=qcq) (hD qVp) (qlJ) zm7
theorem zmo:Go.Eng.Told IP (qad F41 1).1 (qad F41 1).2 (qV4):=qav (inferInstance:Inhabited qcq) (hs:=qVp) (st:=qcc) (L:=[]) qS9 (qac (l:=[]) (by kernel_rfl) trivial) (qcK) (fun v=>match v with|(.inl v)=>by kernel_rfl|(.inr (.inl v))=>by kernel_rfl|(.inr (.inr (.inl v)))=>by kernel_rfl|(.inr (.inr (.inr v)))=>by kernel_rfl) (fun v=>match v with|(.inl v)=>by kernel_rfl|(.inr (.inl v))=>by kernel_rfl|(.inr (.inr (.inl v)))=>by kernel_rfl|(.inr (.inr (.inr v)))=>by kernel_rfl)
end
end Go.Proofs.H16

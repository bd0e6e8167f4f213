/- Functions over plain data. Printed by a program of mine. -/
import Derived.Test.YtjhhnkemeegahaaGreatDoorD16_7
import Derived.KernelRfl
set_option linter.all false
namespace Go.Proofs.H16
open Go Go.Eng
set_option maxRecDepth 100000
noncomputable section
abbrev qcT:Type:=(Int×Int×Int×List UInt8×List AV×List AV)⊕(Int×Int×Int×List UInt8×List AV)⊕(List AV×Int×Int×Int×List UInt8×List AV)
def qKO:List PSt:=[⟨[(1013400,.junk),(1,.ref 0 0 0),(3,.own 1 0),(4,.int .i64)],[(0,.box [.int .i64,.int .i64,.str,.view 4] false),(1,.arr 1 false)],2,0⟩,⟨[(1013400,.junk),(1,.ref 0 0 0),(3,.nils 1),(4,.int .i64)],[(0,.box [.int .i64,.int .i64,.str,.view 4] false)],1,0⟩,⟨[(1013400,.junk),(1,.ref 0 0 0),(3,.view 1),(4,.int .i64)],[(0,.box [.int .i64,.int .i64,.str,.view 4] false)],1,0⟩]
def q4a(x0 x1 x2:Int)(x3:List UInt8)(x4 x5:List AV):X×St:=(.exit 0,⟨[(3,.own 0 0 none)],[(0,.arr 1 x5 false)],1,0⟩)
def q4b(x0 x1 x2:Int)(x3:List UInt8)(x4:List AV):X×St:=(.exit 0,⟨[(3,.nils ⟨1,.nil⟩)],[],0,0⟩)
def q4c(x0:List AV)(x1 x2 x3:Int)(x4:List UInt8)(x5:List AV):X×St:=(.exit 0,⟨[(3,.view 1 x0)],[],0,0⟩)
def zi4:List (qcT->X×St):=[fun w=>(k6 q4a) ((sl w)),fun w=>(k5 q4b) ((sl (sr w))),fun w=>(k6 q4c) ((sr (sr w)))]
def qiv(G_u249q:qcS)(x0 x1 x2:Int)(x3:List UInt8)(x4 x5:List AV):DT (Rd qcT):=
 .br (decide (x0<(x4.length:Int)))
 (.br (qaD [.int .i64,.int .i64,.str,.slice 4] x4 x0)
 (.bi (G_u249q (intOf (cellAt x4 x0 0)) (intOf (cellAt x4 x0 1)) (strOf (cellAt x4 x0 2)) (qap (cellAt x4 x0 3))) (fun y0=>
 .bi (pj 0 (qeq (Sum.inl (x0,y0,0,x1,x2,x3,x4,x5)))) (fun y1=>
 .at (.next ((.inl (IntKind.i64.wrap ((sl y1).1+1),(sl y1).2.2.2)))))
 (.bi (pj 1 (qeq (Sum.inl (x0,y0,0,x1,x2,x3,x4,x5)))) (fun y1=>
 .at (.next ((.inr (.inl (IntKind.i64.wrap ((sl (sr y1)).1+1),(sl (sr y1)).2.2.2))))))
 (.bi (pj 2 (qeq (Sum.inl (x0,y0,0,x1,x2,x3,x4,x5)))) (fun y1=>
 .at (.next ((.inr (.inr ((sr (sr y1)).1,IntKind.i64.wrap ((sr (sr y1)).2.1+1),(sr (sr y1)).f))))))
 (.no))))
 (.no))
 (.no))
 (.at (.done 0))
def qiw(G_u249q:qcS)(x0 x1 x2:Int)(x3:List UInt8)(x4:List AV):DT (Rd qcT):=
 .br (decide (x0<(x4.length:Int)))
 (.br (qaD [.int .i64,.int .i64,.str,.slice 4] x4 x0)
 (.bi (G_u249q (intOf (cellAt x4 x0 0)) (intOf (cellAt x4 x0 1)) (strOf (cellAt x4 x0 2)) (qap (cellAt x4 x0 3))) (fun y0=>
 .bi (pj 0 (qeq (Sum.inr (Sum.inl (x0,y0,0,x1,x2,x3,x4))))) (fun y1=>
 .at (.next ((.inl (IntKind.i64.wrap ((sl y1).1+1),(sl y1).2.2.2)))))
 (.bi (pj 1 (qeq (Sum.inr (Sum.inl (x0,y0,0,x1,x2,x3,x4))))) (fun y1=>
 .at (.next ((.inr (.inl (IntKind.i64.wrap ((sl (sr y1)).1+1),(sl (sr y1)).2.2.2))))))
 (.bi (pj 2 (qeq (Sum.inr (Sum.inl (x0,y0,0,x1,x2,x3,x4))))) (fun y1=>
 .at (.next ((.inr (.inr ((sr (sr y1)).1,IntKind.i64.wrap ((sr (sr y1)).2.1+1),(sr (sr y1)).f))))))
 (.no))))
 (.no))
 (.no))
 (.at (.done 1))
def qix(G_u249q:qcS)(x0:List AV)(x1 x2 x3:Int)(x4:List UInt8)(x5:List AV):DT (Rd qcT):=
 .br (decide (x1<(x5.length:Int)))
 (.br (qaD [.int .i64,.int .i64,.str,.slice 4] x5 x1)
 (.bi (G_u249q (intOf (cellAt x5 x1 0)) (intOf (cellAt x5 x1 1)) (strOf (cellAt x5 x1 2)) (qap (cellAt x5 x1 3))) (fun y0=>
 .bi (pj 0 (qeq (Sum.inr (Sum.inr (x0,x1,y0,0,x2,x3,x4,x5))))) (fun y1=>
 .at (.next ((.inl (IntKind.i64.wrap ((sl y1).1+1),(sl y1).2.2.2)))))
 (.bi (pj 1 (qeq (Sum.inr (Sum.inr (x0,x1,y0,0,x2,x3,x4,x5))))) (fun y1=>
 .at (.next ((.inr (.inl (IntKind.i64.wrap ((sl (sr y1)).1+1),(sl (sr y1)).2.2.2))))))
 (.bi (pj 2 (qeq (Sum.inr (Sum.inr (x0,x1,y0,0,x2,x3,x4,x5))))) (fun y1=>
 .at (.next ((.inr (.inr ((sr (sr y1)).1,IntKind.i64.wrap ((sr (sr y1)).2.1+1),(sr (sr y1)).f))))))
 (.no))))
 (.no))
 (.no))
 (.at (.done 2))
def qb3(G_u249q:qcS):qcT->DT (Rd qcT):=(Sum.elim (fun v=>qiv G_u249q v.1 v.2.1 v.2.2.1 v.2.2.2.1 v.f.1 v.f.2) (Sum.elim (fun v=>qiw G_u249q v.1 v.2.1 v.2.2.1 v.2.2.2.1 v.f) (fun v=>qix G_u249q v.1 v.2.1 v.2.2.1 v.2.2.2.1 v.f.1 v.f.2)))
def qgO(G_u249q:qcS)(v:qcT):Option (Nat×qcT):=qax (qae (fun v=>(qb3 G_u249q v).ev) v)
theorem qpd(G_u249q v):qgO G_u249q v=qae (fun v=>(qb3 G_u249q v).ev) v:=qaa _
def qL4(G_u249q:qcS):qbS:=LE (τ:=qcT) (hD qKO) (qgO G_u249q) zi4
theorem zhV(G_u249q:qcS)(hG:qzV G_u249q):Go.Eng.Told IP (qad qSH 0).1 (qad qSH 0).2 (qL4 G_u249q):=qat (inferInstance:Inhabited qcT) (hs:=qKO) (st:=qb3 G_u249q) (L:=[(1013401,qL5)]) (qtu G_u249q hG) (qac (l:=[qad qSH 1]) (by kernel_rfl) ⟨qas (by kernel_rfl) zhW,trivial⟩) (qpd G_u249q) (fun v=>match v with|(.inl v)=>by kernel_rfl|(.inr (.inl v))=>by kernel_rfl|(.inr (.inr v))=>by kernel_rfl) (fun v=>match v with|(.inl v)=>by kernel_rfl|(.inr (.inl v))=>by kernel_rfl|(.inr (.inr v))=>by kernel_rfl)
def qCb(G_u249q:qcS)(x0 x1:Int)(x2:List UInt8)(x3:List AV):DT qtk:=
 .br (x0==4)
 (.bi (pj 0 (qgO G_u249q (Sum.inl (0,x0,x1,x2,x3,[AV.str x2])))) (fun y0=>
 .at ((sl y0).f.2))
 (.bi (pj 1 (qgO G_u249q (Sum.inl (0,x0,x1,x2,x3,[AV.str x2])))) (fun y0=>
 .at ([]))
 (.bi (pj 2 (qgO G_u249q (Sum.inl (0,x0,x1,x2,x3,[AV.str x2])))) (fun y0=>
 .at ((sr (sr y0)).1))
 (.no))))
 (.bi (pj 0 (qgO G_u249q (Sum.inr (Sum.inl (0,x0,x1,x2,x3))))) (fun y0=>
 .at ((sl y0).f.2))
 (.bi (pj 1 (qgO G_u249q (Sum.inr (Sum.inl (0,x0,x1,x2,x3))))) (fun y0=>
 .at ([]))
 (.bi (pj 2 (qgO G_u249q (Sum.inr (Sum.inl (0,x0,x1,x2,x3))))) (fun y0=>
 .at ((sr (sr y0)).1))
 (.no))))
def qd9:Nat->qcS
 |0=>fun _ _ _ _=>none
 |n+1=>fun x0 x1 x2 x3=>(qCb ((qd9 n)) x0 x1 x2 x3).ev
def qAy(x0 x1:Int)(x2:List UInt8)(x3:List AV):Option qtk:=qjW fun n=>(qd9 n) x0 x1 x2 x3
theorem qxH:∀n,qzV ((qd9 n))
 |0=>(fun v y h=>nomatch h)
 |n+1=>have hG:=qxH n
 qag (F:=qSH) (L:=[(1013400,qL4 ((qd9 n)))]) (t:=(k4 (qCb ((qd9 n))))) (qtu ((qd9 n)) hG) (qac (l:=[qad qSH 0,qad qSH 1]) (by kernel_rfl) ⟨qas (by kernel_rfl) (zhV ((qd9 n)) hG),qM9 (by kernel_rfl),trivial⟩) (by kernel_rfl) (fun v=>by kernel_rfl) (fun v=>rfl)
theorem zfa:FH IP 134 qvQ qwh (k4 qAy):=qbM (p:=qvQ) (rs:=qwh) (s:=fun n=>(k4 ((qd9 n)))) fun n=>(qxH n)
def ztG:Tab:=(134,FE qvQ qwh (k4 qAy))::zpS
theorem qGo:qao IP ztG:=⟨qam zfa,qGn⟩
abbrev qff:Type:=List AV×Int
def qKn:List PSt:=[⟨[(1007500,.junk),(3,.view 1),(4,.int .i64)],[],0,0⟩]
def q3o(x0:List AV)(x1:Int):X×St:=(.ret,⟨[(2,.int .i64 4)],[],0,0⟩)
def q3p(x0:List AV)(x1:Int):X×St:=(.exit 0,⟨[(2,.junk)],[],0,0⟩)
def ziD:List (qff->X×St):=[(k2 q3o),(k2 q3p)]
def qpF(x0:List AV)(x1:Int):DT (Rd qff):=
 .br (decide (x1<(x0.length:Int)))
 (.br (qaD [.str] x0 x1)
 (.bi (qgz (strOf (cellAt x0 x1 0))) (fun y0=>
 .br (!y0) (.at (.done 0)) (.at (.next ((x0,IntKind.i64.wrap (x1+1))))))
 (.no))
 (.no))
 (.at (.done 1))
def qnT:qff->DT (Rd qff):=(fun v=>qpF v.1 v.2)
def qu1(v:qff):Option (Nat×qff):=qax (qae (fun v=>(qnT v).ev) v)
theorem qyp(v):qu1 v=qae (fun v=>(qnT v).ev) v:=qaa _
def qLD:qbS:=LE (τ:=qff) (hD qKn) (qu1) ziD
theorem zhu:Go.Eng.Told IP (qad F75 0).1 (qad F75 0).2 (qLD):=lp (inferInstance:Inhabited qff) (hs:=qKn) qnT qGo qyp
abbrev qQ1:Type:=Int
def qYh:PArgs:=⟨[.agg [.int .i64,.int .i64,.str,.view 4]],[]⟩
def q0D:List PRes:=[⟨false,.int .i64,[]⟩]
def qrK(x0 x1:Int)(x2:List UInt8)(x3:List AV):DT qQ1:=
 .bi (qe3 x0 x1 x2 x3 64) (fun y0=>
 .bi (br y0 (some true) (br (sm (quk x0 x1 x2 x3)) (some (decide (gv (quk x0 x1 x2 x3)>8))) none)) (fun y1=>
 .br (y1)
 (.at (5))
 (.bi (qAB x0 x1 x2 x3) (fun y2=>
 .br (!y2)
 (.at (1))
 (.bi (qAy x0 x1 x2 x3) (fun y3=>
 .bi (pj 0 (qu1 (y3,0))) (fun y4=>
 .at (4))
 (.bi (pj 1 (qu1 (y3,0))) (fun y4=>
 .at (0))
 (.no)))
 (.no)))
 (.no)))
 (.no))
 (.no)
def qi4(x0 x1:Int)(x2:List UInt8)(x3:List AV):Option qQ1:=qax (qrK x0 x1 x2 x3).ev
theorem qOf(x0 x1 x2 x3):qi4 x0 x1 x2 x3=(qrK x0 x1 x2 x3).ev:=qaa _
theorem zea:FH IP 75 qYh q0D (k4 qi4):=qag (F:=F75) (L:=[(1007500,qLD)]) (t:=(k4 qrK)) qGo (qac (l:=[qad F75 0]) (by kernel_rfl) ⟨qas (by kernel_rfl) zhu,trivial⟩) (by kernel_rfl) (fun v=>by kernel_rfl) (fun _=>qaa _)
def ztH:Tab:=(75,FE qYh q0D (k4 qi4))::ztG
theorem qGp:qao IP ztH:=⟨qam zea,qGo⟩
abbrev qeA:Type:=Int×List UInt8×List UInt8×List UInt8×Int×Int×Int×Int×List AV×Bool×Int×Int×Bool×List AV×Bool×Int×Int×Bool×List AV×List AV
def qKp:List PSt:=[⟨[(1002500,.junk),(1,.ref 0 0 0),(5,.int .i64)],[(0,.box [.str,.str,.str,.int .i64,.int .i64,.int .i64,.int .i64,.view 2,.bool,.int .i64,.int .i64,.bool,.view 2,.bool,.int .i64,.int .i64,.bool,.view 10,.view 6] false)],1,0⟩]
def q3s(x0:Int)(x1 x2 x3:List UInt8)(x4 x5:Int)(x6 x7:Int)(x8:List AV)(x9:Bool)(x10 x11:Int)(x12:Bool)(x13:List AV)(x14:Bool)(x15 x16:Int)(x17:Bool)(x18 x19:List AV):X×St:=(.ret,
 ⟨[(1,.ref 0 0 0),(2,.bool false)],[(0,
 .box
 [.str x1,.str x2,.str x3,.int .i64 x4,.int .i64 x5,.int .i64 x6,.int .i64 x7,.view 2 x8,.bool x9,
 .int .i64 x10,.int .i64 x11,.bool x12,.view 2 x13,.bool x14,.int .i64 x15,.int .i64 x16,.bool x17,.view 10 x18,
 .view 6 x19]
 false)],1,0⟩)
def q3t(x0:Int)(x1 x2 x3:List UInt8)(x4 x5:Int)(x6 x7:Int)(x8:List AV)(x9:Bool)(x10 x11:Int)(x12:Bool)(x13:List AV)(x14:Bool)(x15 x16:Int)(x17:Bool)(x18 x19:List AV):X×St:=(.exit 0,
 ⟨[(1,.ref 0 0 0),(2,.junk)],[(0,
 .box
 [.str x1,.str x2,.str x3,.int .i64 x4,.int .i64 x5,.int .i64 x6,.int .i64 x7,.view 2 x8,.bool x9,
 .int .i64 x10,.int .i64 x11,.bool x12,.view 2 x13,.bool x14,.int .i64 x15,.int .i64 x16,.bool x17,.view 10 x18,
 .view 6 x19]
 false)],1,0⟩)
def ziF:List (qeA->X×St):=[(k20 q3s),(k20 q3t)]
def qpH(x0:Int)(x1 x2 x3:List UInt8)(x4 x5:Int)(x6 x7:Int)(x8:List AV)(x9:Bool)(x10 x11:Int)(x12:Bool)(x13:List AV)(x14:Bool)(x15 x16:Int)(x17:Bool)(x18 x19:List AV):DT (Rd qeA):=
 .br (decide (x0<(x18.length:Int)))
 (.br (qaD [.str,.int .i64,.int .i64,.int .i64,.str,.slice 4,.int .i64,.int .i64,.str,.slice 4] x18 x0)
 (.bi (qgz (strOf (cellAt x18 x0 0))) (fun y0=>
 .br (!y0)
 (.at (.done 0))
 (.br (decide (intOf (cellAt x18 x0 1)<1))
 (.at (.done 0))
 (.bi (qkc) (fun y1=>
 .br (decide (intOf (cellAt x18 x0 1)>(y1.length:Int)))
 (.at (.done 0))
 (.bi (qi4 (intOf (cellAt x18 x0 2)) (intOf (cellAt x18 x0 3)) (strOf (cellAt x18 x0 4)) (qap (cellAt x18 x0 5))) (fun y2=>
 .br (y2 != 0)
 (.at (.done 0))
 (.bi (qi4 (intOf (cellAt x18 x0 6)) (intOf (cellAt x18 x0 7)) (strOf (cellAt x18 x0 8)) (qap (cellAt x18 x0 9))) (fun y3=>
 .br (y3 != 0) (.at (.done 0)) (.at (.next ((IntKind.i64.wrap (x0+1),x1,x2,x3,x4,x5,x6,x7,x8,x9,x10,x11,x12,x13,x14,x15,x16,x17,x18,x19)))))
 (.no)))
 (.no)))
 (.no))))
 (.no))
 (.no))
 (.at (.done 1))
def qnU:qeA->DT (Rd qeA):=(fun v=>qpH v.1 v.2.1 v.2.2.1 v.2.2.2.1 v.f.1 v.f.2.1 v.f.2.2.1 v.f.2.2.2.1 v.h.1 v.h.2.1 v.h.2.2.1 v.h.2.2.2.1 v.h.f.1 v.h.f.2.1 v.h.f.2.2.1 v.h.f.2.2.2.1 v.i.1 v.i.2.1 v.i.2.2.1 v.i.2.2.2)
def qu3(v:qeA):Option (Nat×qeA):=qax (qae (fun v=>(qnU v).ev) v)
theorem qyr(v):qu3 v=qae (fun v=>(qnU v).ev) v:=qaa _
def qLF:qbS:=LE (τ:=qeA) (hD qKp) (qu3) ziF
theorem zhw:Go.Eng.Told IP (qad F25 0).1 (qad F25 0).2 (qLF):=lp (inferInstance:Inhabited qeA) (hs:=qKp) qnU qGp qyr
abbrev qRe:Type:=List AV
def qYz:PArgs:=⟨[],[]⟩
def q0V:List PRes:=[⟨false,.view 1,[]⟩]
def qr7:DT qRe:=
 .at ([AV.str [115,105,110,103,108,101],AV.str [100,97,105,108,121],AV.str [109,111,110,116,104,108,121]])
def qhK:Option qRe:=qax (qr7).ev
theorem qOy:qhK=(qr7).ev:=qaa _
theorem zev:FH IP 37 qYz q0V (fun _=>qhK):=qag (F:=F37) (L:=[]) (t:=(fun _=>qr7)) qGp (qac (l:=[]) (by kernel_rfl) trivial) (by kernel_rfl) (fun v=>by kernel_rfl) (fun _=>qaa _)
def ztI:Tab:=(37,FE qYz q0V (fun _=>qhK))::ztH
theorem qGq:qao IP ztI:=⟨qam zev,qGp⟩
abbrev qfh:Type:=Int×List UInt8×List UInt8×List UInt8×Int×Int×Int×Int×List AV×Bool×Int×Int×Bool×List AV×Bool×Int×Int×Bool×List AV×List AV
def qKq:List PSt:=[⟨[(1002501,.junk),(1,.ref 0 0 0),(7,.int .i64)],[(0,.box [.str,.str,.str,.int .i64,.int .i64,.int .i64,.int .i64,.view 2,.bool,.int .i64,.int .i64,.bool,.view 2,.bool,.int .i64,.int .i64,.bool,.view 10,.view 6] false)],1,0⟩]
def q3u(x0:Int)(x1 x2 x3:List UInt8)(x4 x5:Int)(x6 x7:Int)(x8:List AV)(x9:Bool)(x10 x11:Int)(x12:Bool)(x13:List AV)(x14:Bool)(x15 x16:Int)(x17:Bool)(x18 x19:List AV):X×St:=(.ret,⟨[(2,.bool false)],[],0,0⟩)
def q3v(x0:Int)(x1 x2 x3:List UInt8)(x4 x5:Int)(x6 x7:Int)(x8:List AV)(x9:Bool)(x10 x11:Int)(x12:Bool)(x13:List AV)(x14:Bool)(x15 x16:Int)(x17:Bool)(x18 x19:List AV):X×St:=(.exit 2,⟨[(2,.junk)],[],0,0⟩)
def ziG:List (qfh->X×St):=[(k20 q3u),(k20 q3v)]
def qpI(x0:Int)(x1 x2 x3:List UInt8)(x4 x5:Int)(x6 x7:Int)(x8:List AV)(x9:Bool)(x10 x11:Int)(x12:Bool)(x13:List AV)(x14:Bool)(x15 x16:Int)(x17:Bool)(x18 x19:List AV):DT (Rd qfh):=
 .br (decide (x0<(x19.length:Int)))
 (.br (qaD [.str,.int .i64,.int .i64,.int .i64,.str,.slice 4] x19 x0)
 (.bi (qgz (strOf (cellAt x19 x0 0))) (fun y0=>
 .br (!y0)
 (.at (.done 0))
 (.br (decide (intOf (cellAt x19 x0 1)<1))
 (.at (.done 0))
 (.bi (qhK) (fun y1=>
 .br (decide (intOf (cellAt x19 x0 1)>(y1.length:Int)))
 (.at (.done 0))
 (.bi (qi4 (intOf (cellAt x19 x0 2)) (intOf (cellAt x19 x0 3)) (strOf (cellAt x19 x0 4)) (qap (cellAt x19 x0 5))) (fun y2=>
 .br (y2 != 0) (.at (.done 0)) (.at (.next ((IntKind.i64.wrap (x0+1),x1,x2,x3,x4,x5,x6,x7,x8,x9,x10,x11,x12,x13,x14,x15,x16,x17,x18,x19)))))
 (.no)))
 (.no))))
 (.no))
 (.no))
 (.at (.done 1))
def qnV:qfh->DT (Rd qfh):=(fun v=>qpI v.1 v.2.1 v.2.2.1 v.2.2.2.1 v.f.1 v.f.2.1 v.f.2.2.1 v.f.2.2.2.1 v.h.1 v.h.2.1 v.h.2.2.1 v.h.2.2.2.1 v.h.f.1 v.h.f.2.1 v.h.f.2.2.1 v.h.f.2.2.2.1 v.i.1 v.i.2.1 v.i.2.2.1 v.i.2.2.2)
def qu4(v:qfh):Option (Nat×qfh):=qax (qae (fun v=>(qnV v).ev) v)
theorem qys(v):qu4 v=qae (fun v=>(qnV v).ev) v:=qaa _
def qLG:qbS:=LE (τ:=qfh) (hD qKq) (qu4) ziG
theorem zhx:Go.Eng.Told IP (qad F25 1).1 (qad F25 1).2 (qLG):=lp (inferInstance:Inhabited qfh) (hs:=qKq) qnV qGq qys
abbrev qQ4:Type:=Bool
def qYk:PArgs:=⟨[.agg [.str,.str,.str,.int .i64,.int .i64,.int .i64,.int .i64,.view 2,.bool,.int .i64,.int .i64,.bool,.view 2,.bool,.int .i64,.int .i64,.bool,.view 10,.view 6]],[]⟩
def q0G:List PRes:=[⟨false,.bool,[]⟩]
def qrN(x0 x1 x2:List UInt8)(x3 x4:Int)(x5 x6:Int)(x7:List AV)(x8:Bool)(x9 x10:Int)(x11:Bool)(x12:List AV)(x13:Bool)(x14 x15:Int)(x16:Bool)(x17 x18:List AV):DT qQ4:=
 .bi (qoV x1) (fun y0=>
 .bi (br (!y0.2) (some true) (br (sm (qgz x0)) (some !gv (qgz x0)) none)) (fun y1=>
 .bi (br y1 (some true) (br (sm (qgz x2)) (some !gv (qgz x2)) none)) (fun y2=>
 .bi (br y2 (some true) (br (sm (qmA x3)) (some !gv (qmA x3)) none)) (fun y3=>
 .bi (br y3 (some true) (some (decide (x4<0)))) (fun y4=>
 .bi (br y4 (some true) (some (decide (x5<0)))) (fun y5=>
 .bi (br y5 (some true) (some (decide (x6<0)))) (fun y6=>
 .bi (br y6 (some true) (some (decide (x6>1000000)))) (fun y7=>
 .bi (br y7 (some true) (br (sm (qkh x7 x8 x9 x10 x11)) (some !gv (qkh x7 x8 x9 x10 x11)) none)) (fun y8=>
 .bi (br y8 (some true) (br (sm (qkh x12 x13 x14 x15 x16)) (some !gv (qkh x12 x13 x14 x15 x16)) none)) (fun y9=>
 .br (y9)
 (.at (false))
 (.bi (pj 0 (qu3 (0,x0,x1,x2,x3,x4,x5,x6,x7,x8,x9,x10,x11,x12,x13,x14,x15,x16,x17,x18))) (fun y10=>
 .at (false))
 (.bi (pj 1 (qu3 (0,x0,x1,x2,x3,x4,x5,x6,x7,x8,x9,x10,x11,x12,x13,x14,x15,x16,x17,x18))) (fun y10=>
 .bi (pj 0
 (qu4
 (0,y10.2))) (fun y11=>
 .at (false))
 (.bi (pj 1
 (qu4
 (0,y10.2))) (fun y11=>
 .at (true))
 (.no)))
 (.no))))
 (.no))
 (.no))
 (.no))
 (.no))
 (.no))
 (.no))
 (.no))
 (.no))
 (.no))
 (.no)
def qtT(x0 x1 x2:List UInt8)(x3 x4:Int)(x5 x6:Int)(x7:List AV)(x8:Bool)(x9 x10:Int)(x11:Bool)(x12:List AV)(x13:Bool)(x14 x15:Int)(x16:Bool)(x17 x18:List AV):Option qQ4:=qax (qrN x0 x1 x2 x3 x4 x5 x6 x7 x8 x9 x10 x11 x12 x13 x14 x15 x16 x17 x18).ev
theorem qOi(x0 x1 x2 x3 x4 x5 x6 x7 x8 x9 x10 x11 x12 x13 x14 x15 x16 x17 x18):qtT x0 x1 x2 x3 x4 x5 x6 x7 x8 x9 x10 x11 x12 x13 x14 x15 x16 x17 x18=(qrN x0 x1 x2 x3 x4 x5 x6 x7 x8 x9 x10 x11 x12 x13 x14 x15 x16 x17 x18).ev:=qaa _
theorem zed:FH IP 25 qYk q0G (k19 qtT):=qag (F:=F25) (L:=[(1002500,qLF),(1002501,qLG)]) (t:=(k19 qrN)) qGq (qac (l:=[qad F25 0,qad F25 1]) (by kernel_rfl) ⟨qas (by kernel_rfl) zhw,qas (by kernel_rfl) zhx,trivial⟩) (by kernel_rfl) (fun v=>by kernel_rfl) (fun _=>qaa _)
def ztJ:Tab:=(25,FE qYk q0G (k19 qtT))::ztI
theorem qS0:qao IP ztJ:=⟨qam zed,qGq⟩
abbrev qR2:Type:=Bool
def qZo:PArgs:=⟨[.int .i64],[]⟩
def q1K:List PRes:=[⟨false,.bool,[]⟩]
def qsO(x0:Int):DT qR2:=
 .bi (br (x0.tmod 4==0) (br (x0.tmod 100 != 0) (some true) (some (x0.tmod 400==0))) (some false)) (fun y0=>
 .at (y0))
 (.no)
def qbe(x0:Int):Option qR2:=qax (qsO x0).ev
theorem qPf(x0):qbe x0=(qsO x0).ev:=qaa _
theorem zft:FH IP 136 qZo q1K qbe:=fh zoA qsO qS0
def ztK:Tab:=(136,FE qZo q1K qbe)::ztJ
theorem qS1:qao IP ztK:=⟨qam zft,qS0⟩
abbrev qQI:Type:=Int
def qXU:PArgs:=⟨[.int .i64],[]⟩
def q0g:List PRes:=[⟨false,.int .i64,[]⟩]
def qrm(x0:Int):DT qQI:=
 .bi (qbe x0) (fun y0=>
 .br (y0) (.at (366)) (.at (365)))
 (.no)
def qmk(x0:Int):Option qQI:=qax (qrm x0).ev
theorem qNR(x0):qmk x0=(qrm x0).ev:=qaa _
theorem zdN:FH IP 77 qXU q0g qmk:=fh F77 qrm qS1
def ztL:Tab:=(77,FE qXU q0g qmk)::ztK
theorem qGr:qao IP ztL:=⟨qam zdN,qS1⟩
abbrev qfy:Type:=Int×Int×Int
def qKK:List PSt:=[⟨[(1002700,.junk),(0,.int .i64),(5,.int .i64),(6,.int .i64)],[],0,0⟩]
def q36(x0 x1 x2:Int):X×St:=(.exit 0,⟨[(0,.int .i64 x0),(5,.int .i64 x1),(6,.int .i64 x2)],[],0,0⟩)
def zi0:List (qfy->X×St):=[(k3 q36)]
def qit(x0 x1 x2:Int):DT (Rd qfy):=
 .bi (qmk x1) (fun y0=>
 .br (decide (x0>=y0))
 (.bi (qmk x1) (fun y1=>
 .at (.next ((IntKind.i64.wrap (x0-y1),IntKind.i64.wrap (x1+1),x2))))
 (.no))
 (.at (.done 0)))
 (.no)
def qrh:qfy->DT (Rd qfy):=(fun v=>qit v.1 v.2.1 v.2.2)
def qIq(v:qfy):Option (Nat×qfy):=qax (qae (fun v=>(qrh v).ev) v)
theorem qyF(v):qIq v=qae (fun v=>(qrh v).ev) v:=qaa _
def qL0:qbS:=LE (τ:=qfy) (hD qKK) (qIq) zi0
theorem zhR:Go.Eng.Told IP (qad F27 0).1 (qad F27 0).2 (qL0):=lp (inferInstance:Inhabited qfy) (hs:=qKK) qrh qGr qyF
abbrev qRn:Type:=Int
def qYJ:PArgs:=⟨[.int .i64,.int .i64],[]⟩
def q05:List PRes:=[⟨false,.int .i64,[]⟩]
def qol(x0 x1:Int):DT qRn:=
 .br (x1==1)
 (.br (x1==1)
 (.at (31))
 (.br (x1==4)
 (.br (x1==4)
 (.at (30))
 (.br (x1==2)
 (.bi (qbe x0) (fun y0=>
 .br (y0) (.at (29)) (.at (28)))
 (.no))
 (.at (0))))
 (.br (x1==6)
 (.br (x1==6)
 (.at (30))
 (.br (x1==2)
 (.bi (qbe x0) (fun y0=>
 .br (y0) (.at (29)) (.at (28)))
 (.no))
 (.at (0))))
 (.br (x1==9)
 (.br (x1==9)
 (.at (30))
 (.br (x1==2)
 (.bi (qbe x0) (fun y0=>
 .br (y0) (.at (29)) (.at (28)))
 (.no))
 (.at (0))))
 (.br (x1==11)
 (.at (30))
 (.br (x1==2)
 (.bi (qbe x0) (fun y0=>
 .br (y0) (.at (29)) (.at (28)))
 (.no))
 (.at (0))))))))
 (.br (x1==3)
 (.br (x1==3)
 (.at (31))
 (.br (x1==4)
 (.br (x1==4)
 (.at (30))
 (.br (x1==2)
 (.bi (qbe x0) (fun y0=>
 .br (y0) (.at (29)) (.at (28)))
 (.no))
 (.at (0))))
 (.br (x1==6)
 (.br (x1==6)
 (.at (30))
 (.br (x1==2)
 (.bi (qbe x0) (fun y0=>
 .br (y0) (.at (29)) (.at (28)))
 (.no))
 (.at (0))))
 (.br (x1==9)
 (.br (x1==9)
 (.at (30))
 (.br (x1==2)
 (.bi (qbe x0) (fun y0=>
 .br (y0) (.at (29)) (.at (28)))
 (.no))
 (.at (0))))
 (.br (x1==11)
 (.at (30))
 (.br (x1==2)
 (.bi (qbe x0) (fun y0=>
 .br (y0) (.at (29)) (.at (28)))
 (.no))
 (.at (0))))))))
 (.br (x1==5)
 (.br (x1==5)
 (.at (31))
 (.br (x1==4)
 (.br (x1==4)
 (.at (30))
 (.br (x1==2)
 (.bi (qbe x0) (fun y0=>
 .br (y0) (.at (29)) (.at (28)))
 (.no))
 (.at (0))))
 (.br (x1==6)
 (.br (x1==6)
 (.at (30))
 (.br (x1==2)
 (.bi (qbe x0) (fun y0=>
 .br (y0) (.at (29)) (.at (28)))
 (.no))
 (.at (0))))
 (.br (x1==9)
 (.br (x1==9)
 (.at (30))
 (.br (x1==2)
 (.bi (qbe x0) (fun y0=>
 .br (y0) (.at (29)) (.at (28)))
 (.no))
 (.at (0))))
 (.br (x1==11)
 (.at (30))
 (.br (x1==2)
 (.bi (qbe x0) (fun y0=>
 .br (y0) (.at (29)) (.at (28)))
 (.no))
 (.at (0))))))))
 (.br (x1==7)
 (.br (x1==7)
 (.at (31))
 (.br (x1==4)
 (.br (x1==4)
 (.at (30))
 (.br (x1==2)
 (.bi (qbe x0) (fun y0=>
 .br (y0) (.at (29)) (.at (28)))
 (.no))
 (.at (0))))
 (.br (x1==6)
 (.br (x1==6)
 (.at (30))
 (.br (x1==2)
 (.bi (qbe x0) (fun y0=>
 .br (y0) (.at (29)) (.at (28)))
 (.no))
 (.at (0))))
 (.br (x1==9)
 (.br (x1==9)
 (.at (30))
 (.br (x1==2)
 (.bi (qbe x0) (fun y0=>
 .br (y0) (.at (29)) (.at (28)))
 (.no))
 (.at (0))))
 (.br (x1==11)
 (.at (30))
 (.br (x1==2)
 (.bi (qbe x0) (fun y0=>
 .br (y0) (.at (29)) (.at (28)))
 (.no))
 (.at (0))))))))
 (.br (x1==8)
 (.br (x1==8)
 (.at (31))
 (.br (x1==4)
 (.br (x1==4)
 (.at (30))
 (.br (x1==2)
 (.bi (qbe x0) (fun y0=>
 .br (y0) (.at (29)) (.at (28)))
 (.no))
 (.at (0))))
 (.br (x1==6)
 (.br (x1==6)
 (.at (30))
 (.br (x1==2)
 (.bi (qbe x0) (fun y0=>
 .br (y0) (.at (29)) (.at (28)))
 (.no))
 (.at (0))))
 (.br (x1==9)
 (.br (x1==9)
 (.at (30))
 (.br (x1==2)
 (.bi (qbe x0) (fun y0=>
 .br (y0) (.at (29)) (.at (28)))
 (.no))
 (.at (0))))
 (.br (x1==11)
 (.at (30))
 (.br (x1==2)
 (.bi (qbe x0) (fun y0=>
 .br (y0) (.at (29)) (.at (28)))
 (.no))
 (.at (0))))))))
 (.br (x1==10)
 (.br (x1==10)
 (.at (31))
 (.br (x1==4)
 (.br (x1==4)
 (.at (30))
 (.br (x1==2)
 (.bi (qbe x0) (fun y0=>
 .br (y0) (.at (29)) (.at (28)))
 (.no))
 (.at (0))))
 (.br (x1==6)
 (.br (x1==6)
 (.at (30))
 (.br (x1==2)
 (.bi (qbe x0) (fun y0=>
 .br (y0) (.at (29)) (.at (28)))
 (.no))
 (.at (0))))
 (.br (x1==9)
 (.br (x1==9)
 (.at (30))
 (.br (x1==2)
 (.bi (qbe x0) (fun y0=>
 .br (y0) (.at (29)) (.at (28)))
 (.no))
 (.at (0))))
 (.br (x1==11)
 (.at (30))
 (.br (x1==2)
 (.bi (qbe x0) (fun y0=>
 .br (y0) (.at (29)) (.at (28)))
 (.no))
 (.at (0))))))))
 (.br (x1==12)
 (.at (31))
 (.br (x1==4)
 (.br (x1==4)
 (.at (30))
 (.br (x1==2)
 (.bi (qbe x0) (fun y0=>
 .br (y0) (.at (29)) (.at (28)))
 (.no))
 (.at (0))))
 (.br (x1==6)
 (.br (x1==6)
 (.at (30))
 (.br (x1==2)
 (.bi (qbe x0) (fun y0=>
 .br (y0) (.at (29)) (.at (28)))
 (.no))
 (.at (0))))
 (.br (x1==9)
 (.br (x1==9)
 (.at (30))
 (.br (x1==2)
 (.bi (qbe x0) (fun y0=>
 .br (y0) (.at (29)) (.at (28)))
 (.no))
 (.at (0))))
 (.br (x1==11)
 (.at (30))
 (.br (x1==2)
 (.bi (qbe x0) (fun y0=>
 .br (y0) (.at (29)) (.at (28)))
 (.no))
 (.at (0)))))))))))))
def qhL(x0 x1:Int):Option qRn:=qax (qol x0 x1).ev
theorem qxZ(x0 x1):qhL x0 x1=(qol x0 x1).ev:=qaa _
theorem zeE:FH IP 78 qYJ q05 (k2 qhL):=fh F78 (k2 qol) qGr
def ztM:Tab:=(78,FE qYJ q05 (k2 qhL))::ztL
theorem qGs:qao IP ztM:=⟨qam zeE,qGr⟩
abbrev qfz:Type:=Int×Int×Int
def qKL:List PSt:=[⟨[(1002701,.junk),(0,.int .i64),(5,.int .i64),(6,.int .i64)],[],0,0⟩]
def q37(x0 x1 x2:Int):X×St:=(.exit 2,⟨[(0,.int .i64 x0),(5,.int .i64 x1),(6,.int .i64 x2)],[],0,0⟩)
def zi1:List (qfz->X×St):=[(k3 q37)]
def qiu(x0 x1 x2:Int):DT (Rd qfz):=
 .bi (qhL x1 x2) (fun y0=>
 .br (decide (x0>=y0))
 (.bi (qhL x1 x2) (fun y1=>
 .at (.next ((IntKind.i64.wrap (x0-y1),x1,IntKind.i64.wrap (x2+1)))))
 (.no))
 (.at (.done 0)))
 (.no)
def qri:qfz->DT (Rd qfz):=(fun v=>qiu v.1 v.2.1 v.2.2)
def qIr(v:qfz):Option (Nat×qfz):=qax (qae (fun v=>(qri v).ev) v)
theorem qyG(v):qIr v=qae (fun v=>(qri v).ev) v:=qaa _
def qL1:qbS:=LE (τ:=qfz) (hD qKL) (qIr) zi1
theorem zhS:Go.Eng.Told IP (qad F27 1).1 (qad F27 1).2 (qL1):=lp (inferInstance:Inhabited qfz) (hs:=qKL) qri qGs qyG
abbrev qRH:Type:=Int×Int×Int
def qY2:PArgs:=⟨[.int .i64],[]⟩
def q1o:List PRes:=[⟨false,.tup [.int .i64,.int .i64,.int .i64],[]⟩]
def qsv(x0:Int):DT qRH:=
 .bi (qmA x0) (fun y0=>
 .br (!y0)
 (.at ((0,0,0)))
 (.bi (pj 0 (qIq (x0,2000,1))) (fun y1=>
 .bi (pj 0 (qIr (y1))) (fun y2=>
 .at ((y2.2.1,y2.2.2,IntKind.i64.wrap (y2.1+1))))
 (.no))
 (.no)))
 (.no)
def quh(x0:Int):Option qRH:=qax (qsv x0).ev
theorem qOW(x0):quh x0=(qsv x0).ev:=qaa _
theorem ze1:FH IP 27 qY2 q1o quh:=qag (F:=F27) (L:=[(1002700,qL0),(1002701,qL1)]) (t:=qsv) qGs (qac (l:=[qad F27 0,qad F27 1]) (by kernel_rfl) ⟨qas (by kernel_rfl) zhR,qas (by kernel_rfl) zhS,trivial⟩) (by kernel_rfl) (fun v=>by kernel_rfl) (fun _=>qaa _)
def ztN:Tab:=(27,FE qY2 q1o quh)::ztM
theorem qS2:qao IP ztN:=⟨qam ze1,qGs⟩
abbrev qSq:Type:=List AV×Int
def qZO:PArgs:=⟨[.agg [.view 3,.int .i64],.int .i64,.str],[]⟩
def q2j:List PRes:=[⟨false,.agg [.view 3,.int .i64],[]⟩]
def qtd(x0:List AV)(x1 x2:Int)(x3:List UInt8):DT qSq:=
 .br (decide (x0.length=0)&&decide (3=3))
 (.at (([AV.agg [.int .i64 x2,.int .i64 x1,AV.str x3]],x1)))
 (.br (decide (x0.length≠0)&&room x0.length 32)
 (.br (room (x0.length+1) 32) (.at ((x0++[AV.agg [.int .i64 x2,.int .i64 x1,AV.str x3]],x1))) (.no))
 (.no))
def qhO(x0:List AV)(x1 x2:Int)(x3:List UInt8):Option qSq:=qax (qtd x0 x1 x2 x3).ev
theorem qPD(x0 x1 x2 x3):qhO x0 x1 x2 x3=(qtd x0 x1 x2 x3).ev:=qaa _
theorem zfT:FH IP 79 qZO q2j (k4 qhO):=fh F79 (k4 qtd) qS2
def ztO:Tab:=(79,FE qZO q2j (k4 qhO))::ztN
theorem qS3:qao IP ztO:=⟨qam zfT,qS2⟩
abbrev qSl:Type:=List AV×Int
def qZJ:PArgs:=⟨[.agg [.view 3,.int .i64],.str],[]⟩
def q2e:List PRes:=[⟨false,.agg [.view 3,.int .i64],[]⟩]
def qs8(x0:List AV)(x1:Int)(x2:List UInt8):DT qSl:=
 .bi (qhO x0 x1 5 x2) (fun y0=>
 .at ((y0)))
 (.no)
def qbo(x0:List AV)(x1:Int)(x2:List UInt8):Option qSl:=qax (qs8 x0 x1 x2).ev
theorem qPy(x0 x1 x2):qbo x0 x1 x2=(qs8 x0 x1 x2).ev:=qaa _
theorem zfO:FH IP 30 qZJ q2e (k3 qbo):=fh F30 (k3 qs8) qS3
def ztP:Tab:=(30,FE qZJ q2e (k3 qbo))::ztO
theorem qS4:qao IP ztP:=⟨qam zfO,qS3⟩
abbrev qSh:Type:=List AV×Int
def qZE:PArgs:=⟨[.agg [.view 3,.int .i64],.str],[]⟩
def q1Z:List PRes:=[⟨false,.agg [.view 3,.int .i64],[]⟩]
def qs3(x0:List AV)(x1:Int)(x2:List UInt8):DT qSh:=
 .bi (qhO x0 x1 1 x2) (fun y0=>
 .at ((y0)))
 (.no)
def qja(x0:List AV)(x1:Int)(x2:List UInt8):Option qSh:=qax (qs3 x0 x1 x2).ev
theorem qPt(x0 x1 x2):qja x0 x1 x2=(qs3 x0 x1 x2).ev:=qaa _
theorem zfJ:FH IP 29 qZE q1Z (k3 qja):=fh F29 (k3 qs3) qS4
def ztQ:Tab:=(29,FE qZE q1Z (k3 qja))::ztP
theorem qS5:qao IP ztQ:=⟨qam zfJ,qS4⟩
abbrev qSg:Type:=List AV×Int
def qZD:PArgs:=⟨[.agg [.view 3,.int .i64],.str],[]⟩
def q1Y:List PRes:=[⟨false,.agg [.view 3,.int .i64],[]⟩]
def qs2(x0:List AV)(x1:Int)(x2:List UInt8):DT qSg:=
 .bi (qhO x0 x1 4 x2) (fun y0=>
 .at ((y0)))
 (.no)
def qbi(x0:List AV)(x1:Int)(x2:List UInt8):Option qSg:=qax (qs2 x0 x1 x2).ev
theorem qPs(x0 x1 x2):qbi x0 x1 x2=(qs2 x0 x1 x2).ev:=qaa _
theorem zfI:FH IP 28 qZD q1Y (k3 qbi):=fh F28 (k3 qs2) qS5
def ztR:Tab:=(28,FE qZD q1Y (k3 qbi))::ztQ
theorem qS6:qao IP ztR:=⟨qam zfI,qS5⟩
abbrev qSf:Type:=List AV×Int
def qZC:PArgs:=⟨[.agg [.view 3,.int .i64],.str],[]⟩
def q1X:List PRes:=[⟨false,.agg [.view 3,.int .i64],[]⟩]
def qs1(x0:List AV)(x1:Int)(x2:List UInt8):DT qSf:=
 .bi (qbo x0 (IntKind.i64.wrap (x1+1)) x2) (fun y0=>
 .at ((y0)))
 (.no)
def qcK(x0:List AV)(x1:Int)(x2:List UInt8):Option qSf:=qax (qs1 x0 x1 x2).ev
theorem qPr(x0 x1 x2):qcK x0 x1 x2=(qs1 x0 x1 x2).ev:=qaa _
theorem zfH:FH IP 31 qZC q1X (k3 qcK):=fh F31 (k3 qs1) qS6
def ztS:Tab:=(31,FE qZC q1X (k3 qcK))::ztR
theorem qGt:qao IP ztS:=⟨qam zfH,qS6⟩
abbrev qfm:Type:=Int×List UInt8
def qKw:List PSt:=[⟨[(1013700,.junk),(0,.int .u64),(3,.str)],[],0,0⟩]
def q3F(x0:Int)(x1:List UInt8):X×St:=(.exit 0,⟨[(3,.str x1)],[],0,0⟩)
def ziM:List (qfm->X×St):=[(k2 q3F)]
def qip(x0:Int)(x1:List UInt8):DT (Rd qfm):=
 .bi (br (x1== []) (some true) (some (decide (x0>0)))) (fun y0=>
 .br (y0)
 (.br (leB (IntKind.u64.wrap (x0.tmod 10+1)) 10&&leB (x0.tmod 10) (IntKind.u64.wrap (x0.tmod 10+1)).toNat)
 (.br (decide
 ((List.take ((IntKind.u64.wrap (x0.tmod 10+1)).toNat-(x0.tmod 10).toNat) (List.drop (x0.tmod 10).toNat ([48,49,50,51,52,53,54,55,56,57]:List UInt8))).length+x1.length <=
 4611686018427387904))
 (.at (.next ((IntKind.u64.wrap (x0.tdiv 10),List.take ((IntKind.u64.wrap (x0.tmod 10+1)).toNat-(x0.tmod 10).toNat) (List.drop (x0.tmod 10).toNat ([48,49,50,51,52,53,54,55,56,57]:List UInt8))++x1))))
 (.no))
 (.no))
 (.at (.done 0)))
 (.no)
def qre:qfm->DT (Rd qfm):=(fun v=>qip v.1 v.2)
def qAL(v:qfm):Option (Nat×qfm):=qax (qae (fun v=>(qre v).ev) v)
theorem qlf(v):qAL v=qae (fun v=>(qre v).ev) v:=qaa _
def qLM:qbS:=LE (τ:=qfm) (hD qKw) (qAL) ziM
theorem zhD:Go.Eng.Told IP (qad zc2 0).1 (qad zc2 0).2 (qLM):=lp (inferInstance:Inhabited qfm) (hs:=qKw) qre qGt qlf
abbrev qRb:Type:=List UInt8
def qYv:PArgs:=⟨[.int .u64],[]⟩
def q0R:List PRes:=[⟨false,.str,[]⟩]
def qrX(x0:Int):DT qRb:=
 .bi (pj 0 (qAL (x0,[]))) (fun y0=>
 .at (y0.2))
 (.no)
def qoO(x0:Int):Option qRb:=qax (qrX x0).ev
theorem qOu(x0):qoO x0=(qrX x0).ev:=qaa _
theorem zep:FH IP 137 qYv q0R qoO:=qag (F:=zc2) (L:=[(1013700,qLM)]) (t:=qrX) qGt (qac (l:=[qad zc2 0]) (by kernel_rfl) ⟨qas (by kernel_rfl) zhD,trivial⟩) (by kernel_rfl) (fun v=>by kernel_rfl) (fun _=>qaa _)
def ztT:Tab:=(137,FE qYv q0R qoO)::ztS
theorem qS8:qao IP ztT:=⟨qam zep,qGt⟩
abbrev qSo:Type:=List UInt8
def qZM:PArgs:=⟨[.int .i64],[]⟩
def q2h:List PRes:=[⟨false,.str,[]⟩]
def qtb(x0:Int):DT qSo:=
 .br (decide (x0>=0))
 (.bi (qoO (IntKind.u64.wrap x0)) (fun y0=>
 .at (y0))
 (.no))
 (.bi (qoO (IntKind.u64.wrap (IntKind.u64.wrap (-1-IntKind.u64.wrap x0)+1))) (fun y0=>
 .br (decide (1+y0.length<=4611686018427387904)) (.at ([45]++y0)) (.no))
 (.no))
def qmK(x0:Int):Option qSo:=qax (qtb x0).ev
theorem qPB(x0):qmK x0=(qtb x0).ev:=qaa _
theorem zfR:FH IP 80 qZM q2h qmK:=fh F80 qtb qS8
def ztU:Tab:=(80,FE qZM q2h qmK)::ztT
theorem qS9:qao IP ztU:=⟨qam zfR,qS8⟩
abbrev qRz:Type:=List AV×Int
def qYV:PArgs:=⟨[.agg [.view 3,.int .i64],.int .i64],[]⟩
def q1h:List PRes:=[⟨false,.agg [.view 3,.int .i64],[]⟩]
def qsp(x0:List AV)(x1 x2:Int):DT qRz:=
 .bi (qmK x2) (fun y0=>
 .bi (qhO x0 x1 2 y0) (fun y1=>
 .at ((y1)))
 (.no))
 (.no)
def qhM(x0:List AV)(x1 x2:Int):Option qRz:=qax (qsp x0 x1 x2).ev
theorem qOQ(x0 x1 x2):qhM x0 x1 x2=(qsp x0 x1 x2).ev:=qaa _
theorem zeR:FH IP 32 qYV q1h (k3 qhM):=fh F32 (k3 qsp) qS9
def ztV:Tab:=(32,FE qYV q1h (k3 qhM))::ztU
theorem qGu:qao IP ztV:=⟨qam zeR,qS9⟩
abbrev qfp:Type:=Int×Int×List UInt8
def qKA:List PSt:=[⟨[(1013800,.junk),(0,.int .i64),(1,.int .i64),(5,.str)],[],0,0⟩]
def q3L(x0 x1:Int)(x2:List UInt8):X×St:=(.exit 0,⟨[(5,.str x2)],[],0,0⟩)
def ziQ:List (qfp->X×St):=[(k3 q3L)]
def qpM(x0 x1:Int)(x2:List UInt8):DT (Rd qfp):=
 .bi (br (decide (x0>0)) (some true) (some (decide ((x2.length:Int)<x1)))) (fun y0=>
 .br (y0)
 (.br (leB (IntKind.i64.wrap (x0.tmod 10+1)) 10&&leB (x0.tmod 10) (IntKind.i64.wrap (x0.tmod 10+1)).toNat)
 (.br (decide
 ((List.take ((IntKind.i64.wrap (x0.tmod 10+1)).toNat-(x0.tmod 10).toNat) (List.drop (x0.tmod 10).toNat ([48,49,50,51,52,53,54,55,56,57]:List UInt8))).length+x2.length <=
 4611686018427387904))
 (.at (.next ((IntKind.i64.wrap (x0.tdiv 10),x1,List.take ((IntKind.i64.wrap (x0.tmod 10+1)).toNat-(x0.tmod 10).toNat) (List.drop (x0.tmod 10).toNat ([48,49,50,51,52,53,54,55,56,57]:List UInt8))++x2))))
 (.no))
 (.no))
 (.at (.done 0)))
 (.no)
def qju:qfp->DT (Rd qfp):=(fun v=>qpM v.1 v.2.1 v.2.2)
def qmR(v:qfp):Option (Nat×qfp):=qax (qae (fun v=>(qju v).ev) v)
theorem qep(v):qmR v=qae (fun v=>(qju v).ev) v:=qaa _
def qLQ:qbS:=LE (τ:=qfp) (hD qKA) (qmR) ziQ
theorem zhH:Go.Eng.Told IP (qad zc3 0).1 (qad zc3 0).2 (qLQ):=lp (inferInstance:Inhabited qfp) (hs:=qKA) qju qGu qep
abbrev qRo:Type:=List UInt8
def qYK:PArgs:=⟨[.int .i64,.int .i64],[]⟩
def q06:List PRes:=[⟨false,.str,[]⟩]
def qom(x0 x1:Int):DT qRo:=
 .bi (pj 0 (qmR (x0,x1,[]))) (fun y0=>
 .at (y0.2.2))
 (.no)
def qmw(x0 x1:Int):Option qRo:=qax (qom x0 x1).ev
theorem qx4(x0 x1):qmw x0 x1=(qom x0 x1).ev:=qaa _
theorem zeF:FH IP 138 qYK q06 (k2 qmw):=qag (F:=zc3) (L:=[(1013800,qLQ)]) (t:=(k2 qom)) qGu (qac (l:=[qad zc3 0]) (by kernel_rfl) ⟨qas (by kernel_rfl) zhH,trivial⟩) (by kernel_rfl) (fun v=>by kernel_rfl) (fun _=>qaa _)
def ztW:Tab:=(138,FE qYK q06 (k2 qmw))::ztV
theorem qGv:qao IP ztW:=⟨qam zeF,qGu⟩
abbrev qfn:Type:=List UInt8×List UInt8
def qKx:List PSt:=[⟨[(1008100,.junk),(4,.str),(5,.str)],[],0,0⟩]
def q3G(x0 x1:List UInt8):X×St:=(.exit 0,⟨[(4,.str x0),(5,.str x1)],[],0,0⟩)
def ziN:List (qfn->X×St):=[(k2 q3G)]
def qlE(x0 x1:List UInt8):DT (Rd qfn):=
 .bi (br (decide ((x1.length:Int)>0)) (br (inB x1.length (IntKind.i64.wrap ((x1.length:Int)-1))) (some (qai x1 (IntKind.i64.wrap ((x1.length:Int)-1))==48)) none)
 (some false)) (fun y0=>
 .br (y0)
 (.br (leB (IntKind.i64.wrap ((x1.length:Int)-1)) x1.length&&true) (.at (.next ((x0,List.take (IntKind.i64.wrap ((x1.length:Int)-1)).toNat x1)))) (.no))
 (.at (.done 0)))
 (.no)
def qlD:qfn->DT (Rd qfn):=(fun v=>qlE v.1 v.2)
def qAM(v:qfn):Option (Nat×qfn):=qax (qae (fun v=>(qlD v).ev) v)
theorem qlg(v):qAM v=qae (fun v=>(qlD v).ev) v:=qaa _
def qLN:qbS:=LE (τ:=qfn) (hD qKx) (qAM) ziN
theorem zhE:Go.Eng.Told IP (qad F81 0).1 (qad F81 0).2 (qLN):=lp (inferInstance:Inhabited qfn) (hs:=qKx) qlD qGv qlg
abbrev qRc:Type:=List UInt8×Int
def qYw:PArgs:=⟨[.int .i64],[]⟩
def q0S:List PRes:=[⟨false,.tup [.str,.int .i64],[]⟩]
def qrY(x0:Int):DT qRc:=
 .bi (br (decide (x0<0)) (some true) (some (decide (x0>1000000)))) (fun y0=>
 .br (y0)
 (.at (([],1)))
 (.bi (qmw (IntKind.i64.wrap (x0.tdiv 10000)) 1) (fun y1=>
 .bi (qmw (x0.tmod 10000) 4) (fun y2=>
 .bi (pj 0 (qAM (y1,y2))) (fun y3=>
 .br (!y3.2== [])
 (.br (decide (y3.1.length+1<=4611686018427387904))
 (.br (decide ((y3.1++[46]).length+y3.2.length<=4611686018427387904))
 (.br (decide ((y3.1++[46]++y3.2).length+1<=4611686018427387904)) (.at ((y3.1++[46]++y3.2++[37],0))) (.no))
 (.no))
 (.no))
 (.br (decide (y3.1.length+1<=4611686018427387904)) (.at ((y3.1++[37],0))) (.no)))
 (.no))
 (.no))
 (.no)))
 (.no)
def qoP(x0:Int):Option qRc:=qax (qrY x0).ev
theorem qOv(x0):qoP x0=(qrY x0).ev:=qaa _
theorem zeq:FH IP 81 qYw q0S qoP:=qag (F:=F81) (L:=[(1008100,qLN)]) (t:=qrY) qGv (qac (l:=[qad F81 0]) (by kernel_rfl) ⟨qas (by kernel_rfl) zhE,trivial⟩) (by kernel_rfl) (fun v=>by kernel_rfl) (fun _=>qaa _)
def ztX:Tab:=(81,FE qYw q0S qoP)::ztW
theorem qTa:qao IP ztX:=⟨qam zeq,qGv⟩
end
end Go.Proofs.H16
namespace Go.Proofs.H16
open Go Go.Eng
set_option maxRecDepth 100000
noncomputable section
abbrev qSj:Type:=List AV×Int
def qZG:PArgs:=⟨[.agg [.view 3,.int .i64],.int .i64],[]⟩
def q2b:List PRes:=[⟨false,.agg [.view 3,.int .i64],[]⟩]
def qs5(x0:List AV)(x1 x2:Int):DT qSj:=
 .bi (qoP x2) (fun y0=>
 .bi (qhO x0 x1 3 y0.1) (fun y1=>
 .at ((y1)))
 (.no))
 (.no)
def qo0(x0:List AV)(x1 x2:Int):Option qSj:=qax (qs5 x0 x1 x2).ev
theorem qPv(x0 x1 x2):qo0 x0 x1 x2=(qs5 x0 x1 x2).ev:=qaa _
theorem zfL:FH IP 33 qZG q2b (k3 qo0):=fh F33 (k3 qs5) qTa
def ztY:Tab:=(33,FE qZG q2b (k3 qo0))::ztX
theorem qGw:qao IP ztY:=⟨qam zfL,qTa⟩
abbrev qdM:Type:=Int×List AV×Int×List AV×Bool×Int×Int×Bool×Int
def qKr:List PSt:=[⟨[(1003400,.junk),(3,.ref 0 0 0),(5,.ref 1 0 0),(6,.ref 2 0 0),(9,.int .i64)],[(0,.box [.view 3,.int .i64] false),(1,.box [.view 2,.bool,.int .i64,.int .i64,.bool] false),(2,.box [.nils 3,.int .i64] false)],3,0⟩]
def q3w(x0:Int)(x1:List AV)(x2:Int)(x3:List AV)(x4:Bool)(x5 x6:Int)(x7:Bool)(x8:Int):X×St:=(.exit 0,
 ⟨[(3,.ref 0 0 0),(6,.ref 1 0 0)],[(0,.box [.view 3 x1,.int .i64 x2] false),(1,.box [.nils ⟨3,.nil⟩,.int .i64 x8] false)],2,0⟩)
def ziH:List (qdM->X×St):=[(k9 q3w)]
def qin(x0:Int)(x1:List AV)(x2:Int)(x3:List AV)(x4:Bool)(x5 x6:Int)(x7:Bool)(x8:Int):DT (Rd qdM):=
 .br (decide (x0<(x3.length:Int)))
 (.bi (qbi x1 (IntKind.i64.wrap (x2+1)) [36]) (fun y0=>
 .br (qaD [.int .i64,.int .i64] x3 x0)
 (.bi (qhM y0.1 y0.2 (intOf (cellAt x3 x0 0))) (fun y1=>
 .bi (qbi y1.1 y1.2 [58]) (fun y2=>
 .br (qaD [.int .i64,.int .i64] x3 x0)
 (.bi (qo0 y2.1 y2.2 (intOf (cellAt x3 x0 1))) (fun y3=>
 .bi (qbi y3.1 y3.2 [59]) (fun y4=>
 .at (.next ((IntKind.i64.wrap (x0+1),y4.1,y4.2,x3,x4,x5,x6,x7,x8))))
 (.no))
 (.no))
 (.no))
 (.no))
 (.no))
 (.no))
 (.no))
 (.at (.done 0))
def qBG:qdM->DT (Rd qdM):=(fun v=>qin v.1 v.2.1 v.2.2.1 v.2.2.2.1 v.f.1 v.f.2.1 v.f.2.2.1 v.f.2.2.2.1 v.h)
def qje(v:qdM):Option (Nat×qdM):=qax (qae (fun v=>(qBG v).ev) v)
theorem qyt(v):qje v=qae (fun v=>(qBG v).ev) v:=qaa _
def qLH:qbS:=LE (τ:=qdM) (hD qKr) (qje) ziH
theorem zhy:Go.Eng.Told IP (qad F34 0).1 (qad F34 0).2 (qLH):=lp (inferInstance:Inhabited qdM) (hs:=qKr) qBG qGw qyt
abbrev qFU:Type:=List AV×Int
def qYl:PArgs:=⟨[.agg [.view 3,.int .i64],.str,.agg [.view 2,.bool,.int .i64,.int .i64,.bool]],[]⟩
def q0H:List PRes:=[⟨false,.agg [.view 3,.int .i64],[]⟩]
def qrO(x0:List AV)(x1:Int)(x2:List UInt8)(x3:List AV)(x4:Bool)(x5 x6:Int)(x7:Bool):DT qFU:=
 .br (x4)
 (.br (x7)
 (.bi (qcK x0 x1 x2) (fun y0=>
 .bi (qbo y0.1 y0.2 [109,97,114,103,105,110,97,108]) (fun y1=>
 .bi (qgG) (fun y2=>
 .br (qaD [.str] y2 (IntKind.i64.wrap (x5-1)))
 (.bi (qbo y1.1 y1.2 (strOf (cellAt y2 (IntKind.i64.wrap (x5-1)) 0))) (fun y3=>
 .bi (qgH) (fun y4=>
 .br (qaD [.str] y4 (IntKind.i64.wrap (x6-1)))
 (.bi (qbo y3.1 y3.2 (strOf (cellAt y4 (IntKind.i64.wrap (x6-1)) 0))) (fun y5=>
 .bi (qbo y5.1 y5.2 [107,101,101,112]) (fun y6=>
 .bi (qbi y6.1 y6.2 [123]) (fun y7=>
 .bi (pj 0 (qje (0,y7.1,y7.2,x3,x4,x5,x6,x7,0))) (fun y8=>
 .bi (qbi y8.2.1 (IntKind.i64.wrap (y8.2.2.1+1)) [125]) (fun y9=>
 .at ((y9)))
 (.no))
 (.no))
 (.no))
 (.no))
 (.no))
 (.no))
 (.no))
 (.no))
 (.no))
 (.no))
 (.no))
 (.no))
 (.bi (qcK x0 x1 x2) (fun y0=>
 .bi (qbo y0.1 y0.2 [109,97,114,103,105,110,97,108]) (fun y1=>
 .bi (qgG) (fun y2=>
 .br (qaD [.str] y2 (IntKind.i64.wrap (x5-1)))
 (.bi (qbo y1.1 y1.2 (strOf (cellAt y2 (IntKind.i64.wrap (x5-1)) 0))) (fun y3=>
 .bi (qgH) (fun y4=>
 .br (qaD [.str] y4 (IntKind.i64.wrap (x6-1)))
 (.bi (qbo y3.1 y3.2 (strOf (cellAt y4 (IntKind.i64.wrap (x6-1)) 0))) (fun y5=>
 .bi (qbo y5.1 y5.2 [100,114,111,112]) (fun y6=>
 .bi (qbi y6.1 y6.2 [123]) (fun y7=>
 .bi (pj 0 (qje (0,y7.1,y7.2,x3,x4,x5,x6,x7,0))) (fun y8=>
 .bi (qbi y8.2.1 (IntKind.i64.wrap (y8.2.2.1+1)) [125]) (fun y9=>
 .at ((y9)))
 (.no))
 (.no))
 (.no))
 (.no))
 (.no))
 (.no))
 (.no))
 (.no))
 (.no))
 (.no))
 (.no))
 (.no)))
 (.br (x7)
 (.bi (qcK x0 x1 x2) (fun y0=>
 .bi (qbo y0.1 y0.2 [119,104,111,108,101]) (fun y1=>
 .bi (qgG) (fun y2=>
 .br (qaD [.str] y2 (IntKind.i64.wrap (x5-1)))
 (.bi (qbo y1.1 y1.2 (strOf (cellAt y2 (IntKind.i64.wrap (x5-1)) 0))) (fun y3=>
 .bi (qgH) (fun y4=>
 .br (qaD [.str] y4 (IntKind.i64.wrap (x6-1)))
 (.bi (qbo y3.1 y3.2 (strOf (cellAt y4 (IntKind.i64.wrap (x6-1)) 0))) (fun y5=>
 .bi (qbo y5.1 y5.2 [107,101,101,112]) (fun y6=>
 .bi (qbi y6.1 y6.2 [123]) (fun y7=>
 .bi (pj 0 (qje (0,y7.1,y7.2,x3,x4,x5,x6,x7,0))) (fun y8=>
 .bi (qbi y8.2.1 (IntKind.i64.wrap (y8.2.2.1+1)) [125]) (fun y9=>
 .at ((y9)))
 (.no))
 (.no))
 (.no))
 (.no))
 (.no))
 (.no))
 (.no))
 (.no))
 (.no))
 (.no))
 (.no))
 (.no))
 (.bi (qcK x0 x1 x2) (fun y0=>
 .bi (qbo y0.1 y0.2 [119,104,111,108,101]) (fun y1=>
 .bi (qgG) (fun y2=>
 .br (qaD [.str] y2 (IntKind.i64.wrap (x5-1)))
 (.bi (qbo y1.1 y1.2 (strOf (cellAt y2 (IntKind.i64.wrap (x5-1)) 0))) (fun y3=>
 .bi (qgH) (fun y4=>
 .br (qaD [.str] y4 (IntKind.i64.wrap (x6-1)))
 (.bi (qbo y3.1 y3.2 (strOf (cellAt y4 (IntKind.i64.wrap (x6-1)) 0))) (fun y5=>
 .bi (qbo y5.1 y5.2 [100,114,111,112]) (fun y6=>
 .bi (qbi y6.1 y6.2 [123]) (fun y7=>
 .bi (pj 0 (qje (0,y7.1,y7.2,x3,x4,x5,x6,x7,0))) (fun y8=>
 .bi (qbi y8.2.1 (IntKind.i64.wrap (y8.2.2.1+1)) [125]) (fun y9=>
 .at ((y9)))
 (.no))
 (.no))
 (.no))
 (.no))
 (.no))
 (.no))
 (.no))
 (.no))
 (.no))
 (.no))
 (.no))
 (.no)))
def qoK(x0:List AV)(x1:Int)(x2:List UInt8)(x3:List AV)(x4:Bool)(x5 x6:Int)(x7:Bool):Option qFU:=qax (qrO x0 x1 x2 x3 x4 x5 x6 x7).ev
theorem qOj(x0 x1 x2 x3 x4 x5 x6 x7):qoK x0 x1 x2 x3 x4 x5 x6 x7=(qrO x0 x1 x2 x3 x4 x5 x6 x7).ev:=qaa _
theorem zee:FH IP 34 qYl q0H (k8 qoK):=qag (F:=F34) (L:=[(1003400,qLH)]) (t:=(k8 qrO)) qGw (qac (l:=[qad F34 0]) (by kernel_rfl) ⟨qas (by kernel_rfl) zhy,trivial⟩) (by kernel_rfl) (fun v=>by kernel_rfl) (fun _=>qaa _)
def ztZ:Tab:=(34,FE qYl q0H (k8 qoK))::ztY
theorem qTb:qao IP ztZ:=⟨qam zee,qGw⟩
abbrev qSa:Type:=Int
def qZw:PArgs:=⟨[.int .i64],[]⟩
def q1S:List PRes:=[⟨false,.int .i64,[]⟩]
def qjC(x0:Int):DT qSa:=
 .br (x0==19)
 (.at (0))
 (.br (x0==15)
 (.at (1))
 (.br (x0==14)
 (.at (2))
 (.br (x0==16)
 (.at (3))
 (.br (x0==10)
 (.br (x0==10)
 (.at (4))
 (.br (x0==5)
 (.br (x0==5)
 (.at (5))
 (.br (x0==7)
 (.br (x0==7)
 (.at (6))
 (.br (x0==9) (.at (7)) (.at (8))))
 (.br (x0==8)
 (.at (6))
 (.br (x0==9) (.at (7)) (.at (8))))))
 (.br (x0==6)
 (.at (5))
 (.br (x0==7)
 (.br (x0==7)
 (.at (6))
 (.br (x0==9) (.at (7)) (.at (8))))
 (.br (x0==8)
 (.at (6))
 (.br (x0==9) (.at (7)) (.at (8))))))))
 (.br (x0==11)
 (.br (x0==11)
 (.at (4))
 (.br (x0==5)
 (.br (x0==5)
 (.at (5))
 (.br (x0==7)
 (.br (x0==7)
 (.at (6))
 (.br (x0==9) (.at (7)) (.at (8))))
 (.br (x0==8)
 (.at (6))
 (.br (x0==9) (.at (7)) (.at (8))))))
 (.br (x0==6)
 (.at (5))
 (.br (x0==7)
 (.br (x0==7)
 (.at (6))
 (.br (x0==9) (.at (7)) (.at (8))))
 (.br (x0==8)
 (.at (6))
 (.br (x0==9) (.at (7)) (.at (8))))))))
 (.br (x0==12)
 (.br (x0==12)
 (.at (4))
 (.br (x0==5)
 (.br (x0==5)
 (.at (5))
 (.br (x0==7)
 (.br (x0==7)
 (.at (6))
 (.br (x0==9) (.at (7)) (.at (8))))
 (.br (x0==8)
 (.at (6))
 (.br (x0==9) (.at (7)) (.at (8))))))
 (.br (x0==6)
 (.at (5))
 (.br (x0==7)
 (.br (x0==7)
 (.at (6))
 (.br (x0==9) (.at (7)) (.at (8))))
 (.br (x0==8)
 (.at (6))
 (.br (x0==9) (.at (7)) (.at (8))))))))
 (.br (x0==13)
 (.at (4))
 (.br (x0==5)
 (.br (x0==5)
 (.at (5))
 (.br (x0==7)
 (.br (x0==7)
 (.at (6))
 (.br (x0==9) (.at (7)) (.at (8))))
 (.br (x0==8)
 (.at (6))
 (.br (x0==9) (.at (7)) (.at (8))))))
 (.br (x0==6)
 (.at (5))
 (.br (x0==7)
 (.br (x0==7)
 (.at (6))
 (.br (x0==9) (.at (7)) (.at (8))))
 (.br (x0==8)
 (.at (6))
 (.br (x0==9) (.at (7)) (.at (8))))))))))))))
def qgI(x0:Int):Option qSa:=qax (qjC x0).ev
theorem qla(x0):qgI x0=(qjC x0).ev:=qaa _
theorem zfB:FH IP 195 qZw q1S qgI:=fh zoU qjC qTb
def zt0:Tab:=(195,FE qZw q1S qgI)::ztZ
theorem qTc:qao IP zt0:=⟨qam zfB,qTb⟩
abbrev qRQ:Type:=Int×Int×List UInt8
def qZb:PArgs:=⟨[.int .i64,.str],[]⟩
def q1x:List PRes:=[⟨false,.agg [.int .i64,.int .i64,.str],[]⟩]
def qsD(x0:Int)(x1:List UInt8):DT qRQ:=
 .at ((x0,1,x1))
def qaV(x0:Int)(x1:List UInt8):Option qRQ:=qax (qsD x0 x1).ev
theorem qO4(x0 x1):qaV x0 x1=(qsD x0 x1).ev:=qaa _
theorem zff:FH IP 196 qZb q1x (k2 qaV):=fh zoV (k2 qsD) qTc
def zt1:Tab:=(196,FE qZb q1x (k2 qaV))::zt0
theorem qTd:qao IP zt1:=⟨qam zff,qTc⟩
abbrev qSb:Type:=List AV
def qZx:PArgs:=⟨[.agg [.int .i64,.int .i64,.str,.view 4]],[]⟩
def q1T:List PRes:=[⟨false,.view 3,[]⟩]
def qsW(x0 x1:Int)(x2:List UInt8)(x3:List AV):DT qSb:=
 .br (x0==1)
 (.bi (qmK x1) (fun y0=>
 .bi (qaV 2 y0) (fun y1=>
 .at ([AV.agg [.int .i64 y1.1,.int .i64 y1.2.1,AV.str y1.2.2]]))
 (.no))
 (.no))
 (.br (x0==2)
 (.bi (qaV 4 [36]) (fun y0=>
 .bi (qmK x1) (fun y1=>
 .bi (qaV 2 y1) (fun y2=>
 .at ([AV.agg [.int .i64 y0.1,.int .i64 y0.2.1,AV.str y0.2.2],AV.agg [.int .i64 y2.1,.int .i64 y2.2.1,AV.str y2.2.2]]))
 (.no))
 (.no))
 (.no))
 (.br (x0==3)
 (.bi (qoP x1) (fun y0=>
 .bi (qaV 3 y0.1) (fun y1=>
 .at ([AV.agg [.int .i64 y1.1,.int .i64 y1.2.1,AV.str y1.2.2]]))
 (.no))
 (.no))
 (.bi (qaV 1 x2) (fun y0=>
 .at ([AV.agg [.int .i64 y0.1,.int .i64 y0.2.1,AV.str y0.2.2]]))
 (.no))))
def quy(x0 x1:Int)(x2:List UInt8)(x3:List AV):Option qSb:=qax (qsW x0 x1 x2 x3).ev
theorem qPm(x0 x1 x2 x3):quy x0 x1 x2 x3=(qsW x0 x1 x2 x3).ev:=qaa _
theorem zfD:FH IP 197 qZx q1T (k4 quy):=fh zoW (k4 qsW) qTd
def zt2:Tab:=(197,FE qZx q1T (k4 quy))::zt1
theorem qTe:qao IP zt2:=⟨qam zfD,qTd⟩
abbrev qSd:Type:=Int×Int×List UInt8
def qZA:PArgs:=⟨[.int .i64],[]⟩
def q1V:List PRes:=[⟨false,.agg [.int .i64,.int .i64,.str],[]⟩]
def qsY(x0:Int):DT qSd:=
 .br (x0==14)
 (.bi (qaV 5 [97,110,100]) (fun y0=>
 .at ((y0)))
 (.no))
 (.br (x0==15)
 (.bi (qaV 5 [111,114]) (fun y0=>
 .at ((y0)))
 (.no))
 (.br (x0==5)
 (.bi (qaV 4 [43]) (fun y0=>
 .at ((y0)))
 (.no))
 (.br (x0==6)
 (.bi (qaV 4 [45]) (fun y0=>
 .at ((y0)))
 (.no))
 (.br (x0==7)
 (.bi (qaV 4 [42]) (fun y0=>
 .at ((y0)))
 (.no))
 (.br (x0==8)
 (.bi (qaV 4 [47]) (fun y0=>
 .at ((y0)))
 (.no))
 (.br (x0==10)
 (.bi (qaV 4 [61,61]) (fun y0=>
 .at ((y0)))
 (.no))
 (.br (x0==11)
 (.bi (qaV 4 [33,61]) (fun y0=>
 .at ((y0)))
 (.no))
 (.br (x0==12)
 (.bi (qaV 4 [60]) (fun y0=>
 .at ((y0)))
 (.no))
 (.bi (qaV 4 [60,61]) (fun y0=>
 .at ((y0)))
 (.no))))))))))
def qkg(x0:Int):Option qSd:=qax (qsY x0).ev
theorem qPp(x0):qkg x0=(qsY x0).ev:=qaa _
theorem zfF:FH IP 198 qZA q1V qkg:=fh zoX qsY qTe
def zpT:Tab:=(198,FE qZA q1V qkg)::zt2
theorem qTf:qao IP zpT:=⟨qam zfF,qTe⟩
abbrev qFZ:Type:=List AV
def qvH:PArgs:=⟨[.agg [.int .i64,.int .i64,.str,.view 4],.int .i64],[]⟩
def qv8:List PRes:=[⟨false,.view 3,[]⟩]
abbrev qda:Type:=Int->Int->(List UInt8)->(List AV)->Int->Option qFZ
def qzP(G_u178q:qda):Prop:=FH IP 139 qvH qv8 (k5 G_u178q)
def q5f(G_u178q:qda):Tab:=(139,FE qvH qv8 (k5 G_u178q))::zpT
theorem qtq(G_u178q:qda)(hG:qzP G_u178q):qao IP (q5f G_u178q):=⟨qam (hG),qTf⟩
abbrev qeB:Type:=(Int×Int×Int×List UInt8×List AV×List AV)⊕(Int×Int×Int×List UInt8×List AV×List AV×List AV)
def qKy:List PSt:=[⟨[(1013900,.junk),(2,.ref 0 0 0),(5,.nils 3),(7,.own 1 0),(8,.int .i64)],[(0,.box [.int .i64,.int .i64,.str,.view 4] false),(1,.arr 1 false)],2,0⟩,⟨[(1013900,.junk),(2,.ref 0 0 0),(5,.own 1 0),(7,.own 2 0),(8,.int .i64)],[(0,.box [.int .i64,.int .i64,.str,.view 4] false),(1,.arr 3 false),(2,.arr 1 false)],3,0⟩]
def q3H(x0 x1 x2:Int)(x3:List UInt8)(x4 x5:List AV):X×St:=(.exit 1,⟨[(5,.nils ⟨3,.nil⟩)],[],0,0⟩)
def q3I(x0 x1 x2:Int)(x3:List UInt8)(x4 x5 x6:List AV):X×St:=(.exit 1,⟨[(5,.own 0 0 none)],[(0,.arr 3 x5 false)],1,0⟩)
def ziO:List (qeB->X×St):=[fun w=>(k6 q3H) ((sl w)),fun w=>(k7 q3I) ((sr w))]
def qQn(G_u178q:qda)(x0 x1 x2:Int)(x3:List UInt8)(x4 x5:List AV):DT (Rd qeB):=
 .br (decide (x0<(x5.length:Int)))
 (.br (inB x5.length x0)
 (.br (okP [.str] x5 x0.toNat 0)
 (.bi (qaV 5 (strOf (qfZ x5 x0.toNat 0))) (fun y0=>
 .br (qaD [.int .i64,.int .i64,.str,.slice 4] x4 x0)
 (.bi (G_u178q (intOf (cellAt x4 x0 0)) (intOf (cellAt x4 x0 1)) (strOf (cellAt x4 x0 2)) (qap (cellAt x4 x0 3)) 0) (fun y1=>
 .br (decide (y1.length=0)&&decide (3=3))
 (.at (.next ((.inr (IntKind.i64.wrap (x0+1),x1,x2,x3,x4,[AV.agg [.int .i64 y0.1,.int .i64 y0.2.1,AV.str y0.2.2]],x5)))))
 (.br (decide (y1.length≠0)&&room (1+y1.length) 32)
 (.at (.next ((.inr (IntKind.i64.wrap (x0+1),x1,x2,x3,x4,AV.agg [.int .i64 y0.1,.int .i64 y0.2.1,AV.str y0.2.2]::y1,x5)))))
 (.no)))
 (.no))
 (.no))
 (.no))
 (.no))
 (.no))
 (.at (.done 0))
def qQo(G_u178q:qda)(x0 x1 x2:Int)(x3:List UInt8)(x4 x5 x6:List AV):DT (Rd qeB):=
 .br (decide (x0<(x6.length:Int)))
 (.br (inB x6.length x0)
 (.br (okP [.str] x6 x0.toNat 0)
 (.bi (qaV 5 (strOf (qfZ x6 x0.toNat 0))) (fun y0=>
 .br (room (x5.length+1) 32)
 (.br (qaD [.int .i64,.int .i64,.str,.slice 4] x4 x0)
 (.bi (G_u178q (intOf (cellAt x4 x0 0)) (intOf (cellAt x4 x0 1)) (strOf (cellAt x4 x0 2)) (qap (cellAt x4 x0 3)) 0) (fun y1=>
 .br (decide (y1.length=0)&&decide (3=3))
 (.at (.next ((.inr (IntKind.i64.wrap (x0+1),x1,x2,x3,x4,x5++[AV.agg [.int .i64 y0.1,.int .i64 y0.2.1,AV.str y0.2.2]],x6)))))
 (.br (decide (y1.length≠0)&&room ((x5++[AV.agg [.int .i64 y0.1,.int .i64 y0.2.1,AV.str y0.2.2]]).length+y1.length) 32)
 (.at (.next ((.inr (IntKind.i64.wrap (x0+1),x1,x2,x3,x4,x5++[AV.agg [.int .i64 y0.1,.int .i64 y0.2.1,AV.str y0.2.2]]++y1,x6)))))
 (.no)))
 (.no))
 (.no))
 (.no))
 (.no))
 (.no))
 (.no))
 (.at (.done 1))
def qBH(G_u178q:qda):qeB->DT (Rd qeB):=(Sum.elim (fun v=>qQn G_u178q v.1 v.2.1 v.2.2.1 v.2.2.2.1 v.f.1 v.f.2) (fun v=>qQo G_u178q v.1 v.2.1 v.2.2.1 v.2.2.2.1 v.f.1 v.f.2.1 v.f.2.2))
def qgM(G_u178q:qda)(v:qeB):Option (Nat×qeB):=qax (qae (fun v=>(qBH G_u178q v).ev) v)
theorem qdx(G_u178q v):qgM G_u178q v=qae (fun v=>(qBH G_u178q v).ev) v:=qaa _
def qLO(G_u178q:qda):qbS:=LE (τ:=qeB) (hD qKy) (qgM G_u178q) ziO
theorem zhF(G_u178q:qda)(hG:qzP G_u178q):Go.Eng.Told IP (qad zc4 0).1 (qad zc4 0).2 (qLO G_u178q):=qat (inferInstance:Inhabited qeB) (hs:=qKy) (st:=qBH G_u178q) (L:=[]) (qtq G_u178q hG) (qac (l:=[]) (by kernel_rfl) trivial) (qdx G_u178q) (fun v=>match v with|(.inl v)=>by kernel_rfl|(.inr v)=>by kernel_rfl) (fun v=>match v with|(.inl v)=>by kernel_rfl|(.inr v)=>by kernel_rfl)
def qlT(G_u178q:qda)(x0 x1:Int)(x2:List UInt8)(x3:List AV)(x4:Int):DT qFZ:=
 .bi (qgI x0) (fun y0=>
 .br (decide (y0<x4))
 (.bi (qaV 4 [40]) (fun y1=>
 .bi (G_u178q x0 x1 x2 x3 0) (fun y2=>
 .br (decide (y2.length=0)&&decide (3=3))
 (.bi (qaV 4 [41]) (fun y3=>
 .at ([AV.agg [.int .i64 y1.1,.int .i64 y1.2.1,AV.str y1.2.2],AV.agg [.int .i64 y3.1,.int .i64 y3.2.1,AV.str y3.2.2]]))
 (.no))
 (.br (decide (y2.length≠0)&&room (1+y2.length) 32)
 (.bi (qaV 4 [41]) (fun y3=>
 .br (room ((AV.agg [.int .i64 y1.1,.int .i64 y1.2.1,AV.str y1.2.2]::y2).length+1) 32)
 (.at (AV.agg [.int .i64 y1.1,.int .i64 y1.2.1,AV.str y1.2.2] ::
 (y2++[AV.agg [.int .i64 y3.1,.int .i64 y3.2.1,AV.str y3.2.2]])))
 (.no))
 (.no))
 (.no)))
 (.no))
 (.no))
 (.br ((x3.length:Int)==0)
 (.bi (quy x0 x1 x2 x3) (fun y1=>
 .at (y1))
 (.no))
 (.br (x0==19)
 (.bi (pj 0 (qgM G_u178q (Sum.inl (0,x0,x1,x2,x3,[AV.str [105,102],AV.str [116,104,101,110],AV.str [101,108,115,101]])))) (fun y1=>
 .at ([]))
 (.bi (pj 1 (qgM G_u178q (Sum.inl (0,x0,x1,x2,x3,[AV.str [105,102],AV.str [116,104,101,110],AV.str [101,108,115,101]])))) (fun y1=>
 .at ((sr y1).f.2.1))
 (.no)))
 (.bi (br (x0==17) (some true) (some (x0==18))) (fun y1=>
 .br (y1)
 (.br (x0==18)
 (.bi (qaV 5 [109,97,120]) (fun y2=>
 .bi (qaV 4 [40]) (fun y3=>
 .br (qaD [.int .i64,.int .i64,.str,.slice 4] x3 0)
 (.bi (G_u178q (intOf (cellAt x3 0 0)) (intOf (cellAt x3 0 1)) (strOf (cellAt x3 0 2)) (qap (cellAt x3 0 3)) 0) (fun y4=>
 .br (decide (y4.length=0)&&decide (3=3))
 (.bi (qaV 4 [44]) (fun y5=>
 .br (qaD [.int .i64,.int .i64,.str,.slice 4] x3 1)
 (.bi (G_u178q (intOf (cellAt x3 1 0)) (intOf (cellAt x3 1 1)) (strOf (cellAt x3 1 2)) (qap (cellAt x3 1 3)) 0) (fun y6=>
 .br (decide (y6.length=0)&&decide (3=3))
 (.bi (qaV 4 [41]) (fun y7=>
 .at ([AV.agg [.int .i64 y2.1,.int .i64 y2.2.1,AV.str y2.2.2],AV.agg [.int .i64 y3.1,.int .i64 y3.2.1,AV.str y3.2.2],
 AV.agg [.int .i64 y5.1,.int .i64 y5.2.1,AV.str y5.2.2],AV.agg [.int .i64 y7.1,.int .i64 y7.2.1,AV.str y7.2.2]]))
 (.no))
 (.br (decide (y6.length≠0)&&room (3+y6.length) 32)
 (.bi (qaV 4 [41]) (fun y7=>
 .br (room
 ((AV.agg [.int .i64 y2.1,.int .i64 y2.2.1,AV.str y2.2.2] ::
 AV.agg [.int .i64 y3.1,.int .i64 y3.2.1,AV.str y3.2.2] ::
 AV.agg [.int .i64 y5.1,.int .i64 y5.2.1,AV.str y5.2.2]::y6).length +
 1)
 32)
 (.at (AV.agg [.int .i64 y2.1,.int .i64 y2.2.1,AV.str y2.2.2] ::
 AV.agg [.int .i64 y3.1,.int .i64 y3.2.1,AV.str y3.2.2] ::
 AV.agg [.int .i64 y5.1,.int .i64 y5.2.1,AV.str y5.2.2] ::
 (y6++[AV.agg [.int .i64 y7.1,.int .i64 y7.2.1,AV.str y7.2.2]])))
 (.no))
 (.no))
 (.no)))
 (.no))
 (.no))
 (.no))
 (.br (decide (y4.length≠0)&&room (2+y4.length) 32)
 (.bi (qaV 4 [44]) (fun y5=>
 .br (room
 ((AV.agg [.int .i64 y2.1,.int .i64 y2.2.1,AV.str y2.2.2] ::
 AV.agg [.int .i64 y3.1,.int .i64 y3.2.1,AV.str y3.2.2]::y4).length +
 1)
 32)
 (.br (qaD [.int .i64,.int .i64,.str,.slice 4] x3 1)
 (.bi (G_u178q (intOf (cellAt x3 1 0)) (intOf (cellAt x3 1 1)) (strOf (cellAt x3 1 2)) (qap (cellAt x3 1 3)) 0) (fun y6=>
 .br (decide (y6.length=0)&&decide (3=3))
 (.bi (qaV 4 [41]) (fun y7=>
 .br (room
 ((AV.agg [.int .i64 y2.1,.int .i64 y2.2.1,AV.str y2.2.2] ::
 AV.agg [.int .i64 y3.1,.int .i64 y3.2.1,AV.str y3.2.2] ::
 (y4++[AV.agg [.int .i64 y5.1,.int .i64 y5.2.1,AV.str y5.2.2]])).length +
 1)
 32)
 (.at (AV.agg [.int .i64 y2.1,.int .i64 y2.2.1,AV.str y2.2.2] ::
 AV.agg [.int .i64 y3.1,.int .i64 y3.2.1,AV.str y3.2.2] ::
 (((y4++[AV.agg [.int .i64 y5.1,.int .i64 y5.2.1,AV.str y5.2.2]]))++[AV.agg [.int .i64 y7.1,.int .i64 y7.2.1,AV.str y7.2.2]])))
 (.no))
 (.no))
 (.br (decide (y6.length≠0) &&
 room
 ((AV.agg [.int .i64 y2.1,.int .i64 y2.2.1,AV.str y2.2.2] ::
 AV.agg [.int .i64 y3.1,.int .i64 y3.2.1,AV.str y3.2.2] ::
 (y4++[AV.agg [.int .i64 y5.1,.int .i64 y5.2.1,AV.str y5.2.2]])).length +
 y6.length)
 32)
 (.bi (qaV 4 [41]) (fun y7=>
 .br (room
 ((AV.agg [.int .i64 y2.1,.int .i64 y2.2.1,AV.str y2.2.2] ::
 AV.agg [.int .i64 y3.1,.int .i64 y3.2.1,AV.str y3.2.2] ::
 (((y4++[AV.agg [.int .i64 y5.1,.int .i64 y5.2.1,AV.str y5.2.2]]))++y6)).length +
 1)
 32)
 (.at (AV.agg [.int .i64 y2.1,.int .i64 y2.2.1,AV.str y2.2.2] ::
 AV.agg [.int .i64 y3.1,.int .i64 y3.2.1,AV.str y3.2.2] ::
 (((((y4++[AV.agg [.int .i64 y5.1,.int .i64 y5.2.1,AV.str y5.2.2]]))++y6))++[AV.agg [.int .i64 y7.1,.int .i64 y7.2.1,AV.str y7.2.2]])))
 (.no))
 (.no))
 (.no)))
 (.no))
 (.no))
 (.no))
 (.no))
 (.no)))
 (.no))
 (.no))
 (.no))
 (.no))
 (.bi (qaV 5 [109,105,110]) (fun y2=>
 .bi (qaV 4 [40]) (fun y3=>
 .br (qaD [.int .i64,.int .i64,.str,.slice 4] x3 0)
 (.bi (G_u178q (intOf (cellAt x3 0 0)) (intOf (cellAt x3 0 1)) (strOf (cellAt x3 0 2)) (qap (cellAt x3 0 3)) 0) (fun y4=>
 .br (decide (y4.length=0)&&decide (3=3))
 (.bi (qaV 4 [44]) (fun y5=>
 .br (qaD [.int .i64,.int .i64,.str,.slice 4] x3 1)
 (.bi (G_u178q (intOf (cellAt x3 1 0)) (intOf (cellAt x3 1 1)) (strOf (cellAt x3 1 2)) (qap (cellAt x3 1 3)) 0) (fun y6=>
 .br (decide (y6.length=0)&&decide (3=3))
 (.bi (qaV 4 [41]) (fun y7=>
 .at ([AV.agg [.int .i64 y2.1,.int .i64 y2.2.1,AV.str y2.2.2],AV.agg [.int .i64 y3.1,.int .i64 y3.2.1,AV.str y3.2.2],
 AV.agg [.int .i64 y5.1,.int .i64 y5.2.1,AV.str y5.2.2],AV.agg [.int .i64 y7.1,.int .i64 y7.2.1,AV.str y7.2.2]]))
 (.no))
 (.br (decide (y6.length≠0)&&room (3+y6.length) 32)
 (.bi (qaV 4 [41]) (fun y7=>
 .br (room
 ((AV.agg [.int .i64 y2.1,.int .i64 y2.2.1,AV.str y2.2.2] ::
 AV.agg [.int .i64 y3.1,.int .i64 y3.2.1,AV.str y3.2.2] ::
 AV.agg [.int .i64 y5.1,.int .i64 y5.2.1,AV.str y5.2.2]::y6).length +
 1)
 32)
 (.at (AV.agg [.int .i64 y2.1,.int .i64 y2.2.1,AV.str y2.2.2] ::
 AV.agg [.int .i64 y3.1,.int .i64 y3.2.1,AV.str y3.2.2] ::
 AV.agg [.int .i64 y5.1,.int .i64 y5.2.1,AV.str y5.2.2] ::
 (y6++[AV.agg [.int .i64 y7.1,.int .i64 y7.2.1,AV.str y7.2.2]])))
 (.no))
 (.no))
 (.no)))
 (.no))
 (.no))
 (.no))
 (.br (decide (y4.length≠0)&&room (2+y4.length) 32)
 (.bi (qaV 4 [44]) (fun y5=>
 .br (room
 ((AV.agg [.int .i64 y2.1,.int .i64 y2.2.1,AV.str y2.2.2] ::
 AV.agg [.int .i64 y3.1,.int .i64 y3.2.1,AV.str y3.2.2]::y4).length +
 1)
 32)
 (.br (qaD [.int .i64,.int .i64,.str,.slice 4] x3 1)
 (.bi (G_u178q (intOf (cellAt x3 1 0)) (intOf (cellAt x3 1 1)) (strOf (cellAt x3 1 2)) (qap (cellAt x3 1 3)) 0) (fun y6=>
 .br (decide (y6.length=0)&&decide (3=3))
 (.bi (qaV 4 [41]) (fun y7=>
 .br (room
 ((AV.agg [.int .i64 y2.1,.int .i64 y2.2.1,AV.str y2.2.2] ::
 AV.agg [.int .i64 y3.1,.int .i64 y3.2.1,AV.str y3.2.2] ::
 (y4++[AV.agg [.int .i64 y5.1,.int .i64 y5.2.1,AV.str y5.2.2]])).length +
 1)
 32)
 (.at (AV.agg [.int .i64 y2.1,.int .i64 y2.2.1,AV.str y2.2.2] ::
 AV.agg [.int .i64 y3.1,.int .i64 y3.2.1,AV.str y3.2.2] ::
 (((y4++[AV.agg [.int .i64 y5.1,.int .i64 y5.2.1,AV.str y5.2.2]]))++[AV.agg [.int .i64 y7.1,.int .i64 y7.2.1,AV.str y7.2.2]])))
 (.no))
 (.no))
 (.br (decide (y6.length≠0) &&
 room
 ((AV.agg [.int .i64 y2.1,.int .i64 y2.2.1,AV.str y2.2.2] ::
 AV.agg [.int .i64 y3.1,.int .i64 y3.2.1,AV.str y3.2.2] ::
 (y4++[AV.agg [.int .i64 y5.1,.int .i64 y5.2.1,AV.str y5.2.2]])).length +
 y6.length)
 32)
 (.bi (qaV 4 [41]) (fun y7=>
 .br (room
 ((AV.agg [.int .i64 y2.1,.int .i64 y2.2.1,AV.str y2.2.2] ::
 AV.agg [.int .i64 y3.1,.int .i64 y3.2.1,AV.str y3.2.2] ::
 (((y4++[AV.agg [.int .i64 y5.1,.int .i64 y5.2.1,AV.str y5.2.2]]))++y6)).length +
 1)
 32)
 (.at (AV.agg [.int .i64 y2.1,.int .i64 y2.2.1,AV.str y2.2.2] ::
 AV.agg [.int .i64 y3.1,.int .i64 y3.2.1,AV.str y3.2.2] ::
 (((((y4++[AV.agg [.int .i64 y5.1,.int .i64 y5.2.1,AV.str y5.2.2]]))++y6))++[AV.agg [.int .i64 y7.1,.int .i64 y7.2.1,AV.str y7.2.2]])))
 (.no))
 (.no))
 (.no)))
 (.no))
 (.no))
 (.no))
 (.no))
 (.no)))
 (.no))
 (.no))
 (.no))
 (.no)))
 (.br (x0==16)
 (.bi (qaV 5 [110,111,116]) (fun y2=>
 .br (qaD [.int .i64,.int .i64,.str,.slice 4] x3 0)
 (.bi (G_u178q (intOf (cellAt x3 0 0)) (intOf (cellAt x3 0 1)) (strOf (cellAt x3 0 2)) (qap (cellAt x3 0 3)) y0) (fun y3=>
 .br (decide (y3.length=0)&&decide (3=3))
 (.at ([AV.agg [.int .i64 y2.1,.int .i64 y2.2.1,AV.str y2.2.2]]))
 (.br (decide (y3.length≠0)&&room (1+y3.length) 32) (.at (AV.agg [.int .i64 y2.1,.int .i64 y2.2.1,AV.str y2.2.2]::y3)) (.no)))
 (.no))
 (.no))
 (.no))
 (.br (x0==9)
 (.bi (qaV 4 [45]) (fun y2=>
 .br (qaD [.int .i64,.int .i64,.str,.slice 4] x3 0)
 (.bi (G_u178q (intOf (cellAt x3 0 0)) (intOf (cellAt x3 0 1)) (strOf (cellAt x3 0 2)) (qap (cellAt x3 0 3)) y0) (fun y3=>
 .br (decide (y3.length=0)&&decide (3=3))
 (.at ([AV.agg [.int .i64 y2.1,.int .i64 y2.2.1,AV.str y2.2.2]]))
 (.br (decide (y3.length≠0)&&room (1+y3.length) 32) (.at (AV.agg [.int .i64 y2.1,.int .i64 y2.2.1,AV.str y2.2.2]::y3)) (.no)))
 (.no))
 (.no))
 (.no))
 (.br (y0==4)
 (.br (qaD [.int .i64,.int .i64,.str,.slice 4] x3 0)
 (.bi (G_u178q (intOf (cellAt x3 0 0)) (intOf (cellAt x3 0 1)) (strOf (cellAt x3 0 2)) (qap (cellAt x3 0 3)) 5) (fun y2=>
 .br (decide (y2.length=0)&&decide (3=3))
 (.bi (qkg x0) (fun y3=>
 .br (qaD [.int .i64,.int .i64,.str,.slice 4] x3 1)
 (.bi (G_u178q (intOf (cellAt x3 1 0)) (intOf (cellAt x3 1 1)) (strOf (cellAt x3 1 2)) (qap (cellAt x3 1 3)) (IntKind.i64.wrap (y0+1))) (fun y4=>
 .br (decide (y4.length=0)&&decide (3=3))
 (.at ([AV.agg [.int .i64 y3.1,.int .i64 y3.2.1,AV.str y3.2.2]]))
 (.br (decide (y4.length≠0)&&room (1+y4.length) 32) (.at (AV.agg [.int .i64 y3.1,.int .i64 y3.2.1,AV.str y3.2.2]::y4)) (.no)))
 (.no))
 (.no))
 (.no))
 (.br (decide (y2.length≠0)&&room y2.length 32)
 (.bi (qkg x0) (fun y3=>
 .br (room (y2.length+1) 32)
 (.br (qaD [.int .i64,.int .i64,.str,.slice 4] x3 1)
 (.bi (G_u178q (intOf (cellAt x3 1 0)) (intOf (cellAt x3 1 1)) (strOf (cellAt x3 1 2)) (qap (cellAt x3 1 3)) (IntKind.i64.wrap (y0+1))) (fun y4=>
 .br (decide (y4.length=0)&&decide (3=3))
 (.at (y2++[AV.agg [.int .i64 y3.1,.int .i64 y3.2.1,AV.str y3.2.2]]))
 (.br (decide (y4.length≠0)&&room ((y2++[AV.agg [.int .i64 y3.1,.int .i64 y3.2.1,AV.str y3.2.2]]).length+y4.length) 32)
 (.at (y2++[AV.agg [.int .i64 y3.1,.int .i64 y3.2.1,AV.str y3.2.2]]++y4))
 (.no)))
 (.no))
 (.no))
 (.no))
 (.no))
 (.no)))
 (.no))
 (.no))
 (.br (qaD [.int .i64,.int .i64,.str,.slice 4] x3 0)
 (.bi (G_u178q (intOf (cellAt x3 0 0)) (intOf (cellAt x3 0 1)) (strOf (cellAt x3 0 2)) (qap (cellAt x3 0 3)) y0) (fun y2=>
 .br (decide (y2.length=0)&&decide (3=3))
 (.bi (qkg x0) (fun y3=>
 .br (qaD [.int .i64,.int .i64,.str,.slice 4] x3 1)
 (.bi (G_u178q (intOf (cellAt x3 1 0)) (intOf (cellAt x3 1 1)) (strOf (cellAt x3 1 2)) (qap (cellAt x3 1 3)) (IntKind.i64.wrap (y0+1))) (fun y4=>
 .br (decide (y4.length=0)&&decide (3=3))
 (.at ([AV.agg [.int .i64 y3.1,.int .i64 y3.2.1,AV.str y3.2.2]]))
 (.br (decide (y4.length≠0)&&room (1+y4.length) 32) (.at (AV.agg [.int .i64 y3.1,.int .i64 y3.2.1,AV.str y3.2.2]::y4)) (.no)))
 (.no))
 (.no))
 (.no))
 (.br (decide (y2.length≠0)&&room y2.length 32)
 (.bi (qkg x0) (fun y3=>
 .br (room (y2.length+1) 32)
 (.br (qaD [.int .i64,.int .i64,.str,.slice 4] x3 1)
 (.bi (G_u178q (intOf (cellAt x3 1 0)) (intOf (cellAt x3 1 1)) (strOf (cellAt x3 1 2)) (qap (cellAt x3 1 3)) (IntKind.i64.wrap (y0+1))) (fun y4=>
 .br (decide (y4.length=0)&&decide (3=3))
 (.at (y2++[AV.agg [.int .i64 y3.1,.int .i64 y3.2.1,AV.str y3.2.2]]))
 (.br (decide (y4.length≠0)&&room ((y2++[AV.agg [.int .i64 y3.1,.int .i64 y3.2.1,AV.str y3.2.2]]).length+y4.length) 32)
 (.at (y2++[AV.agg [.int .i64 y3.1,.int .i64 y3.2.1,AV.str y3.2.2]]++y4))
 (.no)))
 (.no))
 (.no))
 (.no))
 (.no))
 (.no)))
 (.no))
 (.no))))))
 (.no)))))
 (.no)
def qbv:Nat->qda
 |0=>fun _ _ _ _ _=>none
 |n+1=>fun x0 x1 x2 x3 x4=>(qlT ((qbv n)) x0 x1 x2 x3 x4).ev
def qAt(x0 x1:Int)(x2:List UInt8)(x3:List AV)(x4:Int):Option qFZ:=qjW fun n=>(qbv n) x0 x1 x2 x3 x4
theorem qxD:∀n,qzP ((qbv n))
 |0=>(fun v y h=>nomatch h)
 |n+1=>have hG:=qxD n
 qag (F:=zc4) (L:=[(1013900,qLO ((qbv n)))]) (t:=(k5 (qlT ((qbv n))))) (qtq ((qbv n)) hG) (qac (l:=[qad zc4 0]) (by kernel_rfl) ⟨qas (by kernel_rfl) (zhF ((qbv n)) hG),trivial⟩) (by kernel_rfl) (fun v=>by kernel_rfl) (fun v=>rfl)
theorem zes:FH IP 139 qvH qv8 (k5 qAt):=qbM (p:=qvH) (rs:=qv8) (s:=fun n=>(k5 ((qbv n)))) fun n=>(qxD n)
def zt3:Tab:=(139,FE qvH qv8 (k5 qAt))::zpT
theorem qTg:qao IP zt3:=⟨qam zes,qTf⟩
abbrev qRr:Type:=List AV×Int
def qYN:PArgs:=⟨[.agg [.int .i64,.int .i64,.str,.view 4]],[]⟩
def q09:List PRes:=[⟨false,.tup [.view 3,.int .i64],[]⟩]
def qsi(x0 x1:Int)(x2:List UInt8)(x3:List AV):DT qRr:=
 .bi (qi4 x0 x1 x2 x3) (fun y0=>
 .br (y0 != 0)
 (.at (([],y0)))
 (.bi (qAt x0 x1 x2 x3 0) (fun y1=>
 .at ((y1,0)))
 (.no)))
 (.no)
def quc(x0 x1:Int)(x2:List UInt8)(x3:List AV):Option qRr:=qax (qsi x0 x1 x2 x3).ev
theorem qOK(x0 x1 x2 x3):quc x0 x1 x2 x3=(qsi x0 x1 x2 x3).ev:=qaa _
theorem zeI:FH IP 84 qYN q09 (k4 quc):=fh F84 (k4 qsi) qTg
def zt4:Tab:=(84,FE qYN q09 (k4 quc))::zt3
theorem qGx:qao IP zt4:=⟨qam zeI,qTg⟩
abbrev qiS:Type:=List AV×Int×List AV×Int×Int
def qWu:List PSt:=[⟨[(1003600,.junk),(2,.ref 0 0 0),(4,.ref 1 0 0),(5,.view 3),(7,.int .i64)],[(0,.box [.view 3,.int .i64] false),(1,.box [.nils 3,.int .i64] false)],2,0⟩]
def q72(x0:List AV)(x1:Int)(x2:List AV)(x3 x4:Int):X×St:=(.exit 0,
 ⟨[(2,.ref 0 0 0),(4,.ref 1 0 0)],[(0,.box [.view 3 x2,.int .i64 x3] false),(1,.box [.nils ⟨3,.nil⟩,.int .i64 x4] false)],2,0⟩)
def zn9:List (qiS->X×St):=[(k5 q72)]
def qkW(x0:List AV)(x1:Int)(x2:List AV)(x3 x4:Int):DT (Rd qiS):=
 .br (decide (x1<(x0.length:Int)))
 (.br (qaD [.int .i64,.int .i64,.str] x0 x1)
 (.br (qaD [.int .i64,.int .i64,.str] x0 x1)
 (.bi (qhO x2 x3 (intOf (cellAt x0 x1 0)) (strOf (cellAt x0 x1 2))) (fun y0=>
 .at (.next ((x0,IntKind.i64.wrap (x1+1),y0.1,y0.2,x4))))
 (.no))
 (.no))
 (.no))
 (.at (.done 0))
def qJg:qiS->DT (Rd qiS):=(fun v=>qkW v.1 v.2.1 v.2.2.1 v.2.2.2.1 v.f)
def qEd(v:qiS):Option (Nat×qiS):=qax (qae (fun v=>(qJg v).ev) v)
theorem qEe(v):qEd v=qae (fun v=>(qJg v).ev) v:=qaa _
def qW9:qbS:=LE (τ:=qiS) (hD qWu) (qEd) zn9
theorem znr:Go.Eng.Told IP (qad F36 0).1 (qad F36 0).2 (qW9):=lp (inferInstance:Inhabited qiS) (hs:=qWu) qJg qGx qEe
abbrev qQJ:Type:=List AV×Int
def qXV:PArgs:=⟨[.agg [.view 3,.int .i64],.agg [.int .i64,.int .i64,.str,.view 4]],[]⟩
def q0h:List PRes:=[⟨false,.agg [.view 3,.int .i64],[]⟩]
def qrn(x0:List AV)(x1 x2 x3:Int)(x4:List UInt8)(x5:List AV):DT qQJ:=
 .bi (quc x2 x3 x4 x5) (fun y0=>
 .bi (pj 0 (qEd (y0.1,0,x0,x1,0))) (fun y1=>
 .at ((y1.2.2.1,y1.2.2.2.1)))
 (.no))
 (.no)
def qml(x0:List AV)(x1 x2 x3:Int)(x4:List UInt8)(x5:List AV):Option qQJ:=qax (qrn x0 x1 x2 x3 x4 x5).ev
theorem qNS(x0 x1 x2 x3 x4 x5):qml x0 x1 x2 x3 x4 x5=(qrn x0 x1 x2 x3 x4 x5).ev:=qaa _
theorem zdO:FH IP 36 qXV q0h (k6 qml):=qag (F:=F36) (L:=[(1003600,qW9)]) (t:=(k6 qrn)) qGx (qac (l:=[qad F36 0]) (by kernel_rfl) ⟨qas (by kernel_rfl) znr,trivial⟩) (by kernel_rfl) (fun v=>by kernel_rfl) (fun _=>qaa _)
def zt5:Tab:=(36,FE qXV q0h (k6 qml))::zt4
theorem qto:qao IP zt5:=⟨qam zdO,qGx⟩
abbrev qdO:Type:=Int×List UInt8×List UInt8×List UInt8×Int×Int×Int×Int×List AV×Bool×Int×Int×Bool×List AV×Bool×Int×Int×Bool×List AV×List AV×List AV×Int
def qKV:List PSt:=[⟨[(1001000,.junk),(1,.ref 0 0 0),(9,.ref 1 0 0),(10,.int .i64)],[(0,.box [.str,.str,.str,.int .i64,.int .i64,.int .i64,.int .i64,.view 2,.bool,.int .i64,.int .i64,.bool,.view 2,.bool,.int .i64,.int .i64,.bool,.view 10,.view 6] false),(1,.box [.view 3,.int .i64] false)],2,0⟩]
def q4t(x0:Int)(x1 x2 x3:List UInt8)(x4 x5:Int)(x6 x7:Int)(x8:List AV)(x9:Bool)(x10 x11:Int)(x12:Bool)(x13:List AV)(x14:Bool)(x15 x16:Int)(x17:Bool)(x18 x19 x20:List AV)(x21:Int):X×St:=(.exit 0,
 ⟨[(1,.ref 0 0 0),(9,.ref 1 0 0)],[(0,
 .box
 [.str x1,.str x2,.str x3,.int .i64 x4,.int .i64 x5,.int .i64 x6,.int .i64 x7,.view 2 x8,.bool x9,
 .int .i64 x10,.int .i64 x11,.bool x12,.view 2 x13,.bool x14,.int .i64 x15,.int .i64 x16,.bool x17,.view 10 x18,
 .view 6 x19]
 false),
 (1,.box [.view 3 x20,.int .i64 x21] false)],2,0⟩)
def zjb:List (qdO->X×St):=[(k22 q4t)]
def qiy(x0:Int)(x1 x2 x3:List UInt8)(x4 x5:Int)(x6 x7:Int)(x8:List AV)(x9:Bool)(x10 x11:Int)(x12:Bool)(x13:List AV)(x14:Bool)(x15 x16:Int)(x17:Bool)(x18 x19 x20:List AV)(x21:Int):DT (Rd qdO):=
 .br (decide (x0<(x18.length:Int)))
 (.br (qaD [.str,.int .i64,.int .i64,.int .i64,.str,.slice 4,.int .i64,.int .i64,.str,.slice 4] x18 x0)
 (.bi (qcK x20 x21 [102,101,101]) (fun y0=>
 .bi (qja y0.1 y0.2 (strOf (cellAt x18 x0 0))) (fun y1=>
 .bi (qkc) (fun y2=>
 .br (qaD [.str] y2 (IntKind.i64.wrap (intOf (cellAt x18 x0 1)-1)))
 (.bi (qbo y1.1 y1.2 (strOf (cellAt y2 (IntKind.i64.wrap (intOf (cellAt x18 x0 1)-1)) 0))) (fun y3=>
 .bi (qbo y3.1 y3.2 [119,104,101,110]) (fun y4=>
 .bi (qml y4.1 y4.2 (intOf (cellAt x18 x0 2)) (intOf (cellAt x18 x0 3)) (strOf (cellAt x18 x0 4)) (qap (cellAt x18 x0 5))) (fun y5=>
 .bi (qbo y5.1 y5.2 [97,109,111,117,110,116,95,111,102]) (fun y6=>
 .bi (qml y6.1 y6.2 (intOf (cellAt x18 x0 6)) (intOf (cellAt x18 x0 7)) (strOf (cellAt x18 x0 8)) (qap (cellAt x18 x0 9))) (fun y7=>
 .bi (qbi y7.1 y7.2 [59]) (fun y8=>
 .at (.next ((IntKind.i64.wrap (x0+1),x1,x2,x3,x4,x5,x6,x7,x8,x9,x10,x11,x12,x13,x14,x15,x16,x17,x18,x19,y8))))
 (.no))
 (.no))
 (.no))
 (.no))
 (.no))
 (.no))
 (.no))
 (.no))
 (.no))
 (.no))
 (.no))
 (.at (.done 0))
def qBM:qdO->DT (Rd qdO):=(fun v=>qiy v.1 v.2.1 v.2.2.1 v.2.2.2.1 v.f.1 v.f.2.1 v.f.2.2.1 v.f.2.2.2.1 v.h.1 v.h.2.1 v.h.2.2.1 v.h.2.2.2.1 v.h.f.1 v.h.f.2.1 v.h.f.2.2.1 v.h.f.2.2.2.1 v.i.1 v.i.2.1 v.i.2.2.1 v.i.2.2.2.1 v.i.f.1 v.i.f.2)
def qvd(v:qdO):Option (Nat×qdO):=qax (qae (fun v=>(qBM v).ev) v)
theorem qyM(v):qvd v=qae (fun v=>(qBM v).ev) v:=qaa _
def qMb:qbS:=LE (τ:=qdO) (hD qKV) (qvd) zjb
theorem zh2:Go.Eng.Told IP (qad F10 0).1 (qad F10 0).2 (qMb):=lp (inferInstance:Inhabited qdO) (hs:=qKV) qBM qto qyM
end
end Go.Proofs.H16

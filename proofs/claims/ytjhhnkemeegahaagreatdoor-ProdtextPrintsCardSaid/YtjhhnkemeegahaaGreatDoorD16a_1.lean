/- Functions over plain data. Printed by a program of mine. -/
import Derived.Test.YtjhhnkemeegahaaGreatDoorE3
import Derived.Test.YtjhhnkemeegahaaGreatDoorIP16a
import Derived.KernelRfl
import Derived.Test.YtjhhnkemeegahaaGreatDoorSpA
set_option linter.all false
namespace Go.Proofs.H16a
open Go Go.Eng
set_option maxRecDepth 100000
noncomputable section
abbrev k2{a b r:Type}(F:a->b->r)(v:a×b):r:=F v.1 v.2
abbrev k3{a b c r:Type}(F:a->b->c->r)(v:a×b×c):r:=k2 (F v.1) v.2
abbrev k4{a b c d r:Type}(F:a->b->c->d->r)(v:a×b×c×d):r:=k3 (F v.1) v.2
abbrev k5{a b c d e r:Type}(F:a->b->c->d->e->r)(v:a×b×c×d×e):r:=k4 (F v.1) v.2
def T0:Tab:=[(62,qhP)]
theorem qSO:qao IP T0:=⟨zs7,trivial⟩
abbrev qti:Type:=List AV
def qvJ:PArgs:=⟨[],[]⟩
def qwa:List PRes:=[⟨false,.view 1,[]⟩]
def qgf:DT qti:=
 .at ([AV.str ([]++[112]++[114]++[111]++[100]++[117]++[99]++[116]),AV.str ([]++[99]++[117]++[114]++[114]++[101]++[110]++[99]++[121]),
 AV.str ([]++[99]++[97]++[108]++[101]++[110]++[100]++[97]++[114]),AV.str ([]++[102]++[114]++[111]++[109]),
 AV.str ([]++[101]++[118]++[101]++[114]++[121]),AV.str ([]++[111]++[118]++[101]++[114]++[100]++[114]++[97]++[102]++[116]),
 AV.str ([]++[116]++[97]++[120]),AV.str ([]++[99]++[114]++[101]++[100]++[105]++[116]),AV.str ([]++[100]++[101]++[98]++[105]++[116]),
 AV.str ([]++[109]++[97]++[114]++[103]++[105]++[110]++[97]++[108]),AV.str ([]++[119]++[104]++[111]++[108]++[101]),
 AV.str ([]++[97]++[99]++[116]++[51]++[54]++[48]),AV.str ([]++[97]++[99]++[116]++[51]++[54]++[53]),
 AV.str ([]++[97]++[99]++[116]++[117]++[97]++[108]),AV.str ([]++[116]++[104]++[105]++[114]++[116]++[121]),
 AV.str ([]++[100]++[111]++[119]++[110]),AV.str ([]++[117]++[112]),AV.str ([]++[102]++[108]++[111]++[111]++[114]),
 AV.str ([]++[99]++[101]++[105]++[108]),AV.str ([]++[104]++[97]++[108]++[102]++[95]++[117]++[112]),
 AV.str ([]++[104]++[97]++[108]++[102]++[95]++[101]++[118]++[101]++[110]),AV.str ([]++[107]++[101]++[101]++[112]),
 AV.str ([]++[100]++[114]++[111]++[112]),AV.str ([]++[102]++[101]++[101]),AV.str ([]++[108]++[105]++[109]++[105]++[116]),
 AV.str ([]++[119]++[104]++[101]++[110]),AV.str ([]++[97]++[109]++[111]++[117]++[110]++[116]++[95]++[111]++[102]),
 AV.str ([]++[115]++[105]++[110]++[103]++[108]++[101]),AV.str ([]++[100]++[97]++[105]++[108]++[121]),
 AV.str ([]++[109]++[111]++[110]++[116]++[104]++[108]++[121]),AV.str ([]++[109]++[111]++[110]++[116]++[104]),
 AV.str ([]++[114]++[101]++[116]++[117]++[114]++[110]),AV.str ([]++[99]++[108]++[111]++[115]++[101]),
 AV.str ([]++[101]++[118]++[101]++[110]++[116]),AV.str ([]++[105]++[102]),AV.str ([]++[116]++[104]++[101]++[110]),
 AV.str ([]++[101]++[108]++[115]++[101]),AV.str ([]++[97]++[110]++[100]),AV.str ([]++[111]++[114]),AV.str ([]++[110]++[111]++[116]),
 AV.str ([]++[109]++[105]++[110]),AV.str ([]++[109]++[97]++[120])])
def qgC:Option qti:=qax (qgf).ev
theorem qoQ:qgC=(qgf).ev:=qaa _
theorem qAe:FH IP 126 qvJ qwa (fun _=>qgC):=qag (F:=q5d) (L:=[]) (t:=(fun _=>qgf)) qSO (qac (l:=[]) (by kernel_rfl) trivial) (by kernel_rfl) (fun v=>by kernel_rfl) (fun _=>qaa _)
def T1:Tab:=(126,FE qvJ qwa (fun _=>qgC))::T0
theorem qNw:qao IP T1:=⟨qam qAe,qSO⟩
abbrev qct:Type:=List AV×List UInt8×Int×Int
def quX:List PSt:=[⟨[(1018600,.junk),(0,.view 1),(1,.str),(7,.int .i64),(8,.int .i64)],[],0,0⟩]
def qC1(x0:List AV)(x1:List UInt8)(x2 x3:Int):X×St:=(.ret,⟨[(4,.int .i64 x3)],[],0,0⟩)
def qC2(x0:List AV)(x1:List UInt8)(x2 x3:Int):X×St:=(.exit 0,⟨[(4,.junk)],[],0,0⟩)
def q3x:List (qct->X×St):=[(k4 qC1),(k4 qC2)]
def qg0(x0:List AV)(x1:List UInt8)(x2 x3:Int):DT (Rd qct):=
 .br (decide (x3<x2))
 (.br (qaD [.str] x0 x3)
 (.br (x1==strOf (cellAt x0 x3 0)) (.at (.done 0)) (.at (.next ((x0,x1,x2,IntKind.i64.wrap (x3+1))))))
 (.no))
 (.at (.done 1))
def qgZ:qct->DT (Rd qct):=(fun v=>qg0 v.1 v.2.1 v.2.2.1 v.2.2.2)
def qkp(v:qct):Option (Nat×qct):=qax (qae (fun v=>(qgZ v).ev) v)
theorem qkq(v):qkp v=qae (fun v=>(qgZ v).ev) v:=qaa _
def qvp:qbS:=LE (τ:=qct) (hD quX) (qkp) q3x
theorem q2Q:Go.Eng.Told IP (qad qGb 0).1 (qad qGb 0).2 (qvp):=lp (inferInstance:Inhabited qct) (hs:=quX) qgZ qNw qkq
abbrev qC4:Type:=Int
def qEG:PArgs:=⟨[.view 1,.str],[]⟩
def qEX:List PRes:=[⟨false,.int .i64,[]⟩]
def qjA(x0:List AV)(x1:List UInt8):DT qC4:=
 .bi (pj 0 (qkp (x0,x1,(x0.length:Int),0))) (fun y0=>
 .at (y0.2.2.2))
 (.bi (pj 1 (qkp (x0,x1,(x0.length:Int),0))) (fun y0=>
 .at (-1))
 (.no))
def qnk(x0:List AV)(x1:List UInt8):Option qC4:=qax (qjA x0 x1).ev
theorem qtU(x0 x1):qnk x0 x1=(qjA x0 x1).ev:=qaa _
theorem qUr:FH IP 186 qEG qEX (k2 qnk):=qag (F:=qGb) (L:=[(1018600,qvp)]) (t:=(k2 qjA)) qNw (qac (l:=[qad qGb 0]) (by kernel_rfl) ⟨qas (by kernel_rfl) q2Q,trivial⟩) (by kernel_rfl) (fun v=>by kernel_rfl) (fun _=>qaa _)
def T2:Tab:=(186,FE qEG qEX (k2 qnk))::T1
theorem qGN:qao IP T2:=⟨qam qUr,qNw⟩
abbrev qSG:Type:=Bool
def qZT:PArgs:=⟨[.view 1,.str],[]⟩
def q2n:List PRes:=[⟨false,.bool,[]⟩]
def qor(x0:List AV)(x1:List UInt8):DT qSG:=
 .bi (qnk x0 x1) (fun y0=>
 .at (decide (y0>=0)))
 (.no)
def quI(x0:List AV)(x1:List UInt8):Option qSG:=qax (qor x0 x1).ev
theorem qAC(x0 x1):quI x0 x1=(qor x0 x1).ev:=qaa _
theorem zfV:FH IP 125 qZT q2n (k2 quI):=fh q5c (k2 qor) qGN
def T3:Tab:=(125,FE qZT q2n (k2 quI))::T2
theorem qTU:qao IP T3:=⟨qam zfV,qGN⟩
abbrev qtj:Type:=Bool
def qvO:PArgs:=⟨[.str],[]⟩
def qwf:List PRes:=[⟨false,.bool,[]⟩]
def qgg(x0:List UInt8):DT qtj:=
 .bi (qgC) (fun y0=>
 .bi (quI y0 x0) (fun y1=>
 .at (y1))
 (.no))
 (.no)
def qbU(x0:List UInt8):Option qtj:=qax (qgg x0).ev
theorem qoS(x0):qbU x0=(qgg x0).ev:=qaa _
theorem qGW:FH IP 65 qvO qwf qbU:=fh F65 qgg qTU
def T4:Tab:=(65,FE qvO qwf qbU)::T3
theorem qTY:qao IP T4:=⟨qam qGW,qTU⟩
abbrev qC5:Type:=Int×List AV
def qEK:PArgs:=⟨[.ref 0 0 0,.int .i64,.str],[(0,.box [.nils 3,.int .i64] false)]⟩
def qE1:List PRes:=[⟨false,.tup [],[(0,.box [.own 1 0,.int .i64] false),(1,.arr 3 false)]⟩]
def qjD(x0:Int)(x1:List UInt8)(x2:Int):DT qC5:=
 .at ((x2,[AV.agg [.int .i64 x0,.int .i64 x2,AV.str x1]]))
def qd4(x0:Int)(x1:List UInt8)(x2:Int):Option qC5:=qax (qjD x0 x1 x2).ev
theorem quF(x0 x1 x2):qd4 x0 x1 x2=(qjD x0 x1 x2).ev:=qaa _
theorem qUt:FH IP 64 qEK qE1 (k3 qd4):=fh F64 (k3 qjD) qTY
def T5:Tab:=(64,FE qEK qE1 (k3 qd4))::T4
theorem qNx:qao IP T5:=⟨qam qUt,qTY⟩
abbrev q8t:Type:=Int×List AV
def zbb:PArgs:=⟨[.ref 0 0 0,.int .i64,.str],[(0,.box [.own 1 0,.int .i64] false),(1,.arr 3 false)]⟩
def zb2:List PRes:=[⟨false,.tup [],[(0,.box [.own 2 0,.int .i64] false),(2,.arr 3 false)]⟩]
def qCm(x0:Int)(x1:List UInt8)(x2:Int)(x3:List AV):DT q8t:=
 .br (room (x3.length+1) 32) (.at ((x2,x3++[AV.agg [.int .i64 x0,.int .i64 x2,AV.str x1]]))) (.no)
def qfb(x0:Int)(x1:List UInt8)(x2:Int)(x3:List AV):Option q8t:=qax (qCm x0 x1 x2 x3).ev
theorem qVp(x0 x1 x2 x3):qfb x0 x1 x2 x3=(qCm x0 x1 x2 x3).ev:=qaa _
theorem zkU:FH IP 64 zbb zb2 (k4 qfb):=fh F64 (k4 qCm) qNx
def T6:Tab:=(64,FE zbb zb2 (k4 qfb))::T5
theorem qGO:qao IP T6:=⟨qam zkU,qNx⟩
abbrev qiO:Type:=(List AV×Int×Int×Int)⊕(List AV×Int×Int×Int×List AV)
def qWk:List PSt:=[⟨[(1002200,.junk),(0,.ref 0 0 0),(6,.view 1),(7,.int .i64),(8,.int .i64)],[(0,.box [.nils 3,.int .i64] false)],1,1⟩,⟨[(1002200,.junk),(0,.ref 0 0 0),(6,.view 1),(7,.int .i64),(8,.int .i64)],[(0,.box [.own 1 0,.int .i64] false),(1,.arr 3 false)],2,1⟩]
def q7C(x0:List AV)(x1 x2 x3:Int):X×St:=(.exit 0,⟨[],[(0,.box [.nils ⟨3,.nil⟩,.int .i64 x3] false)],1,1⟩)
def q7D(x0:List AV)(x1 x2 x3:Int)(x4:List AV):X×St:=(.exit 0,⟨[],[(0,.box [.own 1 0 none,.int .i64 x3] false),(1,.arr 3 x4 false)],2,1⟩)
def znZ:List (qiO->X×St):=[fun w=>(k4 q7C) ((sl w)),fun w=>(k5 q7D) ((sr w))]
def qwJ(x0:List AV)(x1 x2 x3:Int):DT (Rd qiO):=
 .br (decide (x2<x1))
 (.br (qaD [.str] x0 x2)
 (.bi (qbU (strOf (cellAt x0 x2 0))) (fun y0=>
 .br (y0)
 (.bi (qd4 5 (strOf (cellAt x0 x2 0)) x3) (fun y1=>
 .at (.next ((.inr (x0,x1,IntKind.i64.wrap (x2+1),y1)))))
 (.no))
 (.br (inB (strOf (cellAt x0 x2 0)).length 0)
 (.bi (br (decide (qai (strOf (cellAt x0 x2 0)) 0>=97)) (br (inB (strOf (cellAt x0 x2 0)).length 0) (some (decide (qai (strOf (cellAt x0 x2 0)) 0<=122))) none) (some false)) (fun y1=>
 .br (y1)
 (.bi (qd4 1 (strOf (cellAt x0 x2 0)) x3) (fun y2=>
 .at (.next ((.inr (x0,x1,IntKind.i64.wrap (x2+1),y2)))))
 (.no))
 (.bi (qd4 4 (strOf (cellAt x0 x2 0)) x3) (fun y2=>
 .at (.next ((.inr (x0,x1,IntKind.i64.wrap (x2+1),y2)))))
 (.no)))
 (.no))
 (.no)))
 (.no))
 (.no))
 (.at (.done 0))
def qkT(x0:List AV)(x1 x2 x3:Int)(x4:List AV):DT (Rd qiO):=
 .br (decide (x2<x1))
 (.br (qaD [.str] x0 x2)
 (.bi (qbU (strOf (cellAt x0 x2 0))) (fun y0=>
 .br (y0)
 (.bi (qfb 5 (strOf (cellAt x0 x2 0)) x3 x4) (fun y1=>
 .at (.next ((.inr (x0,x1,IntKind.i64.wrap (x2+1),y1)))))
 (.no))
 (.br (inB (strOf (cellAt x0 x2 0)).length 0)
 (.bi (br (decide (qai (strOf (cellAt x0 x2 0)) 0>=97)) (br (inB (strOf (cellAt x0 x2 0)).length 0) (some (decide (qai (strOf (cellAt x0 x2 0)) 0<=122))) none) (some false)) (fun y1=>
 .br (y1)
 (.bi (qfb 1 (strOf (cellAt x0 x2 0)) x3 x4) (fun y2=>
 .at (.next ((.inr (x0,x1,IntKind.i64.wrap (x2+1),y2)))))
 (.no))
 (.bi (qfb 4 (strOf (cellAt x0 x2 0)) x3 x4) (fun y2=>
 .at (.next ((.inr (x0,x1,IntKind.i64.wrap (x2+1),y2)))))
 (.no)))
 (.no))
 (.no)))
 (.no))
 (.no))
 (.at (.done 1))
def qwI:qiO->DT (Rd qiO):=(Sum.elim (fun v=>qwJ v.1 v.2.1 v.2.2.1 v.2.2.2) (fun v=>qkT v.1 v.2.1 v.2.2.1 v.2.2.2.1 v.f))
def qLr(v:qiO):Option (Nat×qiO):=qax (qae (fun v=>(qwI v).ev) v)
theorem qD2(v):qLr v=qae (fun v=>(qwI v).ev) v:=qaa _
def qWZ:qbS:=LE (τ:=qiO) (hD qWk) (qLr) znZ
theorem znh:Go.Eng.Told IP (qad F22 0).1 (qad F22 0).2 (qWZ):=qat (inferInstance:Inhabited qiO) (hs:=qWk) (st:=qwI) (L:=[]) qGO (qac (l:=[]) (by kernel_rfl) trivial) (qD2) (fun v=>match v with|(.inl v)=>by kernel_rfl|(.inr v)=>by kernel_rfl) (fun v=>match v with|(.inl v)=>by kernel_rfl|(.inr v)=>by kernel_rfl)
abbrev q8D:Type:=(Int)⊕(Int×List AV)
def zbo:PArgs:=⟨[.ref 0 0 0,.view 1],[(0,.box [.nils 3,.int .i64] false)]⟩
def zcf:List PRes:=[⟨false,.tup [],[(0,.box [.nils 3,.int .i64] false)]⟩,⟨false,.tup [],[(0,.box [.own 1 0,.int .i64] false),(1,.arr 3 false)]⟩]
def qCw(x0:List AV)(x1:Int):DT q8D:=
 .bi (pj 0 (qLr (Sum.inl (x0,(x0.length:Int),0,x1)))) (fun y0=>
 .at ((.inl ((sl y0).2.2.2))))
 (.bi (pj 1 (qLr (Sum.inl (x0,(x0.length:Int),0,x1)))) (fun y0=>
 .at ((.inr ((sr y0).2.2.2))))
 (.no))
def qKb(x0:List AV)(x1:Int):Option q8D:=qax (qCw x0 x1).ev
theorem qVA(x0 x1):qKb x0 x1=(qCw x0 x1).ev:=qaa _
theorem zaa:FH IP 22 zbo zcf (k2 qKb):=qag (F:=F22) (L:=[(1002200,qWZ)]) (t:=(k2 qCw)) qGO (qac (l:=[qad F22 0]) (by kernel_rfl) ⟨qas (by kernel_rfl) znh,trivial⟩) (by kernel_rfl) (fun v=>by kernel_rfl) (fun _=>qaa _)
def T7:Tab:=(22,FE zbo zcf (k2 qKb))::T6
theorem qNy:qao IP T7:=⟨qam zaa,qGO⟩
abbrev qiL:Type:=(List AV×Int×Int×Int×List AV)⊕(List AV×Int×Int×Int×List AV)
def qWh:List PSt:=[⟨[(1002200,.junk),(0,.ref 0 0 0),(6,.view 1),(7,.int .i64),(8,.int .i64)],[(0,.box [.own 1 0,.int .i64] false),(1,.arr 3 false)],2,2⟩,⟨[(1002200,.junk),(0,.ref 0 0 0),(6,.view 1),(7,.int .i64),(8,.int .i64)],[(0,.box [.own 2 0,.int .i64] false),(2,.arr 3 false)],3,2⟩]
def q7x(x0:List AV)(x1 x2 x3:Int)(x4:List AV):X×St:=(.exit 0,⟨[],[(0,.box [.own 1 0 none,.int .i64 x3] false),(1,.arr 3 x4 false)],2,2⟩)
def q7y(x0:List AV)(x1 x2 x3:Int)(x4:List AV):X×St:=(.exit 0,⟨[],[(0,.box [.own 2 0 none,.int .i64 x3] false),(2,.arr 3 x4 false)],3,2⟩)
def znW:List (qiL->X×St):=[fun w=>(k5 q7x) ((sl w)),fun w=>(k5 q7y) ((sr w))]
def qwG(x0:List AV)(x1 x2 x3:Int)(x4:List AV):DT (Rd qiL):=
 .br (decide (x2<x1))
 (.br (qaD [.str] x0 x2)
 (.bi (qbU (strOf (cellAt x0 x2 0))) (fun y0=>
 .br (y0)
 (.bi (qfb 5 (strOf (cellAt x0 x2 0)) x3 x4) (fun y1=>
 .at (.next ((.inr (x0,x1,IntKind.i64.wrap (x2+1),y1)))))
 (.no))
 (.br (inB (strOf (cellAt x0 x2 0)).length 0)
 (.bi (br (decide (qai (strOf (cellAt x0 x2 0)) 0>=97)) (br (inB (strOf (cellAt x0 x2 0)).length 0) (some (decide (qai (strOf (cellAt x0 x2 0)) 0<=122))) none) (some false)) (fun y1=>
 .br (y1)
 (.bi (qfb 1 (strOf (cellAt x0 x2 0)) x3 x4) (fun y2=>
 .at (.next ((.inr (x0,x1,IntKind.i64.wrap (x2+1),y2)))))
 (.no))
 (.bi (qfb 4 (strOf (cellAt x0 x2 0)) x3 x4) (fun y2=>
 .at (.next ((.inr (x0,x1,IntKind.i64.wrap (x2+1),y2)))))
 (.no)))
 (.no))
 (.no)))
 (.no))
 (.no))
 (.at (.done 0))
def qkQ(x0:List AV)(x1 x2 x3:Int)(x4:List AV):DT (Rd qiL):=
 .br (decide (x2<x1))
 (.br (qaD [.str] x0 x2)
 (.bi (qbU (strOf (cellAt x0 x2 0))) (fun y0=>
 .br (y0)
 (.bi (qfb 5 (strOf (cellAt x0 x2 0)) x3 x4) (fun y1=>
 .at (.next ((.inr (x0,x1,IntKind.i64.wrap (x2+1),y1)))))
 (.no))
 (.br (inB (strOf (cellAt x0 x2 0)).length 0)
 (.bi (br (decide (qai (strOf (cellAt x0 x2 0)) 0>=97)) (br (inB (strOf (cellAt x0 x2 0)).length 0) (some (decide (qai (strOf (cellAt x0 x2 0)) 0<=122))) none) (some false)) (fun y1=>
 .br (y1)
 (.bi (qfb 1 (strOf (cellAt x0 x2 0)) x3 x4) (fun y2=>
 .at (.next ((.inr (x0,x1,IntKind.i64.wrap (x2+1),y2)))))
 (.no))
 (.bi (qfb 4 (strOf (cellAt x0 x2 0)) x3 x4) (fun y2=>
 .at (.next ((.inr (x0,x1,IntKind.i64.wrap (x2+1),y2)))))
 (.no)))
 (.no))
 (.no)))
 (.no))
 (.no))
 (.at (.done 1))
def qwF:qiL->DT (Rd qiL):=(Sum.elim (fun v=>qwG v.1 v.2.1 v.2.2.1 v.2.2.2.1 v.f) (fun v=>qkQ v.1 v.2.1 v.2.2.1 v.2.2.2.1 v.f))
def qLp(v:qiL):Option (Nat×qiL):=qax (qae (fun v=>(qwF v).ev) v)
theorem qDY(v):qLp v=qae (fun v=>(qwF v).ev) v:=qaa _
def qWW:qbS:=LE (τ:=qiL) (hD qWh) (qLp) znW
theorem zne:Go.Eng.Told IP (qad F22 0).1 (qad F22 0).2 (qWW):=qat (inferInstance:Inhabited qiL) (hs:=qWh) (st:=qwF) (L:=[]) qNy (qac (l:=[]) (by kernel_rfl) trivial) (qDY) (fun v=>match v with|(.inl v)=>by kernel_rfl|(.inr v)=>by kernel_rfl) (fun v=>match v with|(.inl v)=>by kernel_rfl|(.inr v)=>by kernel_rfl)
abbrev q8w:Type:=(Int×List AV)⊕(Int×List AV)
def zbe:PArgs:=⟨[.ref 0 0 0,.view 1],[(0,.box [.own 1 0,.int .i64] false),(1,.arr 3 false)]⟩
def zb5:List PRes:=[⟨false,.tup [],[(0,.box [.own 1 0,.int .i64] false),(1,.arr 3 false)]⟩,⟨false,.tup [],[(0,.box [.own 2 0,.int .i64] false),(2,.arr 3 false)]⟩]
def qCp(x0:List AV)(x1:Int)(x2:List AV):DT q8w:=
 .bi (pj 0 (qLp (Sum.inl (x0,(x0.length:Int),0,x1,x2)))) (fun y0=>
 .at ((.inl ((sl y0).2.2.2))))
 (.bi (pj 1 (qLp (Sum.inl (x0,(x0.length:Int),0,x1,x2)))) (fun y0=>
 .at ((.inr ((sr y0).2.2.2))))
 (.no))
def qKa(x0:List AV)(x1:Int)(x2:List AV):Option q8w:=qax (qCp x0 x1 x2).ev
theorem qVs(x0 x1 x2):qKa x0 x1 x2=(qCp x0 x1 x2).ev:=qaa _
theorem q99:FH IP 22 zbe zb5 (k3 qKa):=qag (F:=F22) (L:=[(1002200,qWW)]) (t:=(k3 qCp)) qNy (qac (l:=[qad F22 0]) (by kernel_rfl) ⟨qas (by kernel_rfl) zne,trivial⟩) (by kernel_rfl) (fun v=>by kernel_rfl) (fun _=>qaa _)
def T8:Tab:=(22,FE zbe zb5 (k3 qKa))::T7
theorem zdw:qao IP T8:=⟨qam q99,qNy⟩
end
end Go.Proofs.H16a

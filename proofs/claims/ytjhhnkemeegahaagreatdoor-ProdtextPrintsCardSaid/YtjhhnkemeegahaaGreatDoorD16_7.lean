/- Functions over plain data. Printed by a program of mine. -/
import Derived.Test.YtjhhnkemeegahaaGreatDoorD16_1
import Derived.KernelRfl
set_option linter.all false
namespace Go.Proofs.H16
open Go Go.Eng
set_option maxRecDepth 100000
noncomputable section
def qau:Nat->qcy×qha×qhc×qcw
 |0=>(fun _ _ _ _=>none,fun _=>none,fun _=>none,fun _ _ _ _=>none)
 |n+1=>(fun x0 x1 x2 x3=>(qB2 ((qau n).1) ((qau n).2.1) ((qau n).2.2.1) ((qau n).2.2.2) x0 x1 x2 x3).ev,fun x0=>(q2Y ((qau n).1) ((qau n).2.1) ((qau n).2.2.1) ((qau n).2.2.2) x0).ev,fun x0=>(q20 ((qau n).1) ((qau n).2.1) ((qau n).2.2.1) ((qau n).2.2.2) x0).ev,fun x0 x1 x2 x3=>(qBX ((qau n).1) ((qau n).2.1) ((qau n).2.2.1) ((qau n).2.2.2) x0 x1 x2 x3).ev)
def qAu(x0 x1:Int)(x2:List UInt8)(x3:List AV):Option qF0:=qjW fun n=>(qau n).1 x0 x1 x2 x3
def zlJ(x0:List AV):Option zcQ:=qjW fun n=>(qau n).2.1 x0
def zlL(x0:List AV):Option zcT:=qjW fun n=>(qau n).2.2.1 x0
def qU7(x0 x1:Int)(x2:List UInt8)(x3:List AV):Option qFS:=qjW fun n=>(qau n).2.2.2 x0 x1 x2 x3
theorem qhV:∀n,qzQ ((qau n).1) ((qau n).2.1) ((qau n).2.2.1) ((qau n).2.2.2)
 |0=>⟨(fun v y h=>nomatch h),(fun v y h=>nomatch h),(fun v y h=>nomatch h),(fun v y h=>nomatch h)⟩
 |n+1=>have hG:=qhV n
 ⟨qag (F:=zj7) (L:=[]) (t:=(k4 (qB2 ((qau n).1) ((qau n).2.1) ((qau n).2.2.1) ((qau n).2.2.2)))) (qgm ((qau n).1) ((qau n).2.1) ((qau n).2.2.1) ((qau n).2.2.2) hG) (qac (l:=[]) (by kernel_rfl) trivial) (by kernel_rfl) (fun v=>by kernel_rfl) (fun v=>rfl),qag (F:=zj9) (L:=[]) (t:=(q2Y ((qau n).1) ((qau n).2.1) ((qau n).2.2.1) ((qau n).2.2.2))) (qgm ((qau n).1) ((qau n).2.1) ((qau n).2.2.1) ((qau n).2.2.2) hG) (qac (l:=[]) (by kernel_rfl) trivial) (by kernel_rfl) (fun v=>by kernel_rfl) (fun v=>rfl),qag (F:=qSJ) (L:=[(1021700,zaM ((qau n).1) ((qau n).2.1) ((qau n).2.2.1) ((qau n).2.2.2))]) (t:=(q20 ((qau n).1) ((qau n).2.1) ((qau n).2.2.1) ((qau n).2.2.2))) (qgm ((qau n).1) ((qau n).2.1) ((qau n).2.2.1) ((qau n).2.2.2) hG) (qac (l:=[qad qSJ 0]) (by kernel_rfl) ⟨qas (by kernel_rfl) (ztb ((qau n).1) ((qau n).2.1) ((qau n).2.2.1) ((qau n).2.2.2) hG),trivial⟩) (by kernel_rfl) (fun v=>by kernel_rfl) (fun v=>rfl),qag (F:=zka) (L:=[]) (t:=(k4 (qBX ((qau n).1) ((qau n).2.1) ((qau n).2.2.1) ((qau n).2.2.2)))) (qgm ((qau n).1) ((qau n).2.1) ((qau n).2.2.1) ((qau n).2.2.2) hG) (qac (l:=[]) (by kernel_rfl) trivial) (by kernel_rfl) (fun v=>by kernel_rfl) (fun v=>rfl)⟩
theorem zey:FH IP 115 qvI qv9 (k4 qAu):=qbM (p:=qvI) (rs:=qv9) (s:=fun n=>(k4 ((qau n).1))) fun n=>(qhV n).1
theorem zqd:FH IP 172 qXT q0f zlJ:=qbM (p:=qXT) (rs:=q0f) (s:=fun n=>((qau n).2.1)) fun n=>(qhV n).2.1
theorem zqf:FH IP 217 qZQ q2l zlL:=qbM (p:=qZQ) (rs:=q2l) (s:=fun n=>((qau n).2.2.1)) fun n=>(qhV n).2.2.1
theorem zdY:FH IP 173 qvE qv5 (k4 qU7):=qbM (p:=qvE) (rs:=qv5) (s:=fun n=>(k4 ((qau n).2.2.2))) fun n=>(qhV n).2.2.2
def T71:Tab:=(115,FE qvI qv9 (k4 qAu))::T70
theorem zkm:qao IP T71:=⟨qam zey,q9G⟩
def T72:Tab:=(172,FE qXT q0f zlJ)::T71
theorem zkn:qao IP T72:=⟨qam zqd,zkm⟩
def T73:Tab:=(217,FE qZQ q2l zlL)::T72
theorem zko:qao IP T73:=⟨qam zqf,zkn⟩
def T74:Tab:=(173,FE qvE qv5 (k4 qU7))::T73
theorem q9H:qao IP T74:=⟨qam zdY,zko⟩
abbrev qQQ:Type:=Int
def qX5:PArgs:=⟨[.agg [.int .i64,.int .i64,.str,.view 4]],[]⟩
def q0r:List PRes:=[⟨false,.int .i64,[]⟩]
def qry(x0 x1:Int)(x2:List UInt8)(x3:List AV):DT qQQ:=
 .bi (qAw x0 x1 x2 x3) (fun y0=>
 .bi (br (decide (y0>64)) (some true) (br (sm (quf x0 x1 x2 x3)) (some (decide (gv (quf x0 x1 x2 x3)>8))) none)) (fun y1=>
 .br (y1)
 (.at (5))
 (.bi (qAx x0 x1 x2 x3) (fun y2=>
 .br (!y2)
 (.at (1))
 (.bi (qAu x0 x1 x2 x3) (fun y3=>
 .br (!y3) (.at (4)) (.at (0)))
 (.no)))
 (.no)))
 (.no))
 (.no)
def qi2(x0 x1:Int)(x2:List UInt8)(x3:List AV):Option qQQ:=qax (qry x0 x1 x2 x3).ev
theorem qN2(x0 x1 x2 x3):qi2 x0 x1 x2 x3=(qry x0 x1 x2 x3).ev:=qaa _
theorem qUq:FH IP 56 qX5 q0r (k4 qi2):=fh F56 (k4 qry) q9H
def T75:Tab:=(56,FE qX5 q0r (k4 qi2))::T74
theorem qJD:qao IP T75:=⟨qam qUq,q9H⟩
abbrev qhB:Type:=List AV×Int×Int×List UInt8×List UInt8×List UInt8×Int×Int×Int×Int×List AV×Bool×Int×Int×Bool×List AV×Bool×Int×Int×Bool×List AV×List AV
def qWo:List PSt:=[⟨[(1001600,.junk),(1,.ref 0 0 0),(64,.view 10),(65,.int .i64),(66,.int .i64)],[(0,.box [.str,.str,.str,.int .i64,.int .i64,.int .i64,.int .i64,.view 2,.bool,.int .i64,.int .i64,.bool,.view 2,.bool,.int .i64,.int .i64,.bool,.view 10,.view 6] false)],1,0⟩]
def q7O(x0:List AV)(x1 x2:Int)(x3 x4 x5:List UInt8)(x6 x7:Int)(x8 x9:Int)(x10:List AV)(x11:Bool)(x12 x13:Int)(x14:Bool)(x15:List AV)(x16:Bool)(x17 x18:Int)(x19:Bool)(x20 x21:List AV):X×St:=(.ret,
 ⟨[(1,.ref 0 0 0),(2,.bool false)],[(0,
 .box
 [.str x3,.str x4,.str x5,.int .i64 x6,.int .i64 x7,.int .i64 x8,.int .i64 x9,.view 2 x10,.bool x11,
 .int .i64 x12,.int .i64 x13,.bool x14,.view 2 x15,.bool x16,.int .i64 x17,.int .i64 x18,.bool x19,.view 10 x20,
 .view 6 x21]
 false)],1,0⟩)
def q7P(x0:List AV)(x1 x2:Int)(x3 x4 x5:List UInt8)(x6 x7:Int)(x8 x9:Int)(x10:List AV)(x11:Bool)(x12 x13:Int)(x14:Bool)(x15:List AV)(x16:Bool)(x17 x18:Int)(x19:Bool)(x20 x21:List AV):X×St:=(.exit 0,
 ⟨[(1,.ref 0 0 0),(2,.junk)],[(0,
 .box
 [.str x3,.str x4,.str x5,.int .i64 x6,.int .i64 x7,.int .i64 x8,.int .i64 x9,.view 2 x10,.bool x11,
 .int .i64 x12,.int .i64 x13,.bool x14,.view 2 x15,.bool x16,.int .i64 x17,.int .i64 x18,.bool x19,.view 10 x20,
 .view 6 x21]
 false)],1,0⟩)
def zn3:List (qhB->X×St):=[(k22 q7O),(k22 q7P)]
def qwP(x0:List AV)(x1 x2:Int)(x3 x4 x5:List UInt8)(x6 x7:Int)(x8 x9:Int)(x10:List AV)(x11:Bool)(x12 x13:Int)(x14:Bool)(x15:List AV)(x16:Bool)(x17 x18:Int)(x19:Bool)(x20 x21:List AV):DT (Rd qhB):=
 .br (decide (x2<x1))
 (.br (qaD [.str,.int .i64,.int .i64,.int .i64,.str,.slice 4,.int .i64,.int .i64,.str,.slice 4] x0 x2)
 (.bi (qhI (strOf (cellAt x0 x2 0))) (fun y0=>
 .br (!y0)
 (.at (.done 0))
 (.bi (qqx) (fun y1=>
 .bi (qqy (intOf (cellAt x0 x2 1)) y1) (fun y2=>
 .br (!y2)
 (.at (.done 0))
 (.bi (qi2 (intOf (cellAt x0 x2 2)) (intOf (cellAt x0 x2 3)) (strOf (cellAt x0 x2 4)) (qap (cellAt x0 x2 5))) (fun y3=>
 .br (y3 != 0)
 (.at (.done 0))
 (.bi (qi2 (intOf (cellAt x0 x2 6)) (intOf (cellAt x0 x2 7)) (strOf (cellAt x0 x2 8)) (qap (cellAt x0 x2 9))) (fun y4=>
 .br (y4 != 0) (.at (.done 0)) (.at (.next ((x0,x1,IntKind.i64.wrap (x2+1),x3,x4,x5,x6,x7,x8,x9,x10,x11,x12,x13,x14,x15,x16,x17,x18,x19,x20,x21)))))
 (.no)))
 (.no)))
 (.no))
 (.no)))
 (.no))
 (.no))
 (.at (.done 1))
def qwO:qhB->DT (Rd qhB):=(fun v=>qwP v.1 v.2.1 v.2.2.1 v.2.2.2.1 v.f.1 v.f.2.1 v.f.2.2.1 v.f.2.2.2.1 v.h.1 v.h.2.1 v.h.2.2.1 v.h.2.2.2.1 v.h.f.1 v.h.f.2.1 v.h.f.2.2.1 v.h.f.2.2.2.1 v.i.1 v.i.2.1 v.i.2.2.1 v.i.2.2.2.1 v.i.f.1 v.i.f.2)
def qD7(v:qhB):Option (Nat×qhB):=qax (qae (fun v=>(qwO v).ev) v)
theorem qD8(v):qD7 v=qae (fun v=>(qwO v).ev) v:=qaa _
def qW3:qbS:=LE (τ:=qhB) (hD qWo) (qD7) zn3
theorem znl:Go.Eng.Told IP (qad F16 0).1 (qad F16 0).2 (qW3):=lp (inferInstance:Inhabited qhB) (hs:=qWo) qwO qJD qD8
abbrev qiQ:Type:=List AV×Int×Int
def qWp:List PSt:=[⟨[(1001601,.junk),(95,.view 6),(96,.int .i64),(97,.int .i64)],[],0,0⟩]
def q7Q(x0:List AV)(x1 x2:Int):X×St:=(.ret,⟨[(2,.bool false)],[],0,0⟩)
def q7R(x0:List AV)(x1 x2:Int):X×St:=(.exit 2,⟨[(2,.junk)],[],0,0⟩)
def zn4:List (qiQ->X×St):=[(k3 q7Q),(k3 q7R)]
def qwR(x0:List AV)(x1 x2:Int):DT (Rd qiQ):=
 .br (decide (x2<x1))
 (.br (qaD [.str,.int .i64,.int .i64,.int .i64,.str,.slice 4] x0 x2)
 (.bi (qhI (strOf (cellAt x0 x2 0))) (fun y0=>
 .br (!y0)
 (.at (.done 0))
 (.bi (ql5) (fun y1=>
 .bi (qqy (intOf (cellAt x0 x2 1)) y1) (fun y2=>
 .br (!y2)
 (.at (.done 0))
 (.bi (qi2 (intOf (cellAt x0 x2 2)) (intOf (cellAt x0 x2 3)) (strOf (cellAt x0 x2 4)) (qap (cellAt x0 x2 5))) (fun y3=>
 .br (y3 != 0) (.at (.done 0)) (.at (.next ((x0,x1,IntKind.i64.wrap (x2+1))))))
 (.no)))
 (.no))
 (.no)))
 (.no))
 (.no))
 (.at (.done 1))
def qwQ:qiQ->DT (Rd qiQ):=(fun v=>qwR v.1 v.2.1 v.2.2)
def qD9(v:qiQ):Option (Nat×qiQ):=qax (qae (fun v=>(qwQ v).ev) v)
theorem qEa(v):qD9 v=qae (fun v=>(qwQ v).ev) v:=qaa _
def qW4:qbS:=LE (τ:=qiQ) (hD qWp) (qD9) zn4
theorem znm:Go.Eng.Told IP (qad F16 1).1 (qad F16 1).2 (qW4):=lp (inferInstance:Inhabited qiQ) (hs:=qWp) qwQ qJD qEa
abbrev q8N:Type:=Bool
def zbz:PArgs:=⟨[.agg [.str,.str,.str,.int .i64,.int .i64,.int .i64,.int .i64,.view 2,.bool,.int .i64,.int .i64,.bool,.view 2,.bool,.int .i64,.int .i64,.bool,.view 10,.view 6]],[]⟩
def zcr:List PRes:=[⟨false,.bool,[]⟩]
def qCK(x0 x1 x2:List UInt8)(x3 x4:Int)(x5 x6:Int)(x7:List AV)(x8:Bool)(x9 x10:Int)(x11:Bool)(x12:List AV)(x13:Bool)(x14 x15:Int)(x16:Bool)(x17 x18:List AV):DT q8N:=
 .bi (qyc x1) (fun y0=>
 .bi (br (!y0.2) (some true) (br (sm (qhI x0)) (some !gv (qhI x0)) none)) (fun y1=>
 .bi (br y1 (some true) (br (sm (qhI x2)) (some !gv (qhI x2)) none)) (fun y2=>
 .bi (br y2 (some true) (br (sm (qkd x3)) (some !gv (qkd x3)) none)) (fun y3=>
 .bi (br y3 (some true) (some (decide (x4<0)))) (fun y4=>
 .bi (br y4 (some true) (some (decide (x5<0)))) (fun y5=>
 .bi (br y5 (some true) (br (sm (qj9 x6)) (some !gv (qj9 x6)) none)) (fun y6=>
 .bi (br y6 (some true) (br (sm (qqw x7 x8 x9 x10 x11)) (some !gv (qqw x7 x8 x9 x10 x11)) none)) (fun y7=>
 .bi (br y7 (some true) (br (sm (qqw x12 x13 x14 x15 x16)) (some !gv (qqw x12 x13 x14 x15 x16)) none)) (fun y8=>
 .br (y8)
 (.at (false))
 (.bi (pj 0 (qD7 (x17,(x17.length:Int),0,x0,x1,x2,x3,x4,x5,x6,x7,x8,x9,x10,x11,x12,x13,x14,x15,x16,x17,x18))) (fun y9=>
 .at (false))
 (.bi (pj 1 (qD7 (x17,(x17.length:Int),0,x0,x1,x2,x3,x4,x5,x6,x7,x8,x9,x10,x11,x12,x13,x14,x15,x16,x17,x18))) (fun y9=>
 .bi (pj 0
 (qD9
 (y9.i.f.2,
 (y9.2.2.2.2.2.2.2.2.2.2.2.2.2.2.2.2.2.2.2.2.2.length:Int),0))) (fun y10=>
 .at (false))
 (.bi (pj 1
 (qD9
 (y9.i.f.2,
 (y9.2.2.2.2.2.2.2.2.2.2.2.2.2.2.2.2.2.2.2.2.2.length:Int),0))) (fun y10=>
 .at (true))
 (.no)))
 (.no))))
 (.no))
 (.no))
 (.no))
 (.no))
 (.no))
 (.no))
 (.no))
 (.no))
 (.no)
def qDJ(x0 x1 x2:List UInt8)(x3 x4:Int)(x5 x6:Int)(x7:List AV)(x8:Bool)(x9 x10:Int)(x11:Bool)(x12:List AV)(x13:Bool)(x14 x15:Int)(x16:Bool)(x17 x18:List AV):Option q8N:=qax (qCK x0 x1 x2 x3 x4 x5 x6 x7 x8 x9 x10 x11 x12 x13 x14 x15 x16 x17 x18).ev
theorem qVN(x0 x1 x2 x3 x4 x5 x6 x7 x8 x9 x10 x11 x12 x13 x14 x15 x16 x17 x18):qDJ x0 x1 x2 x3 x4 x5 x6 x7 x8 x9 x10 x11 x12 x13 x14 x15 x16 x17 x18=(qCK x0 x1 x2 x3 x4 x5 x6 x7 x8 x9 x10 x11 x12 x13 x14 x15 x16 x17 x18).ev:=qaa _
theorem zlk:FH IP 16 zbz zcr (k19 qDJ):=qag (F:=F16) (L:=[(1001600,qW3),(1001601,qW4)]) (t:=(k19 qCK)) qJD (qac (l:=[qad F16 0,qad F16 1]) (by kernel_rfl) ⟨qas (by kernel_rfl) znl,qas (by kernel_rfl) znm,trivial⟩) (by kernel_rfl) (fun v=>by kernel_rfl) (fun _=>qaa _)
def T76:Tab:=(16,FE zbz zcr (k19 qDJ))::T75
theorem q9I:qao IP T76:=⟨qam zlk,qJD⟩
abbrev q8o:Type:=Int×List AV
def za5:PArgs:=⟨[.ref 0 0 0,.view 1],[(0,.box [.nils 3,.int .i64] false)]⟩
def zbV:List PRes:=[⟨false,.tup [],[(0,.box [.own 1 0,.int .i64] false),(1,.arr 3 false)]⟩]
def qB9(x0:List AV)(x1:Int):DT q8o:=
 .br (!x0.isEmpty&&(x0.all Tk.strB&&room x0.length 32)) (.at ((IntKind.i64.wrap (x1+1),List.map (Tk.tkA (IntKind.i64.wrap (x1+1))) x0))) (.no)
def qx8(x0:List AV)(x1:Int):Option q8o:=qax (qB9 x0 x1).ev
theorem qVh(x0 x1):qx8 x0 x1=(qB9 x0 x1).ev:=qaa _
theorem zkN:FH IP 19 za5 zbV (k2 qx8):=fh F19 (k2 qB9) q9I
def T77:Tab:=(19,FE za5 zbV (k2 qx8))::T76
theorem q9J:qao IP T77:=⟨qam zkN,q9I⟩
abbrev q8n:Type:=Int×List AV
def za3:PArgs:=⟨[.ref 0 0 0,.view 1],[(0,.box [.own 1 0,.int .i64] false),(1,.arr 3 false)]⟩
def zbT:List PRes:=[⟨false,.tup [],[(0,.box [.own 2 0,.int .i64] false),(2,.arr 3 false)]⟩]
def qB4(x0:List AV)(x1:Int)(x2:List AV):DT q8n:=
 .br (!x0.isEmpty&&(x0.all Tk.strB&&room (x2.length+x0.length) 32)) (.at ((IntKind.i64.wrap (x1+1),x2++List.map (Tk.tkA (IntKind.i64.wrap (x1+1))) x0))) (.no)
def qcJ(x0:List AV)(x1:Int)(x2:List AV):Option q8n:=qax (qB4 x0 x1 x2).ev
theorem qVf(x0 x1 x2):qcJ x0 x1 x2=(qB4 x0 x1 x2).ev:=qaa _
theorem zkL:FH IP 19 za3 zbT (k3 qcJ):=fh F19 (k3 qB4) q9J
def T78:Tab:=(19,FE za3 zbT (k3 qcJ))::T77
theorem qJE:qao IP T78:=⟨qam zkL,q9J⟩
abbrev qfs:Type:=Int×Int
def qKE:List PSt:=[⟨[(1005700,.junk),(0,.int .i64),(5,.int .i64)],[],0,0⟩]
def q3X(x0 x1:Int):X×St:=(.exit 0,⟨[(0,.int .i64 x0),(5,.int .i64 x1)],[],0,0⟩)
def ziU:List (qfs->X×St):=[(k2 q3X)]
def qir(x0 x1:Int):DT (Rd qfs):=
 .bi (qmy (IntKind.i64.wrap (x1+1))) (fun y0=>
 .br (decide (y0<=x0)) (.at (.next ((x0,IntKind.i64.wrap (x1+1))))) (.at (.done 0)))
 (.no)
def qrf:qfs->DT (Rd qfs):=(fun v=>qir v.1 v.2)
def qIm(v:qfs):Option (Nat×qfs):=qax (qae (fun v=>(qrf v).ev) v)
theorem qyz(v):qIm v=qae (fun v=>(qrf v).ev) v:=qaa _
def qLU:qbS:=LE (τ:=qfs) (hD qKE) (qIm) ziU
theorem zhL:Go.Eng.Told IP (qad F57 0).1 (qad F57 0).2 (qLU):=lp (inferInstance:Inhabited qfs) (hs:=qKE) qrf qJE qyz
abbrev qft:Type:=Int×Int×Int
def qKF:List PSt:=[⟨[(1005701,.junk),(0,.int .i64),(5,.int .i64),(6,.int .i64)],[],0,0⟩]
def q3Y(x0 x1 x2:Int):X×St:=(.exit 2,⟨[(0,.int .i64 x0),(5,.int .i64 x1),(6,.int .i64 x2)],[],0,0⟩)
def ziV:List (qft->X×St):=[(k3 q3Y)]
def qis(x0 x1 x2:Int):DT (Rd qft):=
 .bi (qi5 x1 x2) (fun y0=>
 .br (decide (x0>=y0))
 (.bi (qi5 x1 x2) (fun y1=>
 .at (.next ((IntKind.i64.wrap (x0-y1),x1,IntKind.i64.wrap (x2+1)))))
 (.no))
 (.at (.done 0)))
 (.no)
def qrg:qft->DT (Rd qft):=(fun v=>qis v.1 v.2.1 v.2.2)
def qIn(v:qft):Option (Nat×qft):=qax (qae (fun v=>(qrg v).ev) v)
theorem qyA(v):qIn v=qae (fun v=>(qrg v).ev) v:=qaa _
def qLV:qbS:=LE (τ:=qft) (hD qKF) (qIn) ziV
theorem zhM:Go.Eng.Told IP (qad F57 1).1 (qad F57 1).2 (qLV):=lp (inferInstance:Inhabited qft) (hs:=qKF) qrg qJE qyA
abbrev qRA:Type:=Int×Int×Int
def qYW:PArgs:=⟨[.int .i64],[]⟩
def q1i:List PRes:=[⟨false,.tup [.int .i64,.int .i64,.int .i64],[]⟩]
def qsq(x0:Int):DT qRA:=
 .bi (qkd x0) (fun y0=>
 .br (!y0)
 (.at ((0,0,0)))
 (.bi (pj 0 (qIm (x0,IntKind.i64.wrap (2000+IntKind.i64.wrap (x0.tdiv 366))))) (fun y1=>
 .bi (qmy y1.2) (fun y2=>
 .bi (pj 0 (qIn (IntKind.i64.wrap (y1.1-y2),y1.2,1))) (fun y3=>
 .at ((y3.2.1,y3.2.2,IntKind.i64.wrap (y3.1+1))))
 (.no))
 (.no))
 (.no)))
 (.no)
def qud(x0:Int):Option qRA:=qax (qsq x0).ev
theorem qOR(x0):qud x0=(qsq x0).ev:=qaa _
theorem zeS:FH IP 57 qYW q1i qud:=qag (F:=F57) (L:=[(1005700,qLU),(1005701,qLV)]) (t:=qsq) qJE (qac (l:=[qad F57 0,qad F57 1]) (by kernel_rfl) ⟨qas (by kernel_rfl) zhL,qas (by kernel_rfl) zhM,trivial⟩) (by kernel_rfl) (fun v=>by kernel_rfl) (fun _=>qaa _)
def T79:Tab:=(57,FE qYW q1i qud)::T78
theorem q9K:qao IP T79:=⟨qam zeS,qJE⟩
abbrev qC5:Type:=Int×List AV
def qEK:PArgs:=⟨[.ref 0 0 0,.int .i64,.str],[(0,.box [.own 1 0,.int .i64] false),(1,.arr 3 false)]⟩
def qE1:List PRes:=[⟨false,.tup [],[(0,.box [.own 2 0,.int .i64] false),(2,.arr 3 false)]⟩]
def qjD(x0:Int)(x1:List UInt8)(x2:Int)(x3:List AV):DT qC5:=
 .br (room (x3.length+1) 32) (.at ((x2,x3++[AV.agg [.int .i64 x0,.int .i64 x2,AV.str x1]]))) (.no)
def qd4(x0:Int)(x1:List UInt8)(x2:Int)(x3:List AV):Option qC5:=qax (qjD x0 x1 x2 x3).ev
theorem quF(x0 x1 x2 x3):qd4 x0 x1 x2 x3=(qjD x0 x1 x2 x3).ev:=qaa _
theorem qUt:FH IP 64 qEK qE1 (k4 qd4):=fh F64 (k4 qjD) q9K
def T80:Tab:=(64,FE qEK qE1 (k4 qd4))::T79
theorem q9L:qao IP T80:=⟨qam qUt,q9K⟩
abbrev q8p:Type:=Int×List AV
def za6:PArgs:=⟨[.ref 0 0 0,.int .i64],[(0,.box [.own 1 0,.int .i64] false),(1,.arr 3 false)]⟩
def zbW:List PRes:=[⟨false,.tup [],[(0,.box [.own 2 0,.int .i64] false),(2,.arr 3 false)]⟩]
def qCe(x0 x1:Int)(x2:List AV):DT q8p:=
 .br (decide (-9223372036854775808<=x0)&&decide (x0<=9223372036854775807))
 (.bi (qd4 2 (Lib.itoa x0) x1 x2) (fun y0=>
 .at ((y0)))
 (.no))
 (.no)
def qkf(x0 x1:Int)(x2:List AV):Option q8p:=qax (qCe x0 x1 x2).ev
theorem qVj(x0 x1 x2):qkf x0 x1 x2=(qCe x0 x1 x2).ev:=qaa _
theorem zkO:FH IP 58 za6 zbW (k3 qkf):=fh F58 (k3 qCe) q9L
def T81:Tab:=(58,FE za6 zbW (k3 qkf))::T80
theorem q9M:qao IP T81:=⟨qam zkO,q9L⟩
abbrev qQV:Type:=List UInt8×Int
def qYa:PArgs:=⟨[.int .i64],[]⟩
def q0w:List PRes:=[⟨false,.tup [.str,.int .i64],[]⟩]
def qrD(x0:Int):DT qQV:=
 .bi (br (decide (x0<0)) (some true) (some (decide (x0>1000000)))) (fun y0=>
 .br (y0)
 (.at (([],1)))
 (.br (decide (-9223372036854775808<=IntKind.i64.wrap (10000+x0.tmod 10000))&&decide (IntKind.i64.wrap (10000+x0.tmod 10000)<=9223372036854775807))
 (.br (leB 1 (Lib.itoa (IntKind.i64.wrap (10000+x0.tmod 10000))).length)
 (.br (decide ((List.drop 1 (Lib.itoa (IntKind.i64.wrap (10000+x0.tmod 10000)))).length<=9223372036854775807))
 (.br (decide (-9223372036854775808<=IntKind.i64.wrap (x0.tdiv 10000))&&decide (IntKind.i64.wrap (x0.tdiv 10000)<=9223372036854775807))
 (.br (!Lib.trimRightB (List.drop 1 (Lib.itoa (IntKind.i64.wrap (10000+x0.tmod 10000)))) 48== [])
 (.br (decide (1+(Lib.trimRightB (List.drop 1 (Lib.itoa (IntKind.i64.wrap (10000+x0.tmod 10000)))) 48).length<=4611686018427387904))
 (.br (decide
 ((Lib.itoa (IntKind.i64.wrap (x0.tdiv 10000))).length+([46]++Lib.trimRightB (List.drop 1 (Lib.itoa (IntKind.i64.wrap (10000+x0.tmod 10000)))) 48).length <=
 4611686018427387904))
 (.br (decide
 ((Lib.itoa (IntKind.i64.wrap (x0.tdiv 10000))++([46]++Lib.trimRightB (List.drop 1 (Lib.itoa (IntKind.i64.wrap (10000+x0.tmod 10000)))) 48)).length+1 <=
 4611686018427387904))
 (.at ((Lib.itoa (IntKind.i64.wrap (x0.tdiv 10000))++([46]++Lib.trimRightB (List.drop 1 (Lib.itoa (IntKind.i64.wrap (10000+x0.tmod 10000)))) 48)++[37],0)))
 (.no))
 (.no))
 (.no))
 (.br (decide ((Lib.itoa (IntKind.i64.wrap (x0.tdiv 10000))).length+1<=4611686018427387904)) (.at ((Lib.itoa (IntKind.i64.wrap (x0.tdiv 10000))++[37],0))) (.no)))
 (.no))
 (.no))
 (.no))
 (.no)))
 (.no)
def qmn(x0:Int):Option qQV:=qax (qrD x0).ev
theorem qN8(x0):qmn x0=(qrD x0).ev:=qaa _
theorem zd3:FH IP 121 qYa q0w qmn:=fh zox qrD q9M
def T82:Tab:=(121,FE qYa q0w qmn)::T81
theorem q9N:qao IP T82:=⟨qam zd3,q9M⟩
abbrev q8x:Type:=Int×List AV
def zbf:PArgs:=⟨[.ref 0 0 0,.int .i64],[(0,.box [.own 1 0,.int .i64] false),(1,.arr 3 false)]⟩
def zb6:List PRes:=[⟨false,.tup [],[(0,.box [.own 2 0,.int .i64] false),(2,.arr 3 false)]⟩]
def qCq(x0 x1:Int)(x2:List AV):DT q8x:=
 .bi (qmn x0) (fun y0=>
 .bi (qd4 3 y0.1 x1 x2) (fun y1=>
 .at ((y1)))
 (.no))
 (.no)
def quD(x0 x1:Int)(x2:List AV):Option q8x:=qax (qCq x0 x1 x2).ev
theorem qVt(x0 x1 x2):quD x0 x1 x2=(qCq x0 x1 x2).ev:=qaa _
theorem zkX:FH IP 59 zbf zb6 (k3 quD):=fh F59 (k3 qCq) q9N
def T83:Tab:=(59,FE zbf zb6 (k3 quD))::T82
theorem q9O:qao IP T83:=⟨qam zkX,q9N⟩
abbrev q8v:Type:=Int×List AV
def zbd:PArgs:=⟨[.ref 0 0 0,.agg [.str,.str,.str,.int .i64,.int .i64,.int .i64,.int .i64,.view 2,.bool,.int .i64,.int .i64,.bool,.view 2,.bool,.int .i64,.int .i64,.bool,.view 10,.view 6]],[(0,.box [.nils 3,.int .i64] false)]⟩
def zb4:List PRes:=[⟨false,.tup [],[(0,.box [.own 1 0,.int .i64] false),(1,.arr 3 false)]⟩]
def qCo(x0 x1 x2:List UInt8)(x3 x4:Int)(x5 x6:Int)(x7:List AV)(x8:Bool)(x9 x10:Int)(x11:Bool)(x12:List AV)(x13:Bool)(x14 x15:Int)(x16:Bool)(x17 x18:List AV)(x19:Int):DT q8v:=
 .bi (qyc x1) (fun y0=>
 .bi (qx8 [AV.str [112,114,111,100,117,99,116],AV.str x0,AV.str [123]] x19) (fun y1=>
 .bi (qcJ [AV.str [99,117,114,114,101,110,99,121],AV.str y0.1,AV.str [59]] y1.1 y1.2) (fun y2=>
 .bi (qcJ [AV.str [99,97,108,101,110,100,97,114],AV.str x2,AV.str [59]] y2.1 y2.2) (fun y3=>
 .bi (qud x3) (fun y4=>
 .bi (qcJ [AV.str [102,114,111,109]] y3.1 y3.2) (fun y5=>
 .bi (qkf y4.1 y5.1 y5.2) (fun y6=>
 .br (room (y6.2.length+1) 32)
 (.bi (qkf y4.2.1 y6.1 (y6.2++[AV.agg [.int .i64 (Tk.kindP [47]),.int .i64 y6.1,AV.str [47]]])) (fun y7=>
 .br (room (y7.2.length+1) 32)
 (.bi (qkf y4.2.2 y7.1 (y7.2++[AV.agg [.int .i64 (Tk.kindP [47]),.int .i64 y7.1,AV.str [47]]])) (fun y8=>
 .br (room (y8.2.length+1) 32)
 (.bi (qcJ [AV.str [101,118,101,114,121]] y8.1 (y8.2++[AV.agg [.int .i64 (Tk.kindP [59]),.int .i64 y8.1,AV.str [59]]])) (fun y9=>
 .bi (qkf x4 y9.1 y9.2) (fun y10=>
 .br (room (y10.2.length+1) 32)
 (.bi (qcJ [AV.str [111,118,101,114,100,114,97,102,116],AV.str [36]] y10.1
 (y10.2++[AV.agg [.int .i64 (Tk.kindP [59]),.int .i64 y10.1,AV.str [59]]])) (fun y11=>
 .bi (qkf x5 y11.1 y11.2) (fun y12=>
 .br (room (y12.2.length+1) 32)
 (.bi (qcJ [AV.str [116,97,120]] y12.1 (y12.2++[AV.agg [.int .i64 (Tk.kindP [59]),.int .i64 y12.1,AV.str [59]]])) (fun y13=>
 .bi (quD x6 y13.1 y13.2) (fun y14=>
 .br (room (y14.2.length+1) 32) (.at ((y14.1,y14.2++[AV.agg [.int .i64 (Tk.kindP [59]),.int .i64 y14.1,AV.str [59]]]))) (.no))
 (.no))
 (.no))
 (.no))
 (.no))
 (.no))
 (.no))
 (.no))
 (.no))
 (.no))
 (.no))
 (.no))
 (.no))
 (.no))
 (.no))
 (.no))
 (.no))
 (.no))
 (.no))
 (.no))
 (.no)
def qDF(x0 x1 x2:List UInt8)(x3 x4:Int)(x5 x6:Int)(x7:List AV)(x8:Bool)(x9 x10:Int)(x11:Bool)(x12:List AV)(x13:Bool)(x14 x15:Int)(x16:Bool)(x17 x18:List AV)(x19:Int):Option q8v:=qax (qCo x0 x1 x2 x3 x4 x5 x6 x7 x8 x9 x10 x11 x12 x13 x14 x15 x16 x17 x18 x19).ev
theorem qVr(x0 x1 x2 x3 x4 x5 x6 x7 x8 x9 x10 x11 x12 x13 x14 x15 x16 x17 x18 x19):qDF x0 x1 x2 x3 x4 x5 x6 x7 x8 x9 x10 x11 x12 x13 x14 x15 x16 x17 x18 x19=(qCo x0 x1 x2 x3 x4 x5 x6 x7 x8 x9 x10 x11 x12 x13 x14 x15 x16 x17 x18 x19).ev:=qaa _
theorem zkW:FH IP 17 zbd zb4 (k20 qDF):=fh F17 (k20 qCo) q9O
def T84:Tab:=(17,FE zbd zb4 (k20 qDF))::T83
theorem qT3:qao IP T84:=⟨qam zkW,q9O⟩
abbrev qgo:Type:=List AV×Int×Int×Int×List AV
def qWb:List PSt:=[⟨[(1001800,.junk),(0,.ref 0 0 0),(33,.view 2),(34,.int .i64),(35,.int .i64)],[(0,.box [.own 2 0,.int .i64] false),(2,.arr 3 false)],3,2⟩]
def q7k(x0:List AV)(x1 x2 x3:Int)(x4:List AV):X×St:=(.exit 0,⟨[(0,.ref 0 0 0)],[(0,.box [.own 2 0 none,.int .i64 x3] false),(2,.arr 3 x4 false)],3,2⟩)
def znQ:List (qgo->X×St):=[(k5 q7k)]
def qkM(x0:List AV)(x1 x2 x3:Int)(x4:List AV):DT (Rd qgo):=
 .br (decide (x2<x1))
 (.br (qaD [.int .i64,.int .i64] x0 x2)
 (.bi (qcJ [AV.str [36]] x3 x4) (fun y0=>
 .bi (qkf (intOf (cellAt x0 x2 0)) y0.1 y0.2) (fun y1=>
 .br (room (y1.2.length+1) 32)
 (.bi (quD (intOf (cellAt x0 x2 1)) y1.1 (y1.2++[AV.agg [.int .i64 (Tk.kindP [58]),.int .i64 y1.1,AV.str [58]]])) (fun y2=>
 .br (room (y2.2.length+1) 32)
 (.at (.next ((x0,x1,IntKind.i64.wrap (x2+1),y2.1,y2.2++[AV.agg [.int .i64 (Tk.kindP [59]),.int .i64 y2.1,AV.str [59]]]))))
 (.no))
 (.no))
 (.no))
 (.no))
 (.no))
 (.no))
 (.at (.done 0))
def qJd:qgo->DT (Rd qgo):=(fun v=>qkM v.1 v.2.1 v.2.2.1 v.2.2.2.1 v.f)
def qqz(v:qgo):Option (Nat×qgo):=qax (qae (fun v=>(qJd v).ev) v)
theorem qDV(v):qqz v=qae (fun v=>(qJd v).ev) v:=qaa _
def qWQ:qbS:=LE (τ:=qgo) (hD qWb) (qqz) znQ
theorem zm8:Go.Eng.Told IP (qad F18 0).1 (qad F18 0).2 (qWQ):=lp (inferInstance:Inhabited qgo) (hs:=qWb) qJd qT3 qDV
abbrev q8k:Type:=Int×List AV
def za0:PArgs:=⟨[.ref 0 0 0,.str,.agg [.view 2,.bool,.int .i64,.int .i64,.bool]],[(0,.box [.own 1 0,.int .i64] false),(1,.arr 3 false)]⟩
def zbQ:List PRes:=[⟨false,.tup [],[(0,.box [.own 2 0,.int .i64] false),(2,.arr 3 false)]⟩]
def qB0(x0:List UInt8)(x1:List AV)(x2:Bool)(x3 x4:Int)(x5:Bool)(x6:Int)(x7:List AV):DT q8k:=
 .br (x2)
 (.br (x5)
 (.bi (qhG) (fun y0=>
 .br (qaD [.str] y0 (IntKind.i64.wrap (x3-1)))
 (.bi (qhH) (fun y1=>
 .br (qaD [.str] y1 (IntKind.i64.wrap (x4-1)))
 (.bi (qcJ
 [AV.str x0,AV.str [109,97,114,103,105,110,97,108],AV.str (strOf (cellAt y0 (IntKind.i64.wrap (x3-1)) 0)),AV.str (strOf (cellAt y1 (IntKind.i64.wrap (x4-1)) 0)),
 AV.str [107,101,101,112],AV.str [123]]
 x6 x7) (fun y2=>
 .bi (pj 0 (qqz (x1,(x1.length:Int),0,y2))) (fun y3=>
 .bi (qcJ [AV.str [125]] y3.2.2.2.1 y3.f) (fun y4=>
 .at ((y4)))
 (.no))
 (.no))
 (.no))
 (.no))
 (.no))
 (.no))
 (.no))
 (.bi (qhG) (fun y0=>
 .br (qaD [.str] y0 (IntKind.i64.wrap (x3-1)))
 (.bi (qhH) (fun y1=>
 .br (qaD [.str] y1 (IntKind.i64.wrap (x4-1)))
 (.bi (qcJ
 [AV.str x0,AV.str [109,97,114,103,105,110,97,108],AV.str (strOf (cellAt y0 (IntKind.i64.wrap (x3-1)) 0)),AV.str (strOf (cellAt y1 (IntKind.i64.wrap (x4-1)) 0)),
 AV.str [100,114,111,112],AV.str [123]]
 x6 x7) (fun y2=>
 .bi (pj 0 (qqz (x1,(x1.length:Int),0,y2))) (fun y3=>
 .bi (qcJ [AV.str [125]] y3.2.2.2.1 y3.f) (fun y4=>
 .at ((y4)))
 (.no))
 (.no))
 (.no))
 (.no))
 (.no))
 (.no))
 (.no)))
 (.br (x5)
 (.bi (qhG) (fun y0=>
 .br (qaD [.str] y0 (IntKind.i64.wrap (x3-1)))
 (.bi (qhH) (fun y1=>
 .br (qaD [.str] y1 (IntKind.i64.wrap (x4-1)))
 (.bi (qcJ
 [AV.str x0,AV.str [119,104,111,108,101],AV.str (strOf (cellAt y0 (IntKind.i64.wrap (x3-1)) 0)),AV.str (strOf (cellAt y1 (IntKind.i64.wrap (x4-1)) 0)),
 AV.str [107,101,101,112],AV.str [123]]
 x6 x7) (fun y2=>
 .bi (pj 0 (qqz (x1,(x1.length:Int),0,y2))) (fun y3=>
 .bi (qcJ [AV.str [125]] y3.2.2.2.1 y3.f) (fun y4=>
 .at ((y4)))
 (.no))
 (.no))
 (.no))
 (.no))
 (.no))
 (.no))
 (.no))
 (.bi (qhG) (fun y0=>
 .br (qaD [.str] y0 (IntKind.i64.wrap (x3-1)))
 (.bi (qhH) (fun y1=>
 .br (qaD [.str] y1 (IntKind.i64.wrap (x4-1)))
 (.bi (qcJ
 [AV.str x0,AV.str [119,104,111,108,101],AV.str (strOf (cellAt y0 (IntKind.i64.wrap (x3-1)) 0)),AV.str (strOf (cellAt y1 (IntKind.i64.wrap (x4-1)) 0)),
 AV.str [100,114,111,112],AV.str [123]]
 x6 x7) (fun y2=>
 .bi (pj 0 (qqz (x1,(x1.length:Int),0,y2))) (fun y3=>
 .bi (qcJ [AV.str [125]] y3.2.2.2.1 y3.f) (fun y4=>
 .at ((y4)))
 (.no))
 (.no))
 (.no))
 (.no))
 (.no))
 (.no))
 (.no)))
def qxY(x0:List UInt8)(x1:List AV)(x2:Bool)(x3 x4:Int)(x5:Bool)(x6:Int)(x7:List AV):Option q8k:=qax (qB0 x0 x1 x2 x3 x4 x5 x6 x7).ev
theorem qVb(x0 x1 x2 x3 x4 x5 x6 x7):qxY x0 x1 x2 x3 x4 x5 x6 x7=(qB0 x0 x1 x2 x3 x4 x5 x6 x7).ev:=qaa _
theorem zkI:FH IP 18 za0 zbQ (k8 qxY):=qag (F:=F18) (L:=[(1001800,qWQ)]) (t:=(k8 qB0)) qT3 (qac (l:=[qad F18 0]) (by kernel_rfl) ⟨qas (by kernel_rfl) zm8,trivial⟩) (by kernel_rfl) (fun v=>by kernel_rfl) (fun _=>qaa _)
def T85:Tab:=(18,FE za0 zbQ (k8 qxY))::T84
theorem q9P:qao IP T85:=⟨qam zkI,qT3⟩
abbrev q8U:Type:=List AV
def zbH:PArgs:=⟨[.ref 0 0 0,.int .i64,.str],[(0,.box [.nils 3] false)]⟩
def zcz:List PRes:=[⟨false,.tup [],[(0,.box [.own 1 0] false),(1,.arr 3 false)]⟩]
def qCU(x0:Int)(x1:List UInt8):DT q8U:=
 .at ([AV.agg [.int .i64 x0,.int .i64 1,AV.str x1]])
def qnl(x0:Int)(x1:List UInt8):Option q8U:=qax (qCU x0 x1).ev
theorem qVW(x0 x1):qnl x0 x1=(qCU x0 x1).ev:=qaa _
theorem zlt:FH IP 180 zbH zcz (k2 qnl):=fh zkb (k2 qCU) q9P
def T86:Tab:=(180,FE zbH zcz (k2 qnl))::T85
theorem q9Q:qao IP T86:=⟨qam zlt,q9P⟩
abbrev q8K:Type:=List AV
def zbw:PArgs:=⟨[.ref 0 0 0,.str],[(0,.box [.nils 3] false)]⟩
def zco:List PRes:=[⟨false,.tup [],[(0,.box [.own 1 0] false),(1,.arr 3 false)]⟩]
def qCH(x0:List UInt8):DT q8K:=
 .bi (qbU x0) (fun y0=>
 .br (y0)
 (.bi (qnl 5 x0) (fun y1=>
 .at (y1))
 (.no))
 (.bi (qnl 4 x0) (fun y1=>
 .at (y1))
 (.no)))
 (.no)
def qkj(x0:List UInt8):Option q8K:=qax (qCH x0).ev
theorem qVK(x0):qkj x0=(qCH x0).ev:=qaa _
theorem zlh:FH IP 181 zbw zco qkj:=fh zkc qCH q9Q
def T87:Tab:=(181,FE zbw zco qkj)::T86
theorem q9R:qao IP T87:=⟨qam zlh,q9Q⟩
abbrev q8J:Type:=List AV
def zbv:PArgs:=⟨[.ref 0 0 0,.int .i64,.str],[(0,.box [.own 1 0] false),(1,.arr 3 false)]⟩
def zcn:List PRes:=[⟨false,.tup [],[(0,.box [.own 2 0] false),(2,.arr 3 false)]⟩]
def qCG(x0:Int)(x1:List UInt8)(x2:List AV):DT q8J:=
 .br (room (x2.length+1) 32) (.at (x2++[AV.agg [.int .i64 x0,.int .i64 1,AV.str x1]])) (.no)
def qki(x0:Int)(x1:List UInt8)(x2:List AV):Option q8J:=qax (qCG x0 x1 x2).ev
theorem qVJ(x0 x1 x2):qki x0 x1 x2=(qCG x0 x1 x2).ev:=qaa _
theorem zlg:FH IP 180 zbv zcn (k3 qki):=fh zkb (k3 qCG) q9R
def T88:Tab:=(180,FE zbv zcn (k3 qki))::T87
theorem q9S:qao IP T88:=⟨qam zlg,q9R⟩
abbrev qRZ:Type:=Int
def qZk:PArgs:=⟨[.int .i64],[]⟩
def q1G:List PRes:=[⟨false,.int .i64,[]⟩]
def qsM(x0:Int):DT qRZ:=
 .br (x0==19)
 (.at (0))
 (.br (x0==15)
 (.at (1))
 (.br (x0==14)
 (.at (2))
 (.br (x0==16)
 (.at (3))
 (.br (x0==10)
 (.br (x0==10)
 (.at (4))
 (.br (x0==5)
 (.br (x0==5)
 (.at (5))
 (.br (x0==7)
 (.br (x0==7)
 (.at (6))
 (.br (x0==9) (.at (7)) (.at (8))))
 (.br (x0==8)
 (.at (6))
 (.br (x0==9) (.at (7)) (.at (8))))))
 (.br (x0==6)
 (.at (5))
 (.br (x0==7)
 (.br (x0==7)
 (.at (6))
 (.br (x0==9) (.at (7)) (.at (8))))
 (.br (x0==8)
 (.at (6))
 (.br (x0==9) (.at (7)) (.at (8))))))))
 (.br (x0==11)
 (.br (x0==11)
 (.at (4))
 (.br (x0==5)
 (.br (x0==5)
 (.at (5))
 (.br (x0==7)
 (.br (x0==7)
 (.at (6))
 (.br (x0==9) (.at (7)) (.at (8))))
 (.br (x0==8)
 (.at (6))
 (.br (x0==9) (.at (7)) (.at (8))))))
 (.br (x0==6)
 (.at (5))
 (.br (x0==7)
 (.br (x0==7)
 (.at (6))
 (.br (x0==9) (.at (7)) (.at (8))))
 (.br (x0==8)
 (.at (6))
 (.br (x0==9) (.at (7)) (.at (8))))))))
 (.br (x0==12)
 (.br (x0==12)
 (.at (4))
 (.br (x0==5)
 (.br (x0==5)
 (.at (5))
 (.br (x0==7)
 (.br (x0==7)
 (.at (6))
 (.br (x0==9) (.at (7)) (.at (8))))
 (.br (x0==8)
 (.at (6))
 (.br (x0==9) (.at (7)) (.at (8))))))
 (.br (x0==6)
 (.at (5))
 (.br (x0==7)
 (.br (x0==7)
 (.at (6))
 (.br (x0==9) (.at (7)) (.at (8))))
 (.br (x0==8)
 (.at (6))
 (.br (x0==9) (.at (7)) (.at (8))))))))
 (.br (x0==13)
 (.at (4))
 (.br (x0==5)
 (.br (x0==5)
 (.at (5))
 (.br (x0==7)
 (.br (x0==7)
 (.at (6))
 (.br (x0==9) (.at (7)) (.at (8))))
 (.br (x0==8)
 (.at (6))
 (.br (x0==9) (.at (7)) (.at (8))))))
 (.br (x0==6)
 (.at (5))
 (.br (x0==7)
 (.br (x0==7)
 (.at (6))
 (.br (x0==9) (.at (7)) (.at (8))))
 (.br (x0==8)
 (.at (6))
 (.br (x0==9) (.at (7)) (.at (8))))))))))))))
def qa2(x0:Int):Option qRZ:=qax (qsM x0).ev
theorem qPd(x0):qa2 x0=(qsM x0).ev:=qaa _
theorem zfp:FH IP 183 qZk q1G qa2:=fh zoQ qsM q9S
def T89:Tab:=(183,FE qZk q1G qa2)::T88
theorem q9T:qao IP T89:=⟨qam zfp,q9S⟩
abbrev q8H:Type:=List AV
def zbt:PArgs:=⟨[.ref 0 0 0,.str],[(0,.box [.own 1 0] false),(1,.arr 3 false)]⟩
def zcl:List PRes:=[⟨false,.tup [],[(0,.box [.own 2 0] false),(2,.arr 3 false)]⟩]
def qCD(x0:List UInt8)(x1:List AV):DT q8H:=
 .bi (qbU x0) (fun y0=>
 .br (y0)
 (.bi (qki 5 x0 x1) (fun y1=>
 .at (y1))
 (.no))
 (.bi (qki 4 x0 x1) (fun y1=>
 .at (y1))
 (.no)))
 (.no)
def qbj(x0:List UInt8)(x1:List AV):Option q8H:=qax (qCD x0 x1).ev
theorem qVG(x0 x1):qbj x0 x1=(qCD x0 x1).ev:=qaa _
theorem zld:FH IP 181 zbt zcl (k2 qbj):=fh zkc (k2 qCD) q9T
def T90:Tab:=(181,FE zbt zcl (k2 qbj))::T89
theorem q9U:qao IP T90:=⟨qam zld,q9T⟩
abbrev qRi:Type:=List AV
def qYD:PArgs:=⟨[],[]⟩
def q0Z:List PRes:=[⟨false,.view 1,[]⟩]
def qsb:DT qRi:=
 .at ([AV.view 2 [AV.agg [AV.str [111,114],.int .i64 15]],AV.view 2 [AV.agg [AV.str [97,110,100],.int .i64 14]],
 AV.view 2
 [AV.agg [AV.str [61,61],.int .i64 10],AV.agg [AV.str [33,61],.int .i64 11],AV.agg [AV.str [60],.int .i64 12],
 AV.agg [AV.str [60,61],.int .i64 13]],
 AV.view 2 [AV.agg [AV.str [43],.int .i64 5],AV.agg [AV.str [45],.int .i64 6]],
 AV.view 2 [AV.agg [AV.str [42],.int .i64 7],AV.agg [AV.str [47],.int .i64 8]]])
def qmu:Option qRi:=qax (qsb).ev
theorem qOC:qmu=(qsb).ev:=qaa _
theorem zeA:FH IP 225 qYD q0Z (fun _=>qmu):=qag (F:=zo2) (L:=[]) (t:=(fun _=>qsb)) q9U (qac (l:=[]) (by kernel_rfl) trivial) (by kernel_rfl) (fun v=>by kernel_rfl) (fun _=>qaa _)
def T91:Tab:=(225,FE qYD q0Z (fun _=>qmu))::T90
theorem qJF:qao IP T91:=⟨qam zeA,q9U⟩
abbrev qfJ:Type:=Int×List AV×Int×Int×List AV×Int×Int
def qK0:List PSt:=[⟨[(1018501,.junk),(0,.int .i64),(7,.view 1),(8,.int .i64),(9,.int .i64),(13,.view 2),(14,.int .i64),(15,.int .i64)],[],0,0⟩]
def q4B(x0:Int)(x1:List AV)(x2 x3:Int)(x4:List AV)(x5 x6:Int):X×St:=(.ret,
 ⟨[(0,.int .i64 x0),(2,.str (strOf (cellAt x4 x6 0))),(7,.view 1 x1),(8,.int .i64 x2),(9,.int .i64 x3)],[],0,0⟩)
def q4C(x0:Int)(x1:List AV)(x2 x3:Int)(x4:List AV)(x5 x6:Int):X×St:=(.exit 2,⟨[(0,.int .i64 x0),(2,.junk),(7,.view 1 x1),(8,.int .i64 x2),(9,.int .i64 x3)],[],0,0⟩)
def zjg:List (qfJ->X×St):=[(k7 q4B),(k7 q4C)]
def qp0(x0:Int)(x1:List AV)(x2 x3:Int)(x4:List AV)(x5 x6:Int):DT (Rd qfJ):=
 .br (decide (x6<x5))
 (.br (qaD [.str,.int .i64] x4 x6)
 (.br (intOf (cellAt x4 x6 1)==x0) (.at (.done 0)) (.at (.next ((x0,x1,x2,x3,x4,x5,IntKind.i64.wrap (x6+1))))))
 (.no))
 (.at (.done 1))
def qn8:qfJ->DT (Rd qfJ):=(fun v=>qp0 v.1 v.2.1 v.2.2.1 v.2.2.2.1 v.f.1 v.f.2.1 v.f.2.2)
def qgP(v:qfJ):Option (Nat×qfJ):=qax (qae (fun v=>(qn8 v).ev) v)
theorem qyR(v):qgP v=qae (fun v=>(qn8 v).ev) v:=qaa _
def qAY:qbS:=LE (τ:=qfJ) (hD qK0) (qgP) zjg
theorem q2R:Go.Eng.Told IP (qad qSI 1).1 (qad qSI 1).2 (qAY):=lp (inferInstance:Inhabited qfJ) (hs:=qK0) qn8 qJF qyR
end
end Go.Proofs.H16
namespace Go.Proofs.H16
open Go Go.Eng
set_option maxRecDepth 100000
noncomputable section
abbrev qfI:Type:=Int×List AV×Int×Int
def qKZ:List PSt:=[⟨[(1018500,.junk),(0,.int .i64),(7,.view 1),(8,.int .i64),(9,.int .i64)],[],0,0⟩]
def q4z(x0:Int)(x1:List AV)(x2 x3:Int):X×St:=(.ret,
 ⟨[(2,
 .str
 (strOf
 (cellAt (gv (pj 0 (qgP (x0,x1,x2,x3,qap (cellAt x1 x3 0),((qap (cellAt x1 x3 0)).length:Int),0)))).f.1
 (gv (pj 0 (qgP (x0,x1,x2,x3,qap (cellAt x1 x3 0),((qap (cellAt x1 x3 0)).length:Int),0)))).f.2.2 0)))],[],0,0⟩)
def q4A(x0:Int)(x1:List AV)(x2 x3:Int):X×St:=(.exit 0,⟨[(2,.junk)],[],0,0⟩)
def zjf:List (qfI->X×St):=[(k4 q4z),(k4 q4A)]
def qpZ(x0:Int)(x1:List AV)(x2 x3:Int):DT (Rd qfI):=
 .br (decide (x3<x2))
 (.br (qaD [.slice 2] x1 x3)
 (.bi (pj 0 (qgP (x0,x1,x2,x3,qap (cellAt x1 x3 0),((qap (cellAt x1 x3 0)).length:Int),0))) (fun y0=>
 .at (.done 0))
 (.bi (pj 1 (qgP (x0,x1,x2,x3,qap (cellAt x1 x3 0),((qap (cellAt x1 x3 0)).length:Int),0))) (fun y0=>
 .at (.next ((y0.1,y0.2.1,y0.2.2.1,IntKind.i64.wrap (y0.2.2.2.1+1)))))
 (.no)))
 (.no))
 (.at (.done 1))
def qn7:qfI->DT (Rd qfI):=(fun v=>qpZ v.1 v.2.1 v.2.2.1 v.2.2.2)
def qvf(v:qfI):Option (Nat×qfI):=qax (qae (fun v=>(qn7 v).ev) v)
theorem qyQ(v):qvf v=qae (fun v=>(qn7 v).ev) v:=qaa _
def qMf:qbS:=LE (τ:=qfI) (hD qKZ) (qvf) zjf
theorem zh6:Go.Eng.Told IP (qad qSI 0).1 (qad qSI 0).2 (qMf):=qat (inferInstance:Inhabited qfI) (hs:=qKZ) (st:=qn7) (L:=[(1018501,qAY)]) qJF (qac (l:=[qad qSI 1]) (by kernel_rfl) ⟨qas (by kernel_rfl) q2R,trivial⟩) (qyQ) (fun v=>by kernel_rfl) (fun v=>by kernel_rfl)
abbrev qR0:Type:=List UInt8
def qZl:PArgs:=⟨[.int .i64],[]⟩
def q1H:List PRes:=[⟨false,.str,[]⟩]
def qsN(x0:Int):DT qR0:=
 .bi (qmu) (fun y0=>
 .bi (pj 0 (qvf (x0,y0,(y0.length:Int),0))) (fun y1=>
 .at (strOf
 (cellAt
 (gv
 (pj 0
 (qgP
 (y1.1,y1.2.1,y1.2.2.1,y1.2.2.2,qap (cellAt y1.2.1 y1.2.2.2 0),((qap (cellAt y1.2.1 y1.2.2.2 0)).length:Int),
 0)))).f.1
 (gv
 (pj 0
 (qgP
 (y1.1,y1.2.1,y1.2.2.1,y1.2.2.2,qap (cellAt y1.2.1 y1.2.2.2 0),
 ((qap (cellAt y1.2.1 y1.2.2.2 0)).length:Int),0)))).f.2.2
 0)))
 (.bi (pj 1 (qvf (x0,y0,(y0.length:Int),0))) (fun y1=>
 .at ([]))
 (.no)))
 (.no)
def qck(x0:Int):Option qR0:=qax (qsN x0).ev
theorem qPe(x0):qck x0=(qsN x0).ev:=qaa _
theorem zfq:FH IP 185 qZl q1H qck:=qag (F:=qSI) (L:=[(1018500,qMf),(1018501,qAY)]) (t:=qsN) qJF (qac (l:=[qad qSI 0,qad qSI 1]) (by kernel_rfl) ⟨qas (by kernel_rfl) zh6,qas (by kernel_rfl) q2R,trivial⟩) (by kernel_rfl) (fun v=>by kernel_rfl) (fun _=>qaa _)
def T92:Tab:=(185,FE qZl q1H qck)::T91
theorem q9V:qao IP T92:=⟨qam zfq,qJF⟩
abbrev qSw:Type:=List AV
def qEJ:PArgs:=⟨[.ref 0 0 0,.agg [.int .i64,.int .i64,.str,.view 4],.int .i64],[(0,.box [.own 1 0] false),(1,.arr 3 false)]⟩
def qE0:List PRes:=[⟨false,.tup [],[(0,.box [.own 2 0] false),(2,.arr 3 false)]⟩]
abbrev qmd:Type:=Int->Int->(List UInt8)->(List AV)->Int->(List AV)->Option qSw
abbrev qJB:Type:=List AV
def qEN:PArgs:=⟨[.ref 0 0 0,.agg [.int .i64,.int .i64,.str,.view 4]],[(0,.box [.own 1 0] false),(1,.arr 3 false)]⟩
def qE4:List PRes:=[⟨false,.tup [],[(0,.box [.own 2 0] false),(2,.arr 3 false)]⟩]
abbrev qme:Type:=Int->Int->(List UInt8)->(List AV)->(List AV)->Option qJB
abbrev qSv:Type:=List AV
def qEI:PArgs:=⟨[.ref 0 0 0,.agg [.int .i64,.int .i64,.str,.view 4]],[(0,.box [.own 1 0] false),(1,.arr 3 false)]⟩
def qEZ:List PRes:=[⟨false,.tup [],[(0,.box [.own 2 0] false),(2,.arr 3 false)]⟩]
abbrev qmc:Type:=Int->Int->(List UInt8)->(List AV)->(List AV)->Option qSv
def qSK(G_u44q:qmd)(G_u67q:qme)(G_u36q:qmc):Prop:=FH IP 182 qEJ qE0 (k6 G_u44q)/\FH IP 124 qEN qE4 (k5 G_u67q)/\FH IP 184 qEI qEZ (k5 G_u36q)
def zdx(G_u44q:qmd)(G_u67q:qme)(G_u36q:qmc):Tab:=(182,FE qEJ qE0 (k6 G_u44q))::(124,FE qEN qE4 (k5 G_u67q))::(184,FE qEI qEZ (k5 G_u36q))::T92
theorem qoA(G_u44q:qmd)(G_u67q:qme)(G_u36q:qmc)(hG:qSK G_u44q G_u67q G_u36q):qao IP (zdx G_u44q G_u67q G_u36q):=⟨qam (hG.1),qam (hG.2.1),qam (hG.2.2),q9V⟩
def qqj(G_u44q:qmd)(G_u67q:qme)(G_u36q:qmc)(x0 x1:Int)(x2:List UInt8)(x3:List AV)(x4:Int)(x5:List AV):DT qSw:=
 .bi (qa2 x0) (fun y0=>
 .br (decide (y0>=x4))
 (.bi (G_u67q x0 x1 x2 x3 x5) (fun y1=>
 .at (y1))
 (.no))
 (.bi (qbj [40] x5) (fun y1=>
 .bi (G_u67q x0 x1 x2 x3 y1) (fun y2=>
 .bi (qbj [41] y2) (fun y3=>
 .at (y3))
 (.no))
 (.no))
 (.no)))
 (.no)
def qCC(G_u44q:qmd)(G_u67q:qme)(G_u36q:qmc)(x0 x1:Int)(x2:List UInt8)(x3 x4:List AV):DT qJB:=
 .br (x0==1)
 (.br (decide (-9223372036854775808<=x1)&&decide (x1<=9223372036854775807))
 (.bi (qki 2 (Lib.itoa x1) x4) (fun y0=>
 .at (y0))
 (.no))
 (.no))
 (.br (x0==2)
 (.bi (qbj [36] x4) (fun y0=>
 .br (decide (-9223372036854775808<=x1)&&decide (x1<=9223372036854775807))
 (.bi (qki 2 (Lib.itoa x1) y0) (fun y1=>
 .at (y1))
 (.no))
 (.no))
 (.no))
 (.br (x0==3)
 (.bi (qmn x1) (fun y0=>
 .bi (qki 3 y0.1 x4) (fun y1=>
 .at (y1))
 (.no))
 (.no))
 (.br (x0==4)
 (.bi (qki 1 x2 x4) (fun y0=>
 .at (y0))
 (.no))
 (.br (x0==9)
 (.bi (qbj [45] x4) (fun y0=>
 .br (qaD [.int .i64,.int .i64,.str,.slice 4] x3 0)
 (.bi (qa2 x0) (fun y1=>
 .bi (G_u44q (intOf (cellAt x3 0 0)) (intOf (cellAt x3 0 1)) (strOf (cellAt x3 0 2)) (qap (cellAt x3 0 3)) y1 y0) (fun y2=>
 .at (y2))
 (.no))
 (.no))
 (.no))
 (.no))
 (.br (x0==16)
 (.bi (qbj [110,111,116] x4) (fun y0=>
 .br (qaD [.int .i64,.int .i64,.str,.slice 4] x3 0)
 (.bi (qa2 x0) (fun y1=>
 .bi (G_u44q (intOf (cellAt x3 0 0)) (intOf (cellAt x3 0 1)) (strOf (cellAt x3 0 2)) (qap (cellAt x3 0 3)) y1 y0) (fun y2=>
 .at (y2))
 (.no))
 (.no))
 (.no))
 (.no))
 (.br (x0==17)
 (.br (x0==17)
 (.bi (G_u36q x0 x1 x2 x3 x4) (fun y0=>
 .at (y0))
 (.no))
 (.bi (qa2 x0) (fun y0=>
 .bi (qa2 10) (fun y1=>
 .br (y0==y1)
 (.br (qaD [.int .i64,.int .i64,.str,.slice 4] x3 0)
 (.bi (G_u44q (intOf (cellAt x3 0 0)) (intOf (cellAt x3 0 1)) (strOf (cellAt x3 0 2)) (qap (cellAt x3 0 3)) (IntKind.i64.wrap (y0+1)) x4) (fun y2=>
 .bi (qck x0) (fun y3=>
 .bi (qbj y3 y2) (fun y4=>
 .br (qaD [.int .i64,.int .i64,.str,.slice 4] x3 1)
 (.bi (qa2 x0) (fun y5=>
 .bi (G_u44q (intOf (cellAt x3 1 0)) (intOf (cellAt x3 1 1)) (strOf (cellAt x3 1 2)) (qap (cellAt x3 1 3)) (IntKind.i64.wrap (y5+1)) y4) (fun y6=>
 .at (y6))
 (.no))
 (.no))
 (.no))
 (.no))
 (.no))
 (.no))
 (.no))
 (.br (qaD [.int .i64,.int .i64,.str,.slice 4] x3 0)
 (.bi (G_u44q (intOf (cellAt x3 0 0)) (intOf (cellAt x3 0 1)) (strOf (cellAt x3 0 2)) (qap (cellAt x3 0 3)) y0 x4) (fun y2=>
 .bi (qck x0) (fun y3=>
 .bi (qbj y3 y2) (fun y4=>
 .br (qaD [.int .i64,.int .i64,.str,.slice 4] x3 1)
 (.bi (qa2 x0) (fun y5=>
 .bi (G_u44q (intOf (cellAt x3 1 0)) (intOf (cellAt x3 1 1)) (strOf (cellAt x3 1 2)) (qap (cellAt x3 1 3)) (IntKind.i64.wrap (y5+1)) y4) (fun y6=>
 .at (y6))
 (.no))
 (.no))
 (.no))
 (.no))
 (.no))
 (.no))
 (.no)))
 (.no))
 (.no)))
 (.br (x0==18)
 (.br (x0==18)
 (.bi (G_u36q x0 x1 x2 x3 x4) (fun y0=>
 .at (y0))
 (.no))
 (.bi (qa2 x0) (fun y0=>
 .bi (qa2 10) (fun y1=>
 .br (y0==y1)
 (.br (qaD [.int .i64,.int .i64,.str,.slice 4] x3 0)
 (.bi (G_u44q (intOf (cellAt x3 0 0)) (intOf (cellAt x3 0 1)) (strOf (cellAt x3 0 2)) (qap (cellAt x3 0 3)) (IntKind.i64.wrap (y0+1)) x4) (fun y2=>
 .bi (qck x0) (fun y3=>
 .bi (qbj y3 y2) (fun y4=>
 .br (qaD [.int .i64,.int .i64,.str,.slice 4] x3 1)
 (.bi (qa2 x0) (fun y5=>
 .bi (G_u44q (intOf (cellAt x3 1 0)) (intOf (cellAt x3 1 1)) (strOf (cellAt x3 1 2)) (qap (cellAt x3 1 3)) (IntKind.i64.wrap (y5+1)) y4) (fun y6=>
 .at (y6))
 (.no))
 (.no))
 (.no))
 (.no))
 (.no))
 (.no))
 (.no))
 (.br (qaD [.int .i64,.int .i64,.str,.slice 4] x3 0)
 (.bi (G_u44q (intOf (cellAt x3 0 0)) (intOf (cellAt x3 0 1)) (strOf (cellAt x3 0 2)) (qap (cellAt x3 0 3)) y0 x4) (fun y2=>
 .bi (qck x0) (fun y3=>
 .bi (qbj y3 y2) (fun y4=>
 .br (qaD [.int .i64,.int .i64,.str,.slice 4] x3 1)
 (.bi (qa2 x0) (fun y5=>
 .bi (G_u44q (intOf (cellAt x3 1 0)) (intOf (cellAt x3 1 1)) (strOf (cellAt x3 1 2)) (qap (cellAt x3 1 3)) (IntKind.i64.wrap (y5+1)) y4) (fun y6=>
 .at (y6))
 (.no))
 (.no))
 (.no))
 (.no))
 (.no))
 (.no))
 (.no)))
 (.no))
 (.no)))
 (.br (x0==19)
 (.bi (G_u36q x0 x1 x2 x3 x4) (fun y0=>
 .at (y0))
 (.no))
 (.bi (qa2 x0) (fun y0=>
 .bi (qa2 10) (fun y1=>
 .br (y0==y1)
 (.br (qaD [.int .i64,.int .i64,.str,.slice 4] x3 0)
 (.bi (G_u44q (intOf (cellAt x3 0 0)) (intOf (cellAt x3 0 1)) (strOf (cellAt x3 0 2)) (qap (cellAt x3 0 3)) (IntKind.i64.wrap (y0+1)) x4) (fun y2=>
 .bi (qck x0) (fun y3=>
 .bi (qbj y3 y2) (fun y4=>
 .br (qaD [.int .i64,.int .i64,.str,.slice 4] x3 1)
 (.bi (qa2 x0) (fun y5=>
 .bi (G_u44q (intOf (cellAt x3 1 0)) (intOf (cellAt x3 1 1)) (strOf (cellAt x3 1 2)) (qap (cellAt x3 1 3)) (IntKind.i64.wrap (y5+1)) y4) (fun y6=>
 .at (y6))
 (.no))
 (.no))
 (.no))
 (.no))
 (.no))
 (.no))
 (.no))
 (.br (qaD [.int .i64,.int .i64,.str,.slice 4] x3 0)
 (.bi (G_u44q (intOf (cellAt x3 0 0)) (intOf (cellAt x3 0 1)) (strOf (cellAt x3 0 2)) (qap (cellAt x3 0 3)) y0 x4) (fun y2=>
 .bi (qck x0) (fun y3=>
 .bi (qbj y3 y2) (fun y4=>
 .br (qaD [.int .i64,.int .i64,.str,.slice 4] x3 1)
 (.bi (qa2 x0) (fun y5=>
 .bi (G_u44q (intOf (cellAt x3 1 0)) (intOf (cellAt x3 1 1)) (strOf (cellAt x3 1 2)) (qap (cellAt x3 1 3)) (IntKind.i64.wrap (y5+1)) y4) (fun y6=>
 .at (y6))
 (.no))
 (.no))
 (.no))
 (.no))
 (.no))
 (.no))
 (.no)))
 (.no))
 (.no))))))))))
def qk3(G_u44q:qmd)(G_u67q:qme)(G_u36q:qmc)(x0 x1:Int)(x2:List UInt8)(x3 x4:List AV):DT qSv:=
 .br (x0==18)
 (.bi (qbj [109,97,120] x4) (fun y0=>
 .bi (qbj [40] y0) (fun y1=>
 .br (qaD [.int .i64,.int .i64,.str,.slice 4] x3 0)
 (.bi (G_u44q (intOf (cellAt x3 0 0)) (intOf (cellAt x3 0 1)) (strOf (cellAt x3 0 2)) (qap (cellAt x3 0 3)) 0 y1) (fun y2=>
 .bi (qbj [44] y2) (fun y3=>
 .br (qaD [.int .i64,.int .i64,.str,.slice 4] x3 1)
 (.bi (G_u44q (intOf (cellAt x3 1 0)) (intOf (cellAt x3 1 1)) (strOf (cellAt x3 1 2)) (qap (cellAt x3 1 3)) 0 y3) (fun y4=>
 .bi (qbj [41] y4) (fun y5=>
 .br (x0==19)
 (.br (qaD [.int .i64,.int .i64,.str,.slice 4] x3 2)
 (.bi (G_u44q (intOf (cellAt x3 2 0)) (intOf (cellAt x3 2 1)) (strOf (cellAt x3 2 2)) (qap (cellAt x3 2 3)) 0 y5) (fun y6=>
 .at (y6))
 (.no))
 (.no))
 (.at (y5)))
 (.no))
 (.no))
 (.no))
 (.no))
 (.no))
 (.no))
 (.no))
 (.no))
 (.br (x0==19)
 (.bi (qbj [105,102] x4) (fun y0=>
 .br (qaD [.int .i64,.int .i64,.str,.slice 4] x3 0)
 (.bi (G_u44q (intOf (cellAt x3 0 0)) (intOf (cellAt x3 0 1)) (strOf (cellAt x3 0 2)) (qap (cellAt x3 0 3)) 0 y0) (fun y1=>
 .bi (qbj [116,104,101,110] y1) (fun y2=>
 .br (qaD [.int .i64,.int .i64,.str,.slice 4] x3 1)
 (.bi (G_u44q (intOf (cellAt x3 1 0)) (intOf (cellAt x3 1 1)) (strOf (cellAt x3 1 2)) (qap (cellAt x3 1 3)) 0 y2) (fun y3=>
 .bi (qbj [101,108,115,101] y3) (fun y4=>
 .br (x0==19)
 (.br (qaD [.int .i64,.int .i64,.str,.slice 4] x3 2)
 (.bi (G_u44q (intOf (cellAt x3 2 0)) (intOf (cellAt x3 2 1)) (strOf (cellAt x3 2 2)) (qap (cellAt x3 2 3)) 0 y4) (fun y5=>
 .at (y5))
 (.no))
 (.no))
 (.at (y4)))
 (.no))
 (.no))
 (.no))
 (.no))
 (.no))
 (.no))
 (.no))
 (.bi (qbj [109,105,110] x4) (fun y0=>
 .bi (qbj [40] y0) (fun y1=>
 .br (qaD [.int .i64,.int .i64,.str,.slice 4] x3 0)
 (.bi (G_u44q (intOf (cellAt x3 0 0)) (intOf (cellAt x3 0 1)) (strOf (cellAt x3 0 2)) (qap (cellAt x3 0 3)) 0 y1) (fun y2=>
 .bi (qbj [44] y2) (fun y3=>
 .br (qaD [.int .i64,.int .i64,.str,.slice 4] x3 1)
 (.bi (G_u44q (intOf (cellAt x3 1 0)) (intOf (cellAt x3 1 1)) (strOf (cellAt x3 1 2)) (qap (cellAt x3 1 3)) 0 y3) (fun y4=>
 .bi (qbj [41] y4) (fun y5=>
 .br (x0==19)
 (.br (qaD [.int .i64,.int .i64,.str,.slice 4] x3 2)
 (.bi (G_u44q (intOf (cellAt x3 2 0)) (intOf (cellAt x3 2 1)) (strOf (cellAt x3 2 2)) (qap (cellAt x3 2 3)) 0 y5) (fun y6=>
 .at (y6))
 (.no))
 (.no))
 (.at (y5)))
 (.no))
 (.no))
 (.no))
 (.no))
 (.no))
 (.no))
 (.no))
 (.no)))
def qaN:Nat->qmd×qme×qmc
 |0=>(fun _ _ _ _ _ _=>none,fun _ _ _ _ _=>none,fun _ _ _ _ _=>none)
 |n+1=>(fun x0 x1 x2 x3 x4 x5=>(qqj ((qaN n).1) ((qaN n).2.1) ((qaN n).2.2) x0 x1 x2 x3 x4 x5).ev,fun x0 x1 x2 x3 x4=>(qCC ((qaN n).1) ((qaN n).2.1) ((qaN n).2.2) x0 x1 x2 x3 x4).ev,fun x0 x1 x2 x3 x4=>(qk3 ((qaN n).1) ((qaN n).2.1) ((qaN n).2.2) x0 x1 x2 x3 x4).ev)
def qb8(x0 x1:Int)(x2:List UInt8)(x3:List AV)(x4:Int)(x5:List AV):Option qSw:=qjW fun n=>(qaN n).1 x0 x1 x2 x3 x4 x5
def qKe(x0 x1:Int)(x2:List UInt8)(x3 x4:List AV):Option qJB:=qjW fun n=>(qaN n).2.1 x0 x1 x2 x3 x4
def zap(x0 x1:Int)(x2:List UInt8)(x3 x4:List AV):Option qSv:=qjW fun n=>(qaN n).2.2 x0 x1 x2 x3 x4
theorem qm9:∀n,qSK ((qaN n).1) ((qaN n).2.1) ((qaN n).2.2)
 |0=>⟨(fun v y h=>nomatch h),(fun v y h=>nomatch h),(fun v y h=>nomatch h)⟩
 |n+1=>have hG:=qm9 n
 ⟨qag (F:=zkd) (L:=[]) (t:=(k6 (qqj ((qaN n).1) ((qaN n).2.1) ((qaN n).2.2)))) (qoA ((qaN n).1) ((qaN n).2.1) ((qaN n).2.2) hG) (qac (l:=[]) (by kernel_rfl) trivial) (by kernel_rfl) (fun v=>by kernel_rfl) (fun v=>rfl),qag (F:=zj8) (L:=[]) (t:=(k5 (qCC ((qaN n).1) ((qaN n).2.1) ((qaN n).2.2)))) (qoA ((qaN n).1) ((qaN n).2.1) ((qaN n).2.2) hG) (qac (l:=[]) (by kernel_rfl) trivial) (by kernel_rfl) (fun v=>by kernel_rfl) (fun v=>rfl),qag (F:=zke) (L:=[]) (t:=(k5 (qk3 ((qaN n).1) ((qaN n).2.1) ((qaN n).2.2)))) (qoA ((qaN n).1) ((qaN n).2.1) ((qaN n).2.2) hG) (qac (l:=[]) (by kernel_rfl) trivial) (by kernel_rfl) (fun v=>by kernel_rfl) (fun v=>rfl)⟩
theorem zkZ:FH IP 182 qEJ qE0 (k6 qb8):=qbM (p:=qEJ) (rs:=qE0) (s:=fun n=>(k6 ((qaN n).1))) fun n=>(qm9 n).1
theorem zlc:FH IP 124 qEN qE4 (k5 qKe):=qbM (p:=qEN) (rs:=qE4) (s:=fun n=>(k5 ((qaN n).2.1))) fun n=>(qm9 n).2.1
theorem zkT:FH IP 184 qEI qEZ (k5 zap):=qbM (p:=qEI) (rs:=qEZ) (s:=fun n=>(k5 ((qaN n).2.2))) fun n=>(qm9 n).2.2
def T93:Tab:=(182,FE qEJ qE0 (k6 qb8))::T92
theorem zkp:qao IP T93:=⟨qam zkZ,q9V⟩
def T94:Tab:=(124,FE qEN qE4 (k5 qKe))::T93
theorem zkq:qao IP T94:=⟨qam zlc,zkp⟩
def T95:Tab:=(184,FE qEI qEZ (k5 zap))::T94
theorem q9W:qao IP T95:=⟨qam zkT,zkq⟩
abbrev q8z:Type:=List AV
def zbh:PArgs:=⟨[.ref 0 0 0,.agg [.int .i64,.int .i64,.str,.view 4]],[(0,.box [.nils 3] false)]⟩
def zb8:List PRes:=[⟨false,.tup [],[(0,.box [.own 1 0] false),(1,.arr 3 false)]⟩]
def qqk(x0 x1:Int)(x2:List UInt8)(x3:List AV):DT q8z:=
 .br (x0==18)
 (.bi (qkj [109,97,120]) (fun y0=>
 .bi (qbj [40] y0) (fun y1=>
 .br (qaD [.int .i64,.int .i64,.str,.slice 4] x3 0)
 (.bi (qb8 (intOf (cellAt x3 0 0)) (intOf (cellAt x3 0 1)) (strOf (cellAt x3 0 2)) (qap (cellAt x3 0 3)) 0 y1) (fun y2=>
 .bi (qbj [44] y2) (fun y3=>
 .br (qaD [.int .i64,.int .i64,.str,.slice 4] x3 1)
 (.bi (qb8 (intOf (cellAt x3 1 0)) (intOf (cellAt x3 1 1)) (strOf (cellAt x3 1 2)) (qap (cellAt x3 1 3)) 0 y3) (fun y4=>
 .bi (qbj [41] y4) (fun y5=>
 .br (x0==19)
 (.br (qaD [.int .i64,.int .i64,.str,.slice 4] x3 2)
 (.bi (qb8 (intOf (cellAt x3 2 0)) (intOf (cellAt x3 2 1)) (strOf (cellAt x3 2 2)) (qap (cellAt x3 2 3)) 0 y5) (fun y6=>
 .at (y6))
 (.no))
 (.no))
 (.at (y5)))
 (.no))
 (.no))
 (.no))
 (.no))
 (.no))
 (.no))
 (.no))
 (.no))
 (.br (x0==19)
 (.bi (qkj [105,102]) (fun y0=>
 .br (qaD [.int .i64,.int .i64,.str,.slice 4] x3 0)
 (.bi (qb8 (intOf (cellAt x3 0 0)) (intOf (cellAt x3 0 1)) (strOf (cellAt x3 0 2)) (qap (cellAt x3 0 3)) 0 y0) (fun y1=>
 .bi (qbj [116,104,101,110] y1) (fun y2=>
 .br (qaD [.int .i64,.int .i64,.str,.slice 4] x3 1)
 (.bi (qb8 (intOf (cellAt x3 1 0)) (intOf (cellAt x3 1 1)) (strOf (cellAt x3 1 2)) (qap (cellAt x3 1 3)) 0 y2) (fun y3=>
 .bi (qbj [101,108,115,101] y3) (fun y4=>
 .br (x0==19)
 (.br (qaD [.int .i64,.int .i64,.str,.slice 4] x3 2)
 (.bi (qb8 (intOf (cellAt x3 2 0)) (intOf (cellAt x3 2 1)) (strOf (cellAt x3 2 2)) (qap (cellAt x3 2 3)) 0 y4) (fun y5=>
 .at (y5))
 (.no))
 (.no))
 (.at (y4)))
 (.no))
 (.no))
 (.no))
 (.no))
 (.no))
 (.no))
 (.no))
 (.bi (qkj [109,105,110]) (fun y0=>
 .bi (qbj [40] y0) (fun y1=>
 .br (qaD [.int .i64,.int .i64,.str,.slice 4] x3 0)
 (.bi (qb8 (intOf (cellAt x3 0 0)) (intOf (cellAt x3 0 1)) (strOf (cellAt x3 0 2)) (qap (cellAt x3 0 3)) 0 y1) (fun y2=>
 .bi (qbj [44] y2) (fun y3=>
 .br (qaD [.int .i64,.int .i64,.str,.slice 4] x3 1)
 (.bi (qb8 (intOf (cellAt x3 1 0)) (intOf (cellAt x3 1 1)) (strOf (cellAt x3 1 2)) (qap (cellAt x3 1 3)) 0 y3) (fun y4=>
 .bi (qbj [41] y4) (fun y5=>
 .br (x0==19)
 (.br (qaD [.int .i64,.int .i64,.str,.slice 4] x3 2)
 (.bi (qb8 (intOf (cellAt x3 2 0)) (intOf (cellAt x3 2 1)) (strOf (cellAt x3 2 2)) (qap (cellAt x3 2 3)) 0 y5) (fun y6=>
 .at (y6))
 (.no))
 (.no))
 (.at (y5)))
 (.no))
 (.no))
 (.no))
 (.no))
 (.no))
 (.no))
 (.no))
 (.no)))
def qyb(x0 x1:Int)(x2:List UInt8)(x3:List AV):Option q8z:=qax (qqk x0 x1 x2 x3).ev
theorem quE(x0 x1 x2 x3):qyb x0 x1 x2 x3=(qqk x0 x1 x2 x3).ev:=qaa _
theorem zk0:FH IP 184 zbh zb8 (k4 qyb):=fh zke (k4 qqk) q9W
def T96:Tab:=(184,FE zbh zb8 (k4 qyb))::T95
theorem q9X:qao IP T96:=⟨qam zk0,q9W⟩
abbrev qJC:Type:=List AV
def qEO:PArgs:=⟨[.ref 0 0 0,.agg [.int .i64,.int .i64,.str,.view 4]],[(0,.box [.nils 3] false)]⟩
def qE5:List PRes:=[⟨false,.tup [],[(0,.box [.own 1 0] false),(1,.arr 3 false)]⟩]
abbrev qoy:Type:=Int->Int->(List UInt8)->(List AV)->Option qJC
abbrev qSu:Type:=List AV
def qEH:PArgs:=⟨[.ref 0 0 0,.agg [.int .i64,.int .i64,.str,.view 4],.int .i64],[(0,.box [.nils 3] false)]⟩
def qEY:List PRes:=[⟨false,.tup [],[(0,.box [.own 1 0] false),(1,.arr 3 false)]⟩]
abbrev qox:Type:=Int->Int->(List UInt8)->(List AV)->Int->Option qSu
def qSL(G_u72q:qoy)(G_u35q:qox):Prop:=FH IP 124 qEO qE5 (k4 G_u72q)/\FH IP 182 qEH qEY (k5 G_u35q)
def zdy(G_u72q:qoy)(G_u35q:qox):Tab:=(124,FE qEO qE5 (k4 G_u72q))::(182,FE qEH qEY (k5 G_u35q))::T96
theorem qxL(G_u72q:qoy)(G_u35q:qox)(hG:qSL G_u72q G_u35q):qao IP (zdy G_u72q G_u35q):=⟨qam (hG.1),qam (hG.2),q9X⟩
def qCF(G_u72q:qoy)(G_u35q:qox)(x0 x1:Int)(x2:List UInt8)(x3:List AV):DT qJC:=
 .br (x0==1)
 (.br (decide (-9223372036854775808<=x1)&&decide (x1<=9223372036854775807))
 (.bi (qnl 2 (Lib.itoa x1)) (fun y0=>
 .at (y0))
 (.no))
 (.no))
 (.br (x0==2)
 (.bi (qkj [36]) (fun y0=>
 .br (decide (-9223372036854775808<=x1)&&decide (x1<=9223372036854775807))
 (.bi (qki 2 (Lib.itoa x1) y0) (fun y1=>
 .at (y1))
 (.no))
 (.no))
 (.no))
 (.br (x0==3)
 (.bi (qmn x1) (fun y0=>
 .bi (qnl 3 y0.1) (fun y1=>
 .at (y1))
 (.no))
 (.no))
 (.br (x0==4)
 (.bi (qnl 1 x2) (fun y0=>
 .at (y0))
 (.no))
 (.br (x0==9)
 (.bi (qkj [45]) (fun y0=>
 .br (qaD [.int .i64,.int .i64,.str,.slice 4] x3 0)
 (.bi (qa2 x0) (fun y1=>
 .bi (qb8 (intOf (cellAt x3 0 0)) (intOf (cellAt x3 0 1)) (strOf (cellAt x3 0 2)) (qap (cellAt x3 0 3)) y1 y0) (fun y2=>
 .at (y2))
 (.no))
 (.no))
 (.no))
 (.no))
 (.br (x0==16)
 (.bi (qkj [110,111,116]) (fun y0=>
 .br (qaD [.int .i64,.int .i64,.str,.slice 4] x3 0)
 (.bi (qa2 x0) (fun y1=>
 .bi (qb8 (intOf (cellAt x3 0 0)) (intOf (cellAt x3 0 1)) (strOf (cellAt x3 0 2)) (qap (cellAt x3 0 3)) y1 y0) (fun y2=>
 .at (y2))
 (.no))
 (.no))
 (.no))
 (.no))
 (.br (x0==17)
 (.br (x0==17)
 (.bi (qyb x0 x1 x2 x3) (fun y0=>
 .at (y0))
 (.no))
 (.bi (qa2 x0) (fun y0=>
 .bi (qa2 10) (fun y1=>
 .br (y0==y1)
 (.br (qaD [.int .i64,.int .i64,.str,.slice 4] x3 0)
 (.bi (G_u35q (intOf (cellAt x3 0 0)) (intOf (cellAt x3 0 1)) (strOf (cellAt x3 0 2)) (qap (cellAt x3 0 3)) (IntKind.i64.wrap (y0+1))) (fun y2=>
 .bi (qck x0) (fun y3=>
 .bi (qbj y3 y2) (fun y4=>
 .br (qaD [.int .i64,.int .i64,.str,.slice 4] x3 1)
 (.bi (qa2 x0) (fun y5=>
 .bi (qb8 (intOf (cellAt x3 1 0)) (intOf (cellAt x3 1 1)) (strOf (cellAt x3 1 2)) (qap (cellAt x3 1 3)) (IntKind.i64.wrap (y5+1)) y4) (fun y6=>
 .at (y6))
 (.no))
 (.no))
 (.no))
 (.no))
 (.no))
 (.no))
 (.no))
 (.br (qaD [.int .i64,.int .i64,.str,.slice 4] x3 0)
 (.bi (G_u35q (intOf (cellAt x3 0 0)) (intOf (cellAt x3 0 1)) (strOf (cellAt x3 0 2)) (qap (cellAt x3 0 3)) y0) (fun y2=>
 .bi (qck x0) (fun y3=>
 .bi (qbj y3 y2) (fun y4=>
 .br (qaD [.int .i64,.int .i64,.str,.slice 4] x3 1)
 (.bi (qa2 x0) (fun y5=>
 .bi (qb8 (intOf (cellAt x3 1 0)) (intOf (cellAt x3 1 1)) (strOf (cellAt x3 1 2)) (qap (cellAt x3 1 3)) (IntKind.i64.wrap (y5+1)) y4) (fun y6=>
 .at (y6))
 (.no))
 (.no))
 (.no))
 (.no))
 (.no))
 (.no))
 (.no)))
 (.no))
 (.no)))
 (.br (x0==18)
 (.br (x0==18)
 (.bi (qyb x0 x1 x2 x3) (fun y0=>
 .at (y0))
 (.no))
 (.bi (qa2 x0) (fun y0=>
 .bi (qa2 10) (fun y1=>
 .br (y0==y1)
 (.br (qaD [.int .i64,.int .i64,.str,.slice 4] x3 0)
 (.bi (G_u35q (intOf (cellAt x3 0 0)) (intOf (cellAt x3 0 1)) (strOf (cellAt x3 0 2)) (qap (cellAt x3 0 3)) (IntKind.i64.wrap (y0+1))) (fun y2=>
 .bi (qck x0) (fun y3=>
 .bi (qbj y3 y2) (fun y4=>
 .br (qaD [.int .i64,.int .i64,.str,.slice 4] x3 1)
 (.bi (qa2 x0) (fun y5=>
 .bi (qb8 (intOf (cellAt x3 1 0)) (intOf (cellAt x3 1 1)) (strOf (cellAt x3 1 2)) (qap (cellAt x3 1 3)) (IntKind.i64.wrap (y5+1)) y4) (fun y6=>
 .at (y6))
 (.no))
 (.no))
 (.no))
 (.no))
 (.no))
 (.no))
 (.no))
 (.br (qaD [.int .i64,.int .i64,.str,.slice 4] x3 0)
 (.bi (G_u35q (intOf (cellAt x3 0 0)) (intOf (cellAt x3 0 1)) (strOf (cellAt x3 0 2)) (qap (cellAt x3 0 3)) y0) (fun y2=>
 .bi (qck x0) (fun y3=>
 .bi (qbj y3 y2) (fun y4=>
 .br (qaD [.int .i64,.int .i64,.str,.slice 4] x3 1)
 (.bi (qa2 x0) (fun y5=>
 .bi (qb8 (intOf (cellAt x3 1 0)) (intOf (cellAt x3 1 1)) (strOf (cellAt x3 1 2)) (qap (cellAt x3 1 3)) (IntKind.i64.wrap (y5+1)) y4) (fun y6=>
 .at (y6))
 (.no))
 (.no))
 (.no))
 (.no))
 (.no))
 (.no))
 (.no)))
 (.no))
 (.no)))
 (.br (x0==19)
 (.bi (qyb x0 x1 x2 x3) (fun y0=>
 .at (y0))
 (.no))
 (.bi (qa2 x0) (fun y0=>
 .bi (qa2 10) (fun y1=>
 .br (y0==y1)
 (.br (qaD [.int .i64,.int .i64,.str,.slice 4] x3 0)
 (.bi (G_u35q (intOf (cellAt x3 0 0)) (intOf (cellAt x3 0 1)) (strOf (cellAt x3 0 2)) (qap (cellAt x3 0 3)) (IntKind.i64.wrap (y0+1))) (fun y2=>
 .bi (qck x0) (fun y3=>
 .bi (qbj y3 y2) (fun y4=>
 .br (qaD [.int .i64,.int .i64,.str,.slice 4] x3 1)
 (.bi (qa2 x0) (fun y5=>
 .bi (qb8 (intOf (cellAt x3 1 0)) (intOf (cellAt x3 1 1)) (strOf (cellAt x3 1 2)) (qap (cellAt x3 1 3)) (IntKind.i64.wrap (y5+1)) y4) (fun y6=>
 .at (y6))
 (.no))
 (.no))
 (.no))
 (.no))
 (.no))
 (.no))
 (.no))
 (.br (qaD [.int .i64,.int .i64,.str,.slice 4] x3 0)
 (.bi (G_u35q (intOf (cellAt x3 0 0)) (intOf (cellAt x3 0 1)) (strOf (cellAt x3 0 2)) (qap (cellAt x3 0 3)) y0) (fun y2=>
 .bi (qck x0) (fun y3=>
 .bi (qbj y3 y2) (fun y4=>
 .br (qaD [.int .i64,.int .i64,.str,.slice 4] x3 1)
 (.bi (qa2 x0) (fun y5=>
 .bi (qb8 (intOf (cellAt x3 1 0)) (intOf (cellAt x3 1 1)) (strOf (cellAt x3 1 2)) (qap (cellAt x3 1 3)) (IntKind.i64.wrap (y5+1)) y4) (fun y6=>
 .at (y6))
 (.no))
 (.no))
 (.no))
 (.no))
 (.no))
 (.no))
 (.no)))
 (.no))
 (.no))))))))))
def qCl(G_u72q:qoy)(G_u35q:qox)(x0 x1:Int)(x2:List UInt8)(x3:List AV)(x4:Int):DT qSu:=
 .bi (qa2 x0) (fun y0=>
 .br (decide (y0>=x4))
 (.bi (G_u72q x0 x1 x2 x3) (fun y1=>
 .at (y1))
 (.no))
 (.bi (qkj [40]) (fun y1=>
 .bi (qKe x0 x1 x2 x3 y1) (fun y2=>
 .bi (qbj [41] y2) (fun y3=>
 .at (y3))
 (.no))
 (.no))
 (.no)))
 (.no)
def qb4:Nat->qoy×qox
 |0=>(fun _ _ _ _=>none,fun _ _ _ _ _=>none)
 |n+1=>(fun x0 x1 x2 x3=>(qCF ((qb4 n).1) ((qb4 n).2) x0 x1 x2 x3).ev,fun x0 x1 x2 x3 x4=>(qCl ((qb4 n).1) ((qb4 n).2) x0 x1 x2 x3 x4).ev)
def qVI(x0 x1:Int)(x2:List UInt8)(x3:List AV):Option qJC:=qjW fun n=>(qb4 n).1 x0 x1 x2 x3
def zao(x0 x1:Int)(x2:List UInt8)(x3:List AV)(x4:Int):Option qSu:=qjW fun n=>(qb4 n).2 x0 x1 x2 x3 x4
theorem qtn:∀n,qSL ((qb4 n).1) ((qb4 n).2)
 |0=>⟨(fun v y h=>nomatch h),(fun v y h=>nomatch h)⟩
 |n+1=>have hG:=qtn n
 ⟨qag (F:=zj8) (L:=[]) (t:=(k4 (qCF ((qb4 n).1) ((qb4 n).2)))) (qxL ((qb4 n).1) ((qb4 n).2) hG) (qac (l:=[]) (by kernel_rfl) trivial) (by kernel_rfl) (fun v=>by kernel_rfl) (fun v=>rfl),qag (F:=zkd) (L:=[]) (t:=(k5 (qCl ((qb4 n).1) ((qb4 n).2)))) (qxL ((qb4 n).1) ((qb4 n).2) hG) (qac (l:=[]) (by kernel_rfl) trivial) (by kernel_rfl) (fun v=>by kernel_rfl) (fun v=>rfl)⟩
theorem zlf:FH IP 124 qEO qE5 (k4 qVI):=qbM (p:=qEO) (rs:=qE5) (s:=fun n=>(k4 ((qb4 n).1))) fun n=>(qtn n).1
theorem zkS:FH IP 182 qEH qEY (k5 zao):=qbM (p:=qEH) (rs:=qEY) (s:=fun n=>(k5 ((qb4 n).2))) fun n=>(qtn n).2
def T97:Tab:=(124,FE qEO qE5 (k4 qVI))::T96
theorem zkr:qao IP T97:=⟨qam zlf,q9X⟩
def T98:Tab:=(182,FE qEH qEY (k5 zao))::T97
theorem q9Y:qao IP T98:=⟨qam zkS,zkr⟩
abbrev qRg:Type:=List AV×Int
def qYB:PArgs:=⟨[.agg [.int .i64,.int .i64,.str,.view 4]],[]⟩
def q0X:List PRes:=[⟨false,.tup [.view 3,.int .i64],[]⟩]
def qr9(x0 x1:Int)(x2:List UInt8)(x3:List AV):DT qRg:=
 .bi (qi2 x0 x1 x2 x3) (fun y0=>
 .br (y0 != 0)
 (.at (([],y0)))
 (.bi (qVI x0 x1 x2 x3) (fun y1=>
 .at ((y1,0)))
 (.no)))
 (.no)
def qt5(x0 x1:Int)(x2:List UInt8)(x3:List AV):Option qRg:=qax (qr9 x0 x1 x2 x3).ev
theorem qOA(x0 x1 x2 x3):qt5 x0 x1 x2 x3=(qr9 x0 x1 x2 x3).ev:=qaa _
theorem zex:FH IP 63 qYB q0X (k4 qt5):=fh F63 (k4 qr9) q9Y
def T99:Tab:=(63,FE qYB q0X (k4 qt5))::T98
theorem qT4:qao IP T99:=⟨qam zex,q9Y⟩
abbrev qhz:Type:=(List AV×Int×Int×Int×List AV)⊕(List AV×Int×Int×Int×List AV)
def qWg:List PSt:=[⟨[(1002100,.junk),(0,.ref 0 0 0),(13,.view 3),(14,.int .i64),(15,.int .i64)],[(0,.box [.own 1 0,.int .i64] false),(1,.arr 3 false)],2,2⟩,⟨[(1002100,.junk),(0,.ref 0 0 0),(13,.view 3),(14,.int .i64),(15,.int .i64)],[(0,.box [.own 2 0,.int .i64] false),(2,.arr 3 false)],3,2⟩]
def q7v(x0:List AV)(x1 x2 x3:Int)(x4:List AV):X×St:=(.exit 0,⟨[],[(0,.box [.own 1 0 none,.int .i64 x3] false),(1,.arr 3 x4 false)],2,2⟩)
def q7w(x0:List AV)(x1 x2 x3:Int)(x4:List AV):X×St:=(.exit 0,⟨[],[(0,.box [.own 2 0 none,.int .i64 x3] false),(2,.arr 3 x4 false)],3,2⟩)
def znV:List (qhz->X×St):=[fun w=>(k5 q7v) ((sl w)),fun w=>(k5 q7w) ((sr w))]
def qwE(x0:List AV)(x1 x2 x3:Int)(x4:List AV):DT (Rd qhz):=
 .br (decide (x2<x1))
 (.br (qaD [.int .i64,.int .i64,.str] x0 x2)
 (.bi (qd4 (intOf (cellAt x0 x2 0)) (strOf (cellAt x0 x2 2)) x3 x4) (fun y0=>
 .at (.next ((.inr (x0,x1,IntKind.i64.wrap (x2+1),y0)))))
 (.no))
 (.no))
 (.at (.done 0))
def qkP(x0:List AV)(x1 x2 x3:Int)(x4:List AV):DT (Rd qhz):=
 .br (decide (x2<x1))
 (.br (qaD [.int .i64,.int .i64,.str] x0 x2)
 (.bi (qd4 (intOf (cellAt x0 x2 0)) (strOf (cellAt x0 x2 2)) x3 x4) (fun y0=>
 .at (.next ((.inr (x0,x1,IntKind.i64.wrap (x2+1),y0)))))
 (.no))
 (.no))
 (.at (.done 1))
def qwD:qhz->DT (Rd qhz):=(Sum.elim (fun v=>qwE v.1 v.2.1 v.2.2.1 v.2.2.2.1 v.f) (fun v=>qkP v.1 v.2.1 v.2.2.1 v.2.2.2.1 v.f))
def qvl(v:qhz):Option (Nat×qhz):=qax (qae (fun v=>(qwD v).ev) v)
theorem qDX(v):qvl v=qae (fun v=>(qwD v).ev) v:=qaa _
def qWV:qbS:=LE (τ:=qhz) (hD qWg) (qvl) znV
theorem znd:Go.Eng.Told IP (qad F21 0).1 (qad F21 0).2 (qWV):=qat (inferInstance:Inhabited qhz) (hs:=qWg) (st:=qwD) (L:=[]) qT4 (qac (l:=[]) (by kernel_rfl) trivial) (qDX) (fun v=>match v with|(.inl v)=>by kernel_rfl|(.inr v)=>by kernel_rfl) (fun v=>match v with|(.inl v)=>by kernel_rfl|(.inr v)=>by kernel_rfl)
abbrev q8u:Type:=(Int×List AV)⊕(Int×List AV)
def zbc:PArgs:=⟨[.ref 0 0 0,.agg [.int .i64,.int .i64,.str,.view 4]],[(0,.box [.own 1 0,.int .i64] false),(1,.arr 3 false)]⟩
def zb3:List PRes:=[⟨false,.tup [],[(0,.box [.own 1 0,.int .i64] false),(1,.arr 3 false)]⟩,⟨false,.tup [],[(0,.box [.own 2 0,.int .i64] false),(2,.arr 3 false)]⟩]
def qCn(x0 x1:Int)(x2:List UInt8)(x3:List AV)(x4:Int)(x5:List AV):DT q8u:=
 .bi (qt5 x0 x1 x2 x3) (fun y0=>
 .bi (pj 0 (qvl (Sum.inl (y0.1,(y0.1.length:Int),0,x4,x5)))) (fun y1=>
 .at ((.inl ((sl y1).2.2.2))))
 (.bi (pj 1 (qvl (Sum.inl (y0.1,(y0.1.length:Int),0,x4,x5)))) (fun y1=>
 .at ((.inr ((sr y1).2.2.2))))
 (.no)))
 (.no)
def qjL(x0 x1:Int)(x2:List UInt8)(x3:List AV)(x4:Int)(x5:List AV):Option q8u:=qax (qCn x0 x1 x2 x3 x4 x5).ev
theorem qVq(x0 x1 x2 x3 x4 x5):qjL x0 x1 x2 x3 x4 x5=(qCn x0 x1 x2 x3 x4 x5).ev:=qaa _
theorem zkV:FH IP 21 zbc zb3 (k6 qjL):=qag (F:=F21) (L:=[(1002100,qWV)]) (t:=(k6 qCn)) qT4 (qac (l:=[qad F21 0]) (by kernel_rfl) ⟨qas (by kernel_rfl) znd,trivial⟩) (by kernel_rfl) (fun v=>by kernel_rfl) (fun _=>qaa _)
def ztr:Tab:=(21,FE zbc zb3 (k6 qjL))::T99
theorem qz2:qao IP ztr:=⟨qam zkV,qT4⟩
abbrev qgq:Type:=List AV×Int×Int×List UInt8×List UInt8×List UInt8×Int×Int×Int×Int×List AV×Bool×Int×Int×Bool×List AV×Bool×Int×Int×Bool×List AV×List AV×Int×List AV
def qWv:List PSt:=[⟨[(1000900,.junk),(1,.ref 0 0 0),(4,.ref 1 0 0),(26,.view 10),(27,.int .i64),(28,.int .i64)],[(0,.box [.str,.str,.str,.int .i64,.int .i64,.int .i64,.int .i64,.view 2,.bool,.int .i64,.int .i64,.bool,.view 2,.bool,.int .i64,.int .i64,.bool,.view 10,.view 6] false),(1,.box [.own 2 0,.int .i64] false),(2,.arr 3 false)],3,0⟩]
def q73(x0:List AV)(x1 x2:Int)(x3 x4 x5:List UInt8)(x6 x7:Int)(x8 x9:Int)(x10:List AV)(x11:Bool)(x12 x13:Int)(x14:Bool)(x15:List AV)(x16:Bool)(x17 x18:Int)(x19:Bool)(x20 x21:List AV)(x22:Int)(x23:List AV):X×St:=(.exit 0,
 ⟨[(1,.ref 0 0 0),(4,.ref 1 0 0)],[(0,
 .box
 [.str x3,.str x4,.str x5,.int .i64 x6,.int .i64 x7,.int .i64 x8,.int .i64 x9,.view 2 x10,.bool x11,
 .int .i64 x12,.int .i64 x13,.bool x14,.view 2 x15,.bool x16,.int .i64 x17,.int .i64 x18,.bool x19,.view 10 x20,
 .view 6 x21]
 false),
 (1,.box [.own 2 0 none,.int .i64 x22] false),(2,.arr 3 x23 false)],3,0⟩)
def zoa:List (qgq->X×St):=[(k24 q73)]
def qkX(x0:List AV)(x1 x2:Int)(x3 x4 x5:List UInt8)(x6 x7:Int)(x8 x9:Int)(x10:List AV)(x11:Bool)(x12 x13:Int)(x14:Bool)(x15:List AV)(x16:Bool)(x17 x18:Int)(x19:Bool)(x20 x21:List AV)(x22:Int)(x23:List AV):DT (Rd qgq):=
 .br (decide (x2<x1))
 (.br (qaD [.str,.int .i64,.int .i64,.int .i64,.str,.slice 4,.int .i64,.int .i64,.str,.slice 4] x0 x2)
 (.bi (qqx) (fun y0=>
 .br (qaD [.str] y0 (IntKind.i64.wrap (intOf (cellAt x0 x2 1)-1)))
 (.bi (qcJ
 [AV.str [102,101,101],AV.str (strOf (cellAt x0 x2 0)),AV.str (strOf (cellAt y0 (IntKind.i64.wrap (intOf (cellAt x0 x2 1)-1)) 0)),AV.str [119,104,101,110]] x22 x23) (fun y1=>
 .bi (pl (qjL (intOf (cellAt x0 x2 2)) (intOf (cellAt x0 x2 3)) (strOf (cellAt x0 x2 4)) (qap (cellAt x0 x2 5)) y1.1 y1.2)) (fun y2=>
 .br (room (y2.2.length+1) 32)
 (.bi (pl
 (qjL (intOf (cellAt x0 x2 6)) (intOf (cellAt x0 x2 7)) (strOf (cellAt x0 x2 8)) (qap (cellAt x0 x2 9)) y2.1
 (y2.2++[AV.agg [.int .i64 (Tk.kindP [97,109,111,117,110,116,95,111,102]),.int .i64 y2.1,AV.str [97,109,111,117,110,116,95,111,102]]]))) (fun y3=>
 .br (room (y3.2.length+1) 32)
 (.at (.next ((x0,x1,IntKind.i64.wrap (x2+1),x3,x4,x5,x6,x7,x8,x9,x10,x11,x12,x13,x14,x15,x16,x17,x18,x19,x20,x21,y3.1,y3.2++[AV.agg [.int .i64 (Tk.kindP [59]),.int .i64 y3.1,AV.str [59]]]))))
 (.no))
 (.bi (pr
 (qjL (intOf (cellAt x0 x2 6)) (intOf (cellAt x0 x2 7)) (strOf (cellAt x0 x2 8)) (qap (cellAt x0 x2 9)) y2.1
 (y2.2++[AV.agg [.int .i64 (Tk.kindP [97,109,111,117,110,116,95,111,102]),.int .i64 y2.1,AV.str [97,109,111,117,110,116,95,111,102]]]))) (fun y3=>
 .br (room (y3.2.length+1) 32)
 (.at (.next ((x0,x1,IntKind.i64.wrap (x2+1),x3,x4,x5,x6,x7,x8,x9,x10,x11,x12,x13,x14,x15,x16,x17,x18,x19,x20,x21,y3.1,y3.2++[AV.agg [.int .i64 (Tk.kindP [59]),.int .i64 y3.1,AV.str [59]]]))))
 (.no))
 (.no)))
 (.no))
 (.bi (pr (qjL (intOf (cellAt x0 x2 2)) (intOf (cellAt x0 x2 3)) (strOf (cellAt x0 x2 4)) (qap (cellAt x0 x2 5)) y1.1 y1.2)) (fun y2=>
 .br (room (y2.2.length+1) 32)
 (.bi (pl
 (qjL (intOf (cellAt x0 x2 6)) (intOf (cellAt x0 x2 7)) (strOf (cellAt x0 x2 8)) (qap (cellAt x0 x2 9)) y2.1
 (y2.2++[AV.agg [.int .i64 (Tk.kindP [97,109,111,117,110,116,95,111,102]),.int .i64 y2.1,AV.str [97,109,111,117,110,116,95,111,102]]]))) (fun y3=>
 .br (room (y3.2.length+1) 32)
 (.at (.next ((x0,x1,IntKind.i64.wrap (x2+1),x3,x4,x5,x6,x7,x8,x9,x10,x11,x12,x13,x14,x15,x16,x17,x18,x19,x20,x21,y3.1,y3.2++[AV.agg [.int .i64 (Tk.kindP [59]),.int .i64 y3.1,AV.str [59]]]))))
 (.no))
 (.bi (pr
 (qjL (intOf (cellAt x0 x2 6)) (intOf (cellAt x0 x2 7)) (strOf (cellAt x0 x2 8)) (qap (cellAt x0 x2 9)) y2.1
 (y2.2++[AV.agg [.int .i64 (Tk.kindP [97,109,111,117,110,116,95,111,102]),.int .i64 y2.1,AV.str [97,109,111,117,110,116,95,111,102]]]))) (fun y3=>
 .br (room (y3.2.length+1) 32)
 (.at (.next ((x0,x1,IntKind.i64.wrap (x2+1),x3,x4,x5,x6,x7,x8,x9,x10,x11,x12,x13,x14,x15,x16,x17,x18,x19,x20,x21,y3.1,y3.2++[AV.agg [.int .i64 (Tk.kindP [59]),.int .i64 y3.1,AV.str [59]]]))))
 (.no))
 (.no)))
 (.no))
 (.no)))
 (.no))
 (.no))
 (.no))
 (.no))
 (.at (.done 0))
def qJh:qgq->DT (Rd qgq):=(fun v=>qkX v.1 v.2.1 v.2.2.1 v.2.2.2.1 v.f.1 v.f.2.1 v.f.2.2.1 v.f.2.2.2.1 v.h.1 v.h.2.1 v.h.2.2.1 v.h.2.2.2.1 v.h.f.1 v.h.f.2.1 v.h.f.2.2.1 v.h.f.2.2.2.1 v.i.1 v.i.2.1 v.i.2.2.1 v.i.2.2.2.1 v.i.f.1 v.i.f.2.1 v.i.f.2.2.1 v.i.f.2.2.2)
def qEf(v:qgq):Option (Nat×qgq):=qax (qae (fun v=>(qJh v).ev) v)
theorem qEg(v):qEf v=qae (fun v=>(qJh v).ev) v:=qaa _
def qXa:qbS:=LE (τ:=qgq) (hD qWv) (qEf) zoa
theorem zns:Go.Eng.Told IP (qad F9 0).1 (qad F9 0).2 (qXa):=lp (inferInstance:Inhabited qgq) (hs:=qWv) qJh qz2 qEg
abbrev qgr:Type:=List AV×Int×Int×Int×List AV
def qWw:List PSt:=[⟨[(1000901,.junk),(4,.ref 0 0 0),(59,.view 6),(60,.int .i64),(61,.int .i64)],[(0,.box [.own 1 0,.int .i64] false),(1,.arr 3 false)],2,0⟩]
def q74(x0:List AV)(x1 x2 x3:Int)(x4:List AV):X×St:=(.exit 2,⟨[(4,.ref 0 0 0)],[(0,.box [.own 1 0 none,.int .i64 x3] false),(1,.arr 3 x4 false)],2,0⟩)
def zob:List (qgr->X×St):=[(k5 q74)]
def qkY(x0:List AV)(x1 x2 x3:Int)(x4:List AV):DT (Rd qgr):=
 .br (decide (x2<x1))
 (.br (qaD [.str,.int .i64,.int .i64,.int .i64,.str,.slice 4] x0 x2)
 (.bi (ql5) (fun y0=>
 .br (qaD [.str] y0 (IntKind.i64.wrap (intOf (cellAt x0 x2 1)-1)))
 (.bi (qcJ [AV.str [108,105,109,105,116],AV.str (strOf (cellAt x0 x2 0)),AV.str (strOf (cellAt y0 (IntKind.i64.wrap (intOf (cellAt x0 x2 1)-1)) 0))] x3 x4) (fun y1=>
 .bi (pl (qjL (intOf (cellAt x0 x2 2)) (intOf (cellAt x0 x2 3)) (strOf (cellAt x0 x2 4)) (qap (cellAt x0 x2 5)) y1.1 y1.2)) (fun y2=>
 .br (room (y2.2.length+1) 32)
 (.at (.next ((x0,x1,IntKind.i64.wrap (x2+1),y2.1,y2.2++[AV.agg [.int .i64 (Tk.kindP [59]),.int .i64 y2.1,AV.str [59]]]))))
 (.no))
 (.bi (pr (qjL (intOf (cellAt x0 x2 2)) (intOf (cellAt x0 x2 3)) (strOf (cellAt x0 x2 4)) (qap (cellAt x0 x2 5)) y1.1 y1.2)) (fun y2=>
 .br (room (y2.2.length+1) 32)
 (.at (.next ((x0,x1,IntKind.i64.wrap (x2+1),y2.1,y2.2++[AV.agg [.int .i64 (Tk.kindP [59]),.int .i64 y2.1,AV.str [59]]]))))
 (.no))
 (.no)))
 (.no))
 (.no))
 (.no))
 (.no))
 (.at (.done 0))
def qJi:qgr->DT (Rd qgr):=(fun v=>qkY v.1 v.2.1 v.2.2.1 v.2.2.2.1 v.f)
def qy2(v:qgr):Option (Nat×qgr):=qax (qae (fun v=>(qJi v).ev) v)
theorem qEh(v):qy2 v=qae (fun v=>(qJi v).ev) v:=qaa _
def qXb:qbS:=LE (τ:=qgr) (hD qWw) (qy2) zob
theorem znt:Go.Eng.Told IP (qad F9 1).1 (qad F9 1).2 (qXb):=lp (inferInstance:Inhabited qgr) (hs:=qWw) qJi qz2 qEh
end
end Go.Proofs.H16
namespace Go.Proofs.H16
open Go Go.Eng
set_option maxRecDepth 100000
noncomputable section
abbrev qQL:Type:=List UInt8×Int
def qXZ:PArgs:=⟨[.agg [.str,.str,.str,.int .i64,.int .i64,.int .i64,.int .i64,.view 2,.bool,.int .i64,.int .i64,.bool,.view 2,.bool,.int .i64,.int .i64,.bool,.view 10,.view 6]],[]⟩
def q0l:List PRes:=[⟨false,.tup [.str,.int .i64],[]⟩]
def qrr(x0 x1 x2:List UInt8)(x3 x4:Int)(x5 x6:Int)(x7:List AV)(x8:Bool)(x9 x10:Int)(x11:Bool)(x12:List AV)(x13:Bool)(x14 x15:Int)(x16:Bool)(x17 x18:List AV):DT qQL:=
 .bi (qDJ x0 x1 x2 x3 x4 x5 x6 x7 x8 x9 x10 x11 x12 x13 x14 x15 x16 x17 x18) (fun y0=>
 .br (!y0)
 (.at (([],1)))
 (.bi (qDF x0 x1 x2 x3 x4 x5 x6 x7 x8 x9 x10 x11 x12 x13 x14 x15 x16 x17 x18 0) (fun y1=>
 .bi (qxY [99,114,101,100,105,116] x7 x8 x9 x10 x11 y1.1 y1.2) (fun y2=>
 .bi (qxY [100,101,98,105,116] x12 x13 x14 x15 x16 y2.1 y2.2) (fun y3=>
 .bi (pj 0 (qEf (x17,(x17.length:Int),0,x0,x1,x2,x3,x4,x5,x6,x7,x8,x9,x10,x11,x12,x13,x14,x15,x16,x17,x18,y3))) (fun y4=>
 .bi (pj 0
 (qy2
 (y4.i.f.2.1,
 (y4.2.2.2.2.2.2.2.2.2.2.2.2.2.2.2.2.2.2.2.2.2.1.length:Int),0,
 y4.i.f.2.2))) (fun y5=>
 .bi (qcJ [AV.str [125]] y5.2.2.2.1 y5.f) (fun y6=>
 .br (Tk.jB IP 24 y6.2) (.at ((Tk.jS IP 24 y6.2,Tk.jN IP 24 y6.2))) (.no))
 (.no))
 (.no))
 (.no))
 (.no))
 (.no))
 (.no)))
 (.no)
def qj6(x0 x1 x2:List UInt8)(x3 x4:Int)(x5 x6:Int)(x7:List AV)(x8:Bool)(x9 x10:Int)(x11:Bool)(x12:List AV)(x13:Bool)(x14 x15:Int)(x16:Bool)(x17 x18:List AV):Option qQL:=qax (qrr x0 x1 x2 x3 x4 x5 x6 x7 x8 x9 x10 x11 x12 x13 x14 x15 x16 x17 x18).ev
theorem qNW(x0 x1 x2 x3 x4 x5 x6 x7 x8 x9 x10 x11 x12 x13 x14 x15 x16 x17 x18):qj6 x0 x1 x2 x3 x4 x5 x6 x7 x8 x9 x10 x11 x12 x13 x14 x15 x16 x17 x18=(qrr x0 x1 x2 x3 x4 x5 x6 x7 x8 x9 x10 x11 x12 x13 x14 x15 x16 x17 x18).ev:=qaa _
theorem zdS:FH IP 9 qXZ q0l (k19 qj6):=qag (F:=F9) (L:=[(1000900,qXa),(1000901,qXb)]) (t:=(k19 qrr)) qz2 (qac (l:=[qad F9 0,qad F9 1]) (by kernel_rfl) ⟨qas (by kernel_rfl) zns,qas (by kernel_rfl) znt,trivial⟩) (by kernel_rfl) (fun v=>by kernel_rfl) (fun _=>qaa _)
def zts:Tab:=(9,FE qXZ q0l (k19 qj6))::ztr
theorem zdn:qao IP zts:=⟨qam zdS,qz2⟩
abbrev zcS:Type:=Bool
def qZm:PArgs:=⟨[],[]⟩
def q1I:List PRes:=[⟨false,.bool,[]⟩]
def qb7:Option zcS:=qWO IP 8
theorem zfr:FH IP 8 qZm q1I (fun _=>qb7):=fun _ _ hv=>q6g hv
def ztt:Tab:=(8,FE qZm q1I (fun _=>qb7))::zts
theorem qGi:qao IP ztt:=⟨qam zfr,zdn⟩
abbrev qfH:Type:=List UInt8×List UInt8×List UInt8×List UInt8×Int
def qKY:List PSt:=[⟨[(1002600,.junk),(0,.str),(4,.str),(5,.str),(6,.str),(7,.int .i64)],[],0,0⟩]
def q4x(x0 x1:List UInt8)(x2 x3:List UInt8)(x4:Int):X×St:=(.ret,⟨[(0,.str x0),(2,.str []),(3,.bool false),(4,.str x1)],[],0,0⟩)
def q4y(x0 x1:List UInt8)(x2 x3:List UInt8)(x4:Int):X×St:=(.exit 0,⟨[(0,.str x0),(2,.junk),(3,.junk),(4,.str x1)],[],0,0⟩)
def zje:List (qfH->X×St):=[(k5 q4x),(k5 q4y)]
def qex(x0 x1:List UInt8)(x2 x3:List UInt8)(x4:Int):DT (Rd qfH):=
 .br (decide (x4<(x0.length:Int)))
 (.br (inB x0.length x4)
 (.bi (br (decide (qai x0 x4<65)) (some true) (br (inB x0.length x4) (some (decide (qai x0 x4>90))) none)) (fun y0=>
 .br (y0)
 (.at (.done 0))
 (.br (inB x0.length x4)
 (.br (inB x3.length 0)
 (.br (leB (IntKind.i64.wrap (IntKind.i64.wrap (IntKind.u8.wrap (qai x0 x4-qai x3 0))+1)) x2.length &&
 leB (IntKind.i64.wrap (IntKind.u8.wrap (qai x0 x4-qai x3 0))) (IntKind.i64.wrap (IntKind.i64.wrap (IntKind.u8.wrap (qai x0 x4-qai x3 0))+1)).toNat)
 (.br (decide
 (x1.length +
 (List.take
 ((IntKind.i64.wrap (IntKind.i64.wrap (IntKind.u8.wrap (qai x0 x4-qai x3 0))+1)).toNat-(IntKind.i64.wrap (IntKind.u8.wrap (qai x0 x4-qai x3 0))).toNat)
 (List.drop (IntKind.i64.wrap (IntKind.u8.wrap (qai x0 x4-qai x3 0))).toNat x2)).length <=
 4611686018427387904))
 (.at (.next ((x0,x1 ++
 List.take
 ((IntKind.i64.wrap (IntKind.i64.wrap (IntKind.u8.wrap (qai x0 x4-qai x3 0))+1)).toNat-(IntKind.i64.wrap (IntKind.u8.wrap (qai x0 x4-qai x3 0))).toNat)
 (List.drop (IntKind.i64.wrap (IntKind.u8.wrap (qai x0 x4-qai x3 0))).toNat x2),x2,x3,IntKind.i64.wrap (x4+1)))))
 (.no))
 (.no))
 (.no))
 (.no)))
 (.no))
 (.no))
 (.at (.done 1))
def qhv:qfH->DT (Rd qfH):=(fun v=>qex v.1 v.2.1 v.2.2.1 v.2.2.2.1 v.f)
def qAV(v:qfH):Option (Nat×qfH):=qax (qae (fun v=>(qhv v).ev) v)
theorem qyP(v):qAV v=qae (fun v=>(qhv v).ev) v:=qaa _
def qMe:qbS:=LE (τ:=qfH) (hD qKY) (qAV) zje
theorem zh5:Go.Eng.Told IP (qad F26 0).1 (qad F26 0).2 (qMe):=lp (inferInstance:Inhabited qfH) (hs:=qKY) qhv qGi qyP
abbrev qRK:Type:=List AV
def qY5:PArgs:=⟨[],[]⟩
def q1r:List PRes:=[⟨false,.view 1,[]⟩]
def qop:DT qRK:=
 .at ([AV.str [112,114,111,100,117,99,116],AV.str [99,117,114,114,101,110,99,121],AV.str [99,97,108,101,110,100,97,114],AV.str [102,114,111,109],
 AV.str [101,118,101,114,121],AV.str [111,118,101,114,100,114,97,102,116],AV.str [116,97,120],AV.str [99,114,101,100,105,116],
 AV.str [100,101,98,105,116],AV.str [109,97,114,103,105,110,97,108],AV.str [119,104,111,108,101],AV.str [97,99,116,51,54,48],
 AV.str [97,99,116,51,54,53],AV.str [97,99,116,117,97,108],AV.str [116,104,105,114,116,121],AV.str [100,111,119,110],AV.str [117,112],
 AV.str [102,108,111,111,114],AV.str [99,101,105,108],AV.str [104,97,108,102,95,117,112],AV.str [104,97,108,102,95,101,118,101,110],
 AV.str [107,101,101,112],AV.str [100,114,111,112],AV.str [102,101,101],AV.str [108,105,109,105,116],AV.str [119,104,101,110],
 AV.str [97,109,111,117,110,116,95,111,102],AV.str [115,105,110,103,108,101],AV.str [100,97,105,108,121],AV.str [109,111,110,116,104,108,121],
 AV.str [109,111,110,116,104],AV.str [114,101,116,117,114,110],AV.str [99,108,111,115,101],AV.str [101,118,101,110,116],AV.str [105,102],
 AV.str [116,104,101,110],AV.str [101,108,115,101],AV.str [97,110,100],AV.str [111,114],AV.str [110,111,116],AV.str [109,105,110],AV.str [109,97,120]])
def qoT:Option qRK:=qax (qop).ev
theorem qx9:qoT=(qop).ev:=qaa _
theorem ze4:FH IP 135 qY5 q1r (fun _=>qoT):=qag (F:=zoz) (L:=[]) (t:=(fun _=>qop)) qGi (qac (l:=[]) (by kernel_rfl) trivial) (by kernel_rfl) (fun v=>by kernel_rfl) (fun _=>qaa _)
def ztu:Tab:=(135,FE qY5 q1r (fun _=>qoT))::ztt
theorem qGj:qao IP ztu:=⟨qam ze4,qGi⟩
abbrev qfQ:Type:=List UInt8×List AV×Int
def qK7:List PSt:=[⟨[(1007600,.junk),(0,.str),(3,.view 1),(4,.int .i64)],[],0,0⟩]
def q4O(x0:List UInt8)(x1:List AV)(x2:Int):X×St:=(.ret,⟨[(2,.bool true)],[],0,0⟩)
def q4P(x0:List UInt8)(x1:List AV)(x2:Int):X×St:=(.exit 0,⟨[(2,.junk)],[],0,0⟩)
def zjn:List (qfQ->X×St):=[(k3 q4O),(k3 q4P)]
def qiA(x0:List UInt8)(x1:List AV)(x2:Int):DT (Rd qfQ):=
 .br (decide (x2<(x1.length:Int)))
 (.br (qaD [.str] x1 x2)
 (.br (strOf (cellAt x1 x2 0)==x0) (.at (.done 0)) (.at (.next ((x0,x1,IntKind.i64.wrap (x2+1))))))
 (.no))
 (.at (.done 1))
def qjw:qfQ->DT (Rd qfQ):=(fun v=>qiA v.1 v.2.1 v.2.2)
def qpg(v:qfQ):Option (Nat×qfQ):=qax (qae (fun v=>(qjw v).ev) v)
theorem qph(v):qpg v=qae (fun v=>(qjw v).ev) v:=qaa _
def qMm:qbS:=LE (τ:=qfQ) (hD qK7) (qpg) zjn
theorem zid:Go.Eng.Told IP (qad F76 0).1 (qad F76 0).2 (qMm):=lp (inferInstance:Inhabited qfQ) (hs:=qK7) qjw qGj qph
abbrev qR6:Type:=Bool
def qZs:PArgs:=⟨[.str],[]⟩
def q1O:List PRes:=[⟨false,.bool,[]⟩]
def qoq(x0:List UInt8):DT qR6:=
 .bi (qoT) (fun y0=>
 .bi (pj 0 (qpg (x0,y0,0))) (fun y1=>
 .at (true))
 (.bi (pj 1 (qpg (x0,y0,0))) (fun y1=>
 .at (false))
 (.no)))
 (.no)
def qe4(x0:List UInt8):Option qR6:=qax (qoq x0).ev
theorem qya(x0):qe4 x0=(qoq x0).ev:=qaa _
theorem zfx:FH IP 76 qZs q1O qe4:=qag (F:=F76) (L:=[(1007600,qMm)]) (t:=qoq) qGj (qac (l:=[qad F76 0]) (by kernel_rfl) ⟨qas (by kernel_rfl) zid,trivial⟩) (by kernel_rfl) (fun v=>by kernel_rfl) (fun _=>qaa _)
def ztv:Tab:=(76,FE qZs q1O qe4)::ztu
theorem qSP:qao IP ztv:=⟨qam zfx,qGj⟩
abbrev qRX:Type:=List UInt8×Bool
def qZi:PArgs:=⟨[.str],[]⟩
def q1E:List PRes:=[⟨false,.tup [.str,.bool],[]⟩]
def qsK(x0:List UInt8):DT qRX:=
 .bi (pj 0
 (qAV
 (x0,[],[97,98,99,100,101,102,103,104,105,106,107,108,109,110,111,112,113,114,115,116,117,118,119,120,121,122],
 [65,66,67,68,69,70,71,72,73,74,75,76,77,78,79,80,81,82,83,84,85,86,87,88,89,90],0))) (fun y0=>
 .at (([],false)))
 (.bi (pj 1
 (qAV
 (x0,[],[97,98,99,100,101,102,103,104,105,106,107,108,109,110,111,112,113,114,115,116,117,118,119,120,121,122],
 [65,66,67,68,69,70,71,72,73,74,75,76,77,78,79,80,81,82,83,84,85,86,87,88,89,90],0))) (fun y0=>
 .bi (br ((y0.1.length:Int)==3) (br (sm (qe4 y0.2.1)) (some !gv (qe4 y0.2.1)) none) (some false)) (fun y1=>
 .at ((y0.2.1,y1)))
 (.no))
 (.no))
def qoV(x0:List UInt8):Option qRX:=qax (qsK x0).ev
theorem qPb(x0):qoV x0=(qsK x0).ev:=qaa _
theorem zfn:FH IP 26 qZi q1E qoV:=qag (F:=F26) (L:=[(1002600,qMe)]) (t:=qsK) qSP (qac (l:=[qad F26 0]) (by kernel_rfl) ⟨qas (by kernel_rfl) zh5,trivial⟩) (by kernel_rfl) (fun v=>by kernel_rfl) (fun _=>qaa _)
def ztw:Tab:=(26,FE qZi q1E qoV)::ztv
theorem qGk:qao IP ztw:=⟨qam zfn,qSP⟩
abbrev qfK:Type:=List UInt8×Int
def qK1:List PSt:=[⟨[(1013100,.junk),(0,.str),(3,.int .i64)],[],0,0⟩]
def q4D(x0:List UInt8)(x1:Int):X×St:=(.ret,⟨[(2,.bool false)],[],0,0⟩)
def q4E(x0:List UInt8)(x1:Int):X×St:=(.exit 0,⟨[(2,.junk)],[],0,0⟩)
def zjh:List (qfK->X×St):=[(k2 q4D),(k2 q4E)]
def qp1(x0:List UInt8)(x1:Int):DT (Rd qfK):=
 .br (decide (x1<(x0.length:Int)))
 (.br (inB x0.length x1)
 (.bi (br (decide (qai x0 x1<97)) (some true) (br (inB x0.length x1) (some (decide (qai x0 x1>122))) none)) (fun y0=>
 .bi (br y0 (br (inB x0.length x1) (br (decide (qai x0 x1<48)) (some true) (br (inB x0.length x1) (some (decide (qai x0 x1>57))) none)) none) (some false)) (fun y1=>
 .bi (br y1 (br (inB x0.length x1) (some (qai x0 x1 != 95)) none) (some false)) (fun y2=>
 .br (y2) (.at (.done 0)) (.at (.next ((x0,IntKind.i64.wrap (x1+1))))))
 (.no))
 (.no))
 (.no))
 (.no))
 (.at (.done 1))
def qn9:qfK->DT (Rd qfK):=(fun v=>qp1 v.1 v.2)
def qvh(v:qfK):Option (Nat×qfK):=qax (qae (fun v=>(qn9 v).ev) v)
theorem qyS(v):qvh v=qae (fun v=>(qn9 v).ev) v:=qaa _
def qMg:qbS:=LE (τ:=qfK) (hD qK1) (qvh) zjh
theorem zh7:Go.Eng.Told IP (qad zcZ 0).1 (qad zcZ 0).2 (qMg):=lp (inferInstance:Inhabited qfK) (hs:=qK1) qn9 qGk qyS
abbrev qR3:Type:=Bool
def qZp:PArgs:=⟨[.str],[]⟩
def q1L:List PRes:=[⟨false,.bool,[]⟩]
def qsP(x0:List UInt8):DT qR3:=
 .bi (br (decide ((x0.length:Int)<1)) (some true) (some (decide ((x0.length:Int)>16)))) (fun y0=>
 .bi (br y0 (some true) (br (inB x0.length 0) (some (decide (qai x0 0<97))) none)) (fun y1=>
 .bi (br y1 (some true) (br (inB x0.length 0) (some (decide (qai x0 0>122))) none)) (fun y2=>
 .br (y2)
 (.at (false))
 (.bi (pj 0 (qvh (x0,0))) (fun y3=>
 .at (false))
 (.bi (pj 1 (qvh (x0,0))) (fun y3=>
 .at (true))
 (.no))))
 (.no))
 (.no))
 (.no)
def qut(x0:List UInt8):Option qR3:=qax (qsP x0).ev
theorem qPg(x0):qut x0=(qsP x0).ev:=qaa _
theorem zfu:FH IP 131 qZp q1L qut:=qag (F:=zcZ) (L:=[(1013100,qMg)]) (t:=qsP) qGk (qac (l:=[qad zcZ 0]) (by kernel_rfl) ⟨qas (by kernel_rfl) zh7,trivial⟩) (by kernel_rfl) (fun v=>by kernel_rfl) (fun _=>qaa _)
def ztx:Tab:=(131,FE qZp q1L qut)::ztw
theorem qSQ:qao IP ztx:=⟨qam zfu,qGk⟩
abbrev qQ2:Type:=Bool
def qYi:PArgs:=⟨[.str],[]⟩
def q0E:List PRes:=[⟨false,.bool,[]⟩]
def qrL(x0:List UInt8):DT qQ2:=
 .bi (qut x0) (fun y0=>
 .bi (br y0 (br (sm (qe4 x0)) (some !gv (qe4 x0)) none) (some false)) (fun y1=>
 .at (y1))
 (.no))
 (.no)
def qgz(x0:List UInt8):Option qQ2:=qax (qrL x0).ev
theorem qOg(x0):qgz x0=(qrL x0).ev:=qaa _
theorem zeb:FH IP 72 qYi q0E qgz:=fh F72 qrL qSQ
def zty:Tab:=(72,FE qYi q0E qgz)::ztx
theorem qSR:qao IP zty:=⟨qam zeb,qSQ⟩
abbrev qRI:Type:=Bool
def qY3:PArgs:=⟨[.int .i64],[]⟩
def q1p:List PRes:=[⟨false,.bool,[]⟩]
def qsw(x0:Int):DT qRI:=
 .bi (br (decide (x0>=0)) (some (decide (x0<=73048))) (some false)) (fun y0=>
 .at (y0))
 (.no)
def qmA(x0:Int):Option qRI:=qax (qsw x0).ev
theorem qOX(x0):qmA x0=(qsw x0).ev:=qaa _
theorem ze2:FH IP 73 qY3 q1p qmA:=fh F73 qsw qSR
def ztz:Tab:=(73,FE qY3 q1p qmA)::zty
theorem qSS:qao IP ztz:=⟨qam ze2,qSR⟩
abbrev qRV:Type:=List AV
def qZg:PArgs:=⟨[],[]⟩
def q1C:List PRes:=[⟨false,.view 1,[]⟩]
def qsI:DT qRV:=
 .at ([AV.str [97,99,116,51,54,48],AV.str [97,99,116,51,54,53],AV.str [97,99,116,117,97,108],AV.str [116,104,105,114,116,121]])
def qgG:Option qRV:=qax (qsI).ev
theorem qO9:qgG=(qsI).ev:=qaa _
theorem zfl:FH IP 82 qZg q1C (fun _=>qgG):=qag (F:=F82) (L:=[]) (t:=(fun _=>qsI)) qSS (qac (l:=[]) (by kernel_rfl) trivial) (by kernel_rfl) (fun v=>by kernel_rfl) (fun _=>qaa _)
def ztA:Tab:=(82,FE qZg q1C (fun _=>qgG))::ztz
theorem qST:qao IP ztA:=⟨qam zfl,qSS⟩
abbrev qRW:Type:=List AV
def qZh:PArgs:=⟨[],[]⟩
def q1D:List PRes:=[⟨false,.view 1,[]⟩]
def qsJ:DT qRW:=
 .at ([AV.str [100,111,119,110],AV.str [117,112],AV.str [102,108,111,111,114],AV.str [99,101,105,108],AV.str [104,97,108,102,95,117,112],
 AV.str [104,97,108,102,95,101,118,101,110]])
def qgH:Option qRW:=qax (qsJ).ev
theorem qPa:qgH=(qsJ).ev:=qaa _
theorem zfm:FH IP 83 qZh q1D (fun _=>qgH):=qag (F:=F83) (L:=[]) (t:=(fun _=>qsJ)) qST (qac (l:=[]) (by kernel_rfl) trivial) (by kernel_rfl) (fun v=>by kernel_rfl) (fun _=>qaa _)
def ztB:Tab:=(83,FE qZh q1D (fun _=>qgH))::ztA
theorem qGl:qao IP ztB:=⟨qam zfm,qST⟩
abbrev qeF:Type:=Int×List AV×Bool×Int×Int×Bool
def qLc:List PSt:=[⟨[(1007400,.junk),(1,.ref 0 0 0),(3,.int .i64)],[(0,.box [.view 2,.bool,.int .i64,.int .i64,.bool] false)],1,0⟩]
def q4Y(x0:Int)(x1:List AV)(x2:Bool)(x3 x4:Int)(x5:Bool):X×St:=(.ret,⟨[(2,.bool false)],[],0,0⟩)
def q4Z(x0:Int)(x1:List AV)(x2:Bool)(x3 x4:Int)(x5:Bool):X×St:=(.exit 0,⟨[(2,.junk)],[],0,0⟩)
def zjs:List (qeF->X×St):=[(k6 q4Y),(k6 q4Z)]
def qqb(x0:Int)(x1:List AV)(x2:Bool)(x3 x4:Int)(x5:Bool):DT (Rd qeF):=
 .br (decide (x0<(x1.length:Int)))
 (.br (qaD [.int .i64,.int .i64] x1 x0)
 (.bi (br (decide (intOf (cellAt x1 x0 0)<0)) (some true) (br (qaD [.int .i64,.int .i64] x1 x0) (some (decide (intOf (cellAt x1 x0 1)<0))) none)) (fun y0=>
 .bi (br y0 (some true) (br (qaD [.int .i64,.int .i64] x1 x0) (some (decide (intOf (cellAt x1 x0 1)>1000000))) none)) (fun y1=>
 .br (y1) (.at (.done 0)) (.at (.next ((IntKind.i64.wrap (x0+1),x1,x2,x3,x4,x5)))))
 (.no))
 (.no))
 (.no))
 (.at (.done 1))
def qoc:qeF->DT (Rd qeF):=(fun v=>qqb v.1 v.2.1 v.2.2.1 v.2.2.2.1 v.f.1 v.f.2)
def qvk(v:qeF):Option (Nat×qeF):=qax (qae (fun v=>(qoc v).ev) v)
theorem qyX(v):qvk v=qae (fun v=>(qoc v).ev) v:=qaa _
def qMr:qbS:=LE (τ:=qeF) (hD qLc) (qvk) zjs
theorem zii:Go.Eng.Told IP (qad F74 0).1 (qad F74 0).2 (qMr):=lp (inferInstance:Inhabited qeF) (hs:=qLc) qoc qGl qyX
abbrev qSk:Type:=Bool
def qZH:PArgs:=⟨[.agg [.view 2,.bool,.int .i64,.int .i64,.bool]],[]⟩
def q2c:List PRes:=[⟨false,.bool,[]⟩]
def qs6(x0:List AV)(x1:Bool)(x2 x3:Int)(x4:Bool):DT qSk:=
 .br (decide (x2<1))
 (.at (false))
 (.bi (qgG) (fun y0=>
 .br (decide (x2>(y0.length:Int)))
 (.at (false))
 (.br (decide (x3<1))
 (.at (false))
 (.bi (qgH) (fun y1=>
 .br (decide (x3>(y1.length:Int)))
 (.at (false))
 (.bi (pj 0 (qvk (0,x0,x1,x2,x3,x4))) (fun y2=>
 .at (false))
 (.bi (pj 1 (qvk (0,x0,x1,x2,x3,x4))) (fun y2=>
 .at (true))
 (.no))))
 (.no))))
 (.no))
def qkh(x0:List AV)(x1:Bool)(x2 x3:Int)(x4:Bool):Option qSk:=qax (qs6 x0 x1 x2 x3 x4).ev
theorem qPw(x0 x1 x2 x3 x4):qkh x0 x1 x2 x3 x4=(qs6 x0 x1 x2 x3 x4).ev:=qaa _
theorem zfM:FH IP 74 qZH q2c (k5 qkh):=qag (F:=F74) (L:=[(1007400,qMr)]) (t:=(k5 qs6)) qGl (qac (l:=[qad F74 0]) (by kernel_rfl) ⟨qas (by kernel_rfl) zii,trivial⟩) (by kernel_rfl) (fun v=>by kernel_rfl) (fun _=>qaa _)
def ztC:Tab:=(74,FE qZH q2c (k5 qkh))::ztB
theorem qSV:qao IP ztC:=⟨qam zfM,qGl⟩
abbrev qRv:Type:=List AV
def qYR:PArgs:=⟨[],[]⟩
def q1d:List PRes:=[⟨false,.view 1,[]⟩]
def qsm:DT qRv:=
 .at ([AV.str [109,111,110,116,104],AV.str [100,101,98,105,116],AV.str [114,101,116,117,114,110],AV.str [99,108,111,115,101]])
def qkc:Option qRv:=qax (qsm).ev
theorem qON:qkc=(qsm).ev:=qaa _
theorem zeN:FH IP 35 qYR q1d (fun _=>qkc):=qag (F:=F35) (L:=[]) (t:=(fun _=>qsm)) qSV (qac (l:=[]) (by kernel_rfl) trivial) (by kernel_rfl) (fun v=>by kernel_rfl) (fun _=>qaa _)
def zpQ:Tab:=(35,FE qYR q1d (fun _=>qkc))::ztC
theorem qSW:qao IP zpQ:=⟨qam zeN,qSV⟩
abbrev qF5:Type:=Int
def qvP:PArgs:=⟨[.agg [.int .i64,.int .i64,.str,.view 4]],[]⟩
def qwg:List PRes:=[⟨false,.int .i64,[]⟩]
abbrev qdI:Type:=Int->Int->(List UInt8)->(List AV)->Option qF5
def qzU(G_u247q:qdI):Prop:=FH IP 132 qvP qwg (k4 G_u247q)
def q5k(G_u247q:qdI):Tab:=(132,FE qvP qwg (k4 G_u247q))::zpQ
theorem qtt(G_u247q:qdI)(hG:qzU G_u247q):qao IP (q5k G_u247q):=⟨qam (hG),qSW⟩
abbrev qfB:Type:=Int×Int×Int×Int×List UInt8×List AV
def qKN:List PSt:=[⟨[(1013200,.junk),(1,.ref 0 0 0),(3,.int .i64),(4,.int .i64)],[(0,.box [.int .i64,.int .i64,.str,.view 4] false)],1,0⟩]
def q39(x0 x1:Int)(x2 x3:Int)(x4:List UInt8)(x5:List AV):X×St:=(.exit 0,⟨[(3,.int .i64 x0)],[],0,0⟩)
def zi3:List (qfB->X×St):=[(k6 q39)]
def qpS(G_u247q:qdI)(x0 x1:Int)(x2 x3:Int)(x4:List UInt8)(x5:List AV):DT (Rd qfB):=
 .br (decide (x1<(x5.length:Int)))
 (.br (qaD [.int .i64,.int .i64,.str,.slice 4] x5 x1)
 (.bi (G_u247q (intOf (cellAt x5 x1 0)) (intOf (cellAt x5 x1 1)) (strOf (cellAt x5 x1 2)) (qap (cellAt x5 x1 3))) (fun y0=>
 .at (.next ((if y0>x0 then y0 else x0,IntKind.i64.wrap (x1+1),x2,x3,x4,x5))))
 (.no))
 (.no))
 (.at (.done 0))
def qn3(G_u247q:qdI):qfB->DT (Rd qfB):=(fun v=>qpS G_u247q v.1 v.2.1 v.2.2.1 v.2.2.2.1 v.f.1 v.f.2)
def qAT(G_u247q:qdI)(v:qfB):Option (Nat×qfB):=qax (qae (fun v=>(qn3 G_u247q v).ev) v)
theorem qyI(G_u247q v):qAT G_u247q v=qae (fun v=>(qn3 G_u247q v).ev) v:=qaa _
def qL3(G_u247q:qdI):qbS:=LE (τ:=qfB) (hD qKN) (qAT G_u247q) zi3
theorem zhU(G_u247q:qdI)(hG:qzU G_u247q):Go.Eng.Told IP (qad zc0 0).1 (qad zc0 0).2 (qL3 G_u247q):=qat (inferInstance:Inhabited qfB) (hs:=qKN) (st:=qn3 G_u247q) (L:=[]) (qtt G_u247q hG) (qac (l:=[]) (by kernel_rfl) trivial) (qyI G_u247q) (fun v=>by kernel_rfl) (fun v=>by kernel_rfl)
def qCa(G_u247q:qdI)(x0 x1:Int)(x2:List UInt8)(x3:List AV):DT qF5:=
 .bi (pj 0 (qAT G_u247q (0,0,x0,x1,x2,x3))) (fun y0=>
 .at (IntKind.i64.wrap (y0.1+1)))
 (.no)
def qhy:Nat->qdI
 |0=>fun _ _ _ _=>none
 |n+1=>fun x0 x1 x2 x3=>(qCa ((qhy n)) x0 x1 x2 x3).ev
def quk(x0 x1:Int)(x2:List UInt8)(x3:List AV):Option qF5:=qjW fun n=>(qhy n) x0 x1 x2 x3
theorem qxG:∀n,qzU ((qhy n))
 |0=>(fun v y h=>nomatch h)
 |n+1=>have hG:=qxG n
 qag (F:=zc0) (L:=[(1013200,qL3 ((qhy n)))]) (t:=(k4 (qCa ((qhy n))))) (qtt ((qhy n)) hG) (qac (l:=[qad zc0 0]) (by kernel_rfl) ⟨qas (by kernel_rfl) (zhU ((qhy n)) hG),trivial⟩) (by kernel_rfl) (fun v=>by kernel_rfl) (fun v=>rfl)
theorem ze8:FH IP 132 qvP qwg (k4 quk):=qbM (p:=qvP) (rs:=qwg) (s:=fun n=>(k4 ((qhy n)))) fun n=>(qxG n)
def ztD:Tab:=(132,FE qvP qwg (k4 quk))::zpQ
theorem qSX:qao IP ztD:=⟨qam ze8,qSW⟩
abbrev qQ0:Type:=Int
def qYg:PArgs:=⟨[.int .i64],[]⟩
def q0C:List PRes:=[⟨false,.int .i64,[]⟩]
def qrJ(x0:Int):DT qQ0:=
 .bi (br (decide (x0<1)) (some true) (some (decide (x0>19)))) (fun y0=>
 .br (y0)
 (.at (-1))
 (.br (decide (x0<=4))
 (.at (0))
 (.bi (br (x0==9) (some true) (some (x0==16))) (fun y1=>
 .br (y1)
 (.at (1))
 (.br (x0==19) (.at (3)) (.at (2))))
 (.no))))
 (.no)
def qtS(x0:Int):Option qQ0:=qax (qrJ x0).ev
theorem qOe(x0):qtS x0=(qrJ x0).ev:=qaa _
theorem zd9:FH IP 192 qYg q0C qtS:=fh zoS qrJ qSX
def ztE:Tab:=(192,FE qYg q0C qtS)::ztD
theorem qSY:qao IP ztE:=⟨qam zd9,qSX⟩
abbrev qSc:Type:=Int
def qZy:PArgs:=⟨[.int .i64],[]⟩
def q1U:List PRes:=[⟨false,.int .i64,[]⟩]
def qsX(x0:Int):DT qSc:=
 .br (x0==1)
 (.at (9223372036854775807))
 (.br (x0==2)
 (.at (1000000000000))
 (.br (x0==3) (.at (1000000)) (.at (0))))
def quz(x0:Int):Option qSc:=qax (qsX x0).ev
theorem qPn(x0):quz x0=(qsX x0).ev:=qaa _
theorem zfE:FH IP 193 qZy q1U quz:=fh zoT qsX qSY
def zpR:Tab:=(193,FE qZy q1U quz)::ztE
theorem qSZ:qao IP zpR:=⟨qam zfE,qSY⟩
abbrev qF7:Type:=Bool
def qvT:PArgs:=⟨[.agg [.int .i64,.int .i64,.str,.view 4]],[]⟩
def qwk:List PRes:=[⟨false,.bool,[]⟩]
abbrev qdK:Type:=Int->Int->(List UInt8)->(List AV)->Option qF7
def qzX(G_u253q:qdK):Prop:=FH IP 133 qvT qwk (k4 G_u253q)
def q5o(G_u253q:qdK):Tab:=(133,FE qvT qwk (k4 G_u253q))::zpR
theorem qtw(G_u253q:qdK)(hG:qzX G_u253q):qao IP (q5o G_u253q):=⟨qam (hG),qSZ⟩
abbrev qfD:Type:=Int×Int×Int×List UInt8×List AV
def qKS:List PSt:=[⟨[(1013300,.junk),(1,.ref 0 0 0),(3,.int .i64)],[(0,.box [.int .i64,.int .i64,.str,.view 4] false)],1,0⟩]
def q4n(x0 x1 x2:Int)(x3:List UInt8)(x4:List AV):X×St:=(.ret,⟨[(2,.bool false)],[],0,0⟩)
def q4o(x0 x1 x2:Int)(x3:List UInt8)(x4:List AV):X×St:=(.exit 0,⟨[(2,.junk)],[],0,0⟩)
def zi8:List (qfD->X×St):=[(k5 q4n),(k5 q4o)]
def qpW(G_u253q:qdK)(x0 x1 x2:Int)(x3:List UInt8)(x4:List AV):DT (Rd qfD):=
 .br (decide (x0<(x4.length:Int)))
 (.br (qaD [.int .i64,.int .i64,.str,.slice 4] x4 x0)
 (.bi (G_u253q (intOf (cellAt x4 x0 0)) (intOf (cellAt x4 x0 1)) (strOf (cellAt x4 x0 2)) (qap (cellAt x4 x0 3))) (fun y0=>
 .br (!y0) (.at (.done 0)) (.at (.next ((IntKind.i64.wrap (x0+1),x1,x2,x3,x4)))))
 (.no))
 (.no))
 (.at (.done 1))
def qn4(G_u253q:qdK):qfD->DT (Rd qfD):=(fun v=>qpW G_u253q v.1 v.2.1 v.2.2.1 v.2.2.2.1 v.f)
def qmS(G_u253q:qdK)(v:qfD):Option (Nat×qfD):=qax (qae (fun v=>(qn4 G_u253q v).ev) v)
theorem qyJ(G_u253q v):qmS G_u253q v=qae (fun v=>(qn4 G_u253q v).ev) v:=qaa _
def qL8(G_u253q:qdK):qbS:=LE (τ:=qfD) (hD qKS) (qmS G_u253q) zi8
theorem zhZ(G_u253q:qdK)(hG:qzX G_u253q):Go.Eng.Told IP (qad zc1 0).1 (qad zc1 0).2 (qL8 G_u253q):=qat (inferInstance:Inhabited qfD) (hs:=qKS) (st:=qn4 G_u253q) (L:=[]) (qtw G_u253q hG) (qac (l:=[]) (by kernel_rfl) trivial) (qyJ G_u253q) (fun v=>by kernel_rfl) (fun v=>by kernel_rfl)
def qCd(G_u253q:qdK)(x0 x1:Int)(x2:List UInt8)(x3:List AV):DT qF7:=
 .bi (qtS x0) (fun y0=>
 .br ((x3.length:Int) != y0)
 (.at (false))
 (.br (decide (x1<0))
 (.at (false))
 (.bi (quz x0) (fun y1=>
 .br (decide (x1>y1))
 (.at (false))
 (.br (x0 != 4)
 (.br (!x2== [])
 (.at (false))
 (.bi (pj 0 (qmS G_u253q (0,x0,x1,x2,x3))) (fun y2=>
 .at (false))
 (.bi (pj 1 (qmS G_u253q (0,x0,x1,x2,x3))) (fun y2=>
 .at (true))
 (.no))))
 (.bi (pj 0 (qmS G_u253q (0,x0,x1,x2,x3))) (fun y2=>
 .at (false))
 (.bi (pj 1 (qmS G_u253q (0,x0,x1,x2,x3))) (fun y2=>
 .at (true))
 (.no)))))
 (.no))))
 (.no)
def qgl:Nat->qdK
 |0=>fun _ _ _ _=>none
 |n+1=>fun x0 x1 x2 x3=>(qCd ((qgl n)) x0 x1 x2 x3).ev
def qAB(x0 x1:Int)(x2:List UInt8)(x3:List AV):Option qF7:=qjW fun n=>(qgl n) x0 x1 x2 x3
theorem qxJ:∀n,qzX ((qgl n))
 |0=>(fun v y h=>nomatch h)
 |n+1=>have hG:=qxJ n
 qag (F:=zc1) (L:=[(1013300,qL8 ((qgl n)))]) (t:=(k4 (qCd ((qgl n))))) (qtw ((qgl n)) hG) (qac (l:=[qad zc1 0]) (by kernel_rfl) ⟨qas (by kernel_rfl) (zhZ ((qgl n)) hG),trivial⟩) (by kernel_rfl) (fun v=>by kernel_rfl) (fun v=>rfl)
theorem zfe:FH IP 133 qvT qwk (k4 qAB):=qbM (p:=qvT) (rs:=qwk) (s:=fun n=>(k4 ((qgl n)))) fun n=>(qxJ n)
def ztF:Tab:=(133,FE qvT qwk (k4 qAB))::zpR
theorem qGm:qao IP ztF:=⟨qam zfe,qSZ⟩
abbrev qfr:Type:=List AV×List UInt8×Int
def qKD:List PSt:=[⟨[(1019400,.junk),(0,.view 1),(1,.str),(5,.int .i64)],[],0,0⟩]
def q3W(x0:List AV)(x1:List UInt8)(x2:Int):X×St:=(.exit 0,⟨[(0,.view 1 x0),(1,.str x1),(5,.int .i64 x2)],[],0,0⟩)
def ziT:List (qfr->X×St):=[(k3 q3W)]
def qlG(x0:List AV)(x1:List UInt8)(x2:Int):DT (Rd qfr):=
 .bi (br (decide (x2<(x0.length:Int))) (br (qaD [.str] x0 x2) (some (qbl (strOf (cellAt x0 x2 0)) x1)) none) (some false)) (fun y0=>
 .br (y0) (.at (.next ((x0,x1,IntKind.i64.wrap (x2+1))))) (.at (.done 0)))
 (.no)
def qlF:qfr->DT (Rd qfr):=(fun v=>qlG v.1 v.2.1 v.2.2)
def qAO(v:qfr):Option (Nat×qfr):=qax (qae (fun v=>(qlF v).ev) v)
theorem qyy(v):qAO v=qae (fun v=>(qlF v).ev) v:=qaa _
def qLT:qbS:=LE (τ:=qfr) (hD qKD) (qAO) ziT
theorem zhK:Go.Eng.Told IP (qad zdd 0).1 (qad zdd 0).2 (qLT):=lp (inferInstance:Inhabited qfr) (hs:=qKD) qlF qGm qyy
abbrev qRt:Type:=List AV
def qYP:PArgs:=⟨[.view 1,.str],[]⟩
def q1b:List PRes:=[⟨false,.view 1,[]⟩]
def qsk(x0:List AV)(x1:List UInt8):DT qRt:=
 .bi (pj 0 (qAO (x0,x1,0))) (fun y0=>
 .bi (br (decide (y0.2.2<(y0.1.length:Int))) (br (qaD [.str] y0.1 y0.2.2) (some (strOf (cellAt y0.1 y0.2.2 0)==y0.2.1)) none) (some false)) (fun y1=>
 .br (y1)
 (.at (y0.1))
 (.br (leB y0.2.2 y0.1.length&&true)
 (.br (decide ((List.take y0.2.2.toNat y0.1).length=0)&&decide (1=1))
 (.br (leB y0.2.2 y0.1.length)
 (.br (decide ((List.drop y0.2.2.toNat y0.1).length=0)&&decide (1=1))
 (.at ([AV.str y0.2.1]))
 (.br (decide ((List.drop y0.2.2.toNat y0.1).length≠0)&&room (1+(List.drop y0.2.2.toNat y0.1).length) 16)
 (.at (AV.str y0.2.1::List.drop y0.2.2.toNat y0.1))
 (.no)))
 (.no))
 (.br (decide ((List.take y0.2.2.toNat y0.1).length≠0)&&room (List.take y0.2.2.toNat y0.1).length 16)
 (.br (room ((List.take y0.2.2.toNat y0.1).length+1) 16)
 (.br (leB y0.2.2 y0.1.length)
 (.br (decide ((List.drop y0.2.2.toNat y0.1).length=0)&&decide (1=1))
 (.at (List.take y0.2.2.toNat y0.1++[AV.str y0.2.1]))
 (.br (decide ((List.drop y0.2.2.toNat y0.1).length≠0)&&room ((List.take y0.2.2.toNat y0.1++[AV.str y0.2.1]).length+(List.drop y0.2.2.toNat y0.1).length) 16)
 (.at (List.take y0.2.2.toNat y0.1++[AV.str y0.2.1]++List.drop y0.2.2.toNat y0.1))
 (.no)))
 (.no))
 (.no))
 (.no)))
 (.no)))
 (.no))
 (.no)
def qkb(x0:List AV)(x1:List UInt8):Option qRt:=qax (qsk x0 x1).ev
theorem qOL(x0 x1):qkb x0 x1=(qsk x0 x1).ev:=qaa _
theorem zeL:FH IP 194 qYP q1b (k2 qkb):=qag (F:=zdd) (L:=[(1019400,qLT)]) (t:=(k2 qsk)) qGm (qac (l:=[qad zdd 0]) (by kernel_rfl) ⟨qas (by kernel_rfl) zhK,trivial⟩) (by kernel_rfl) (fun v=>by kernel_rfl) (fun _=>qaa _)
def zpS:Tab:=(194,FE qYP q1b (k2 qkb))::ztF
theorem qGn:qao IP zpS:=⟨qam zeL,qGm⟩
abbrev qdd:Type:=(Int×List AV×Int×Int×Int×List UInt8×List AV×List AV)⊕(Int×List AV×Int×Int×Int×List UInt8×List AV)⊕(List AV×Int×List AV×Int×Int×Int×List UInt8×List AV)
def qKP:List PSt:=[⟨[(1013401,.junk),(1,.ref 0 0 0),(3,.own 1 0),(4,.int .i64),(5,.view 1),(6,.int .i64)],[(0,.box [.int .i64,.int .i64,.str,.view 4] false),(1,.arr 1 false)],2,0⟩,⟨[(1013401,.junk),(1,.ref 0 0 0),(3,.nils 1),(4,.int .i64),(5,.view 1),(6,.int .i64)],[(0,.box [.int .i64,.int .i64,.str,.view 4] false)],1,0⟩,⟨[(1013401,.junk),(1,.ref 0 0 0),(3,.view 1),(4,.int .i64),(5,.view 1),(6,.int .i64)],[(0,.box [.int .i64,.int .i64,.str,.view 4] false)],1,0⟩]
def q4d(x0:Int)(x1:List AV)(x2 x3 x4:Int)(x5:List UInt8)(x6 x7:List AV):X×St:=(.exit 2,
 ⟨[(1,.ref 0 0 0),(3,.own 1 0 none),(4,.int .i64 x0)],[(0,.box [.int .i64 x3,.int .i64 x4,.str x5,.view 4 x6] false),(1,.arr 1 x7 false)],2,0⟩)
def q4e(x0:Int)(x1:List AV)(x2 x3 x4:Int)(x5:List UInt8)(x6:List AV):X×St:=(.exit 2,
 ⟨[(1,.ref 0 0 0),(3,.nils ⟨1,.nil⟩),(4,.int .i64 x0)],[(0,.box [.int .i64 x3,.int .i64 x4,.str x5,.view 4 x6] false)],1,0⟩)
def q4f(x0:List AV)(x1:Int)(x2:List AV)(x3 x4 x5:Int)(x6:List UInt8)(x7:List AV):X×St:=(.exit 2,
 ⟨[(1,.ref 0 0 0),(3,.view 1 x0),(4,.int .i64 x1)],[(0,.box [.int .i64 x4,.int .i64 x5,.str x6,.view 4 x7] false)],1,0⟩)
def zi5:List (qdd->X×St):=[fun w=>(k8 q4d) ((sl w)),fun w=>(k7 q4e) ((sl (sr w))),fun w=>(k8 q4f) ((sr (sr w)))]
def qpT(x0:Int)(x1:List AV)(x2 x3 x4:Int)(x5:List UInt8)(x6 x7:List AV):DT (Rd qdd):=
 .br (decide (x2<(x1.length:Int)))
 (.br (qaD [.str] x1 x2)
 (.bi (qkb x7 (strOf (cellAt x1 x2 0))) (fun y0=>
 .at (.next ((.inr (.inr (y0,x0,x1,IntKind.i64.wrap (x2+1),x3,x4,x5,x6))))))
 (.no))
 (.no))
 (.at (.done 0))
def qpU(x0:Int)(x1:List AV)(x2 x3 x4:Int)(x5:List UInt8)(x6:List AV):DT (Rd qdd):=
 .br (decide (x2<(x1.length:Int)))
 (.br (qaD [.str] x1 x2)
 (.bi (qkb [] (strOf (cellAt x1 x2 0))) (fun y0=>
 .at (.next ((.inr (.inr (y0,x0,x1,IntKind.i64.wrap (x2+1),x3,x4,x5,x6))))))
 (.no))
 (.no))
 (.at (.done 1))
def qpV(x0:List AV)(x1:Int)(x2:List AV)(x3 x4 x5:Int)(x6:List UInt8)(x7:List AV):DT (Rd qdd):=
 .br (decide (x3<(x2.length:Int)))
 (.br (qaD [.str] x2 x3)
 (.bi (qkb x0 (strOf (cellAt x2 x3 0))) (fun y0=>
 .at (.next ((.inr (.inr (y0,x1,x2,IntKind.i64.wrap (x3+1),x4,x5,x6,x7))))))
 (.no))
 (.no))
 (.at (.done 2))
def qeH:qdd->DT (Rd qdd):=(Sum.elim (fun v=>qpT v.1 v.2.1 v.2.2.1 v.2.2.2.1 v.f.1 v.f.2.1 v.f.2.2.1 v.f.2.2.2) (Sum.elim (fun v=>qpU v.1 v.2.1 v.2.2.1 v.2.2.2.1 v.f.1 v.f.2.1 v.f.2.2) (fun v=>qpV v.1 v.2.1 v.2.2.1 v.2.2.2.1 v.f.1 v.f.2.1 v.f.2.2.1 v.f.2.2.2)))
def qeq(v:qdd):Option (Nat×qdd):=qax (qae (fun v=>(qeH v).ev) v)
theorem qpe(v):qeq v=qae (fun v=>(qeH v).ev) v:=qaa _
def qL5:qbS:=LE (τ:=qdd) (hD qKP) (qeq) zi5
theorem zhW:Go.Eng.Told IP (qad qSH 1).1 (qad qSH 1).2 (qL5):=qat (inferInstance:Inhabited qdd) (hs:=qKP) (st:=qeH) (L:=[]) qGn (qac (l:=[]) (by kernel_rfl) trivial) (qpe) (fun v=>match v with|(.inl v)=>by kernel_rfl|(.inr (.inl v))=>by kernel_rfl|(.inr (.inr v))=>by kernel_rfl) (fun v=>match v with|(.inl v)=>by kernel_rfl|(.inr (.inl v))=>by kernel_rfl|(.inr (.inr v))=>by kernel_rfl)
abbrev qtk:Type:=List AV
def qvQ:PArgs:=⟨[.agg [.int .i64,.int .i64,.str,.view 4]],[]⟩
def qwh:List PRes:=[⟨false,.view 1,[]⟩]
abbrev qcS:Type:=Int->Int->(List UInt8)->(List AV)->Option qtk
def qzV(G_u249q:qcS):Prop:=FH IP 134 qvQ qwh (k4 G_u249q)
def q5l(G_u249q:qcS):Tab:=(134,FE qvQ qwh (k4 G_u249q))::zpS
theorem qtu(G_u249q:qcS)(hG:qzV G_u249q):qao IP (q5l G_u249q):=⟨qam (hG),qGn⟩
end
end Go.Proofs.H16

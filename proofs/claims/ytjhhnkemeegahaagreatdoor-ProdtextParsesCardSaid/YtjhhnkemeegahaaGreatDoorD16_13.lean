/- Functions over plain data. Printed by a program of mine. -/
import Derived.Test.YtjhhnkemeegahaaGreatDoorD16_6
set_option linter.all false
namespace Go.Proofs.H16
open Go Go.Eng
set_option maxRecDepth 100000
noncomputable section
def qq3(x0:List AV)(x1 x2 x3:Int)(x4:List UInt8):DT Bool:=
 .bi (br (x2==0) (some (decide (x1<(x0.length:Int)))) (some false)) (fun y0=>
 .bi (br y0 (br (qaG [.int .i64,.int .i64,.str] x0 x1) (some (intOf (cellAt x0 x1 0)==x3)) none) (some false)) (fun y1=>
 .bi (br y1 (br (qaG [.int .i64,.int .i64,.str] x0 x1) (some (strOf (cellAt x0 x1 2)==x4)) none) (some false)) (fun y2=>
 .at (y2))
 (.no))
 (.no))
 (.no)
def qdu(x0:List AV)(x1 x2 x3:Int)(x4:List UInt8):=qaC (qq3 x0 x1 x2 x3 x4).ev
theorem qMs(x0 x1 x2 x3 x4):qdu x0 x1 x2 x3 x4=(qq3 x0 x1 x2 x3 x4).ev:=qaa _
theorem zcM:FH IP 109 ⟨[.agg [.view 3,.int .i64,.int .i64],.int .i64,.str],[]⟩ [⟨false,.bool,[]⟩] (k5 qdu):=fh zl1 (k5 qq3) zrG
def zrL:=zrG.a zcM
def qm4(x0:List AV)(x1 x2:Int)(x3 x4:Int):DT (List AV×Int×Int):=
 .br (x2==0) (.at ((x0,x3,x4))) (.at ((x0,x1,x2)))
def qbN(x0:List AV)(x1 x2:Int)(x3 x4:Int):=qaC (qm4 x0 x1 x2 x3 x4).ev
theorem qvE(x0 x1 x2 x3 x4):qbN x0 x1 x2 x3 x4=(qm4 x0 x1 x2 x3 x4).ev:=qaa _
theorem zbR:FH IP 44 ⟨[.agg [.view 3,.int .i64,.int .i64],.int .i64,.int .i64],[]⟩ [⟨false,.agg [.view 3,.int .i64,.int .i64],[]⟩] (k5 qbN):=fh F44 (k5 qm4) zrL
def zrM:=zrL.a zbR
def qqw(x0:List AV)(x1 x2 x3:Int)(x4:List UInt8):DT (List AV×Int×Int):=
 .br (x2 != 0)
 (.at ((x0,x1,x2)))
 (.bi (qdu x0 x1 x2 x3 x4) (fun y0=>
 .br (!y0)
 (.bi (qbN x0 x1 x2 x1 2) (fun y1=>
 .at ((y1)))
 (.no))
 (.at ((x0,IntKind.i64.wrap (x1+1),x2))))
 (.no))
def qaM(x0:List AV)(x1 x2 x3:Int)(x4:List UInt8):=qaC (qqw x0 x1 x2 x3 x4).ev
theorem qLW(x0 x1 x2 x3 x4):qaM x0 x1 x2 x3 x4=(qqw x0 x1 x2 x3 x4).ev:=qaa _
theorem zbQ:FH IP 102 ⟨[.agg [.view 3,.int .i64,.int .i64],.int .i64,.str],[]⟩ [⟨false,.agg [.view 3,.int .i64,.int .i64],[]⟩] (k5 qaM):=fh zlV (k5 qqw) zrM
def zrN:=zrM.a zbQ
abbrev qDm:Type:=List AV×Int×Int×List UInt8
def qq4(x0:List AV)(x1 x2 x3:Int):DT qDm:=
 .br (x2 != 0)
 (.at ((x0,x1,x2,[])))
 (.bi (br (decide (x1>=(x0.length:Int))) (some true) (br (qaG [.int .i64,.int .i64,.str] x0 x1) (some (intOf (cellAt x0 x1 0) != x3)) none)) (fun y0=>
 .br (y0)
 (.bi (qbN x0 x1 x2 x1 2) (fun y1=>
 .at ((y1.1,y1.2.1,y1.2.2,[])))
 (.no))
 (.br (qaG [.int .i64,.int .i64,.str] x0 x1) (.at ((x0,IntKind.i64.wrap (x1+1),x2,strOf (cellAt x0 x1 2)))) (.no)))
 (.no))
def qc3(x0:List AV)(x1 x2 x3:Int):=qaC (qq4 x0 x1 x2 x3).ev
theorem qMt(x0 x1 x2 x3):qc3 x0 x1 x2 x3=(qq4 x0 x1 x2 x3).ev:=qaa _
theorem zcP:FH IP 101 ⟨[.agg [.view 3,.int .i64,.int .i64],.int .i64],[]⟩ [⟨false,.tup [.agg [.view 3,.int .i64,.int .i64],.str],[]⟩] (k4 qc3):=fh zlU (k4 qq4) zrN
def zrO:=zrN.a zcP
abbrev qeO:Type:=List UInt8×List UInt8×List UInt8×List UInt8×Int
def qHU:List PSt:=[⟨[(1016600,.junk),(0,.str),(4,.str),(5,.str),(6,.str),(7,.int .i64)],[],0,0⟩]
def q0Q(x0 x1:List UInt8)(x2 x3:List UInt8)(x4:Int):X×St:=(.ret,⟨[(0,.str x0),(2,.str []),(3,.bool false),(4,.str x1)],[],0,0⟩)
def q0R(x0 x1:List UInt8)(x2 x3:List UInt8)(x4:Int):X×St:=(.exit 0,⟨[(0,.str x0),(2,.junk),(3,.junk),(4,.str x1)],[],0,0⟩)
def zfI:List (qeO->X×St):=[(k5 q0Q),(k5 q0R)]
def qdY(x0 x1:List UInt8)(x2 x3:List UInt8)(x4:Int):DT (Rd qeO):=
 .br (decide (x4<(x0.length:Int)))
 (.br (inB x0.length x4)
 (.bi (br (decide (qal x0 x4<97)) (some true) (br (inB x0.length x4) (some (decide (qal x0 x4>122))) none)) (fun y0=>
 .br (y0)
 (.at (.done 0))
 (.br (inB x0.length x4)
 (.br (inB x2.length 0)
 (.br (leB (IntKind.i64.wrap (IntKind.i64.wrap (IntKind.u8.wrap (qal x0 x4-qal x2 0))+1)) x3.length &&
 leB (IntKind.i64.wrap (IntKind.u8.wrap (qal x0 x4-qal x2 0))) (IntKind.i64.wrap (IntKind.i64.wrap (IntKind.u8.wrap (qal x0 x4-qal x2 0))+1)).toNat)
 (.br (decide
 (x1.length +
 (List.take
 ((IntKind.i64.wrap (IntKind.i64.wrap (IntKind.u8.wrap (qal x0 x4-qal x2 0))+1)).toNat-(IntKind.i64.wrap (IntKind.u8.wrap (qal x0 x4-qal x2 0))).toNat)
 (List.drop (IntKind.i64.wrap (IntKind.u8.wrap (qal x0 x4-qal x2 0))).toNat x3)).length <=
 4611686018427387904))
 (.at (.next ((x0,x1 ++
 List.take
 ((IntKind.i64.wrap (IntKind.i64.wrap (IntKind.u8.wrap (qal x0 x4-qal x2 0))+1)).toNat-(IntKind.i64.wrap (IntKind.u8.wrap (qal x0 x4-qal x2 0))).toNat)
 (List.drop (IntKind.i64.wrap (IntKind.u8.wrap (qal x0 x4-qal x2 0))).toNat x3),x2,x3,IntKind.i64.wrap (x4+1)))))
 (.no))
 (.no))
 (.no))
 (.no)))
 (.no))
 (.no))
 (.at (.done 1))
def qgN:qeO->DT (Rd qeO):=(fun v=>qdY v.1 v.2.1 v.2.2.1 v.2.2.2.1 v.f)
def qyf(v:qeO):=lo qgN v
theorem qvW(v):qyf v=qae (fun v=>(qgN v).ev) v:=qaa _
def qI7:qbJ:=LE (τ:=qeO) (hD qHU) (qyf) zfI
theorem zeE:TL IP zad 0 qI7:=lp (ih qeO) (hs:=qHU) qgN zrO qvW
def qqf(x0:List UInt8):DT (List UInt8×Bool):=
 .bi (pj 0
 (qyf
 (x0,[],[97,98,99,100,101,102,103,104,105,106,107,108,109,110,111,112,113,114,115,116,117,118,119,120,121,122],
 [65,66,67,68,69,70,71,72,73,74,75,76,77,78,79,80,81,82,83,84,85,86,87,88,89,90],0))) (fun y0=>
 .at (([],false)))
 (.bi (pj 1
 (qyf
 (x0,[],[97,98,99,100,101,102,103,104,105,106,107,108,109,110,111,112,113,114,115,116,117,118,119,120,121,122],
 [65,66,67,68,69,70,71,72,73,74,75,76,77,78,79,80,81,82,83,84,85,86,87,88,89,90],0))) (fun y0=>
 .at ((y0.2.1,(y0.1.length:Int)==3)))
 (.no))
def qrR(x0:List UInt8):=qaC (qqf x0).ev
theorem qLE(x0):qrR x0=(qqf x0).ev:=qaa _
theorem zbv:FH IP 166 ⟨[.str],[]⟩ [⟨false,.tup [.str,.bool],[]⟩] qrR:=f1 zad 1016600 zeE qqf zrO
def zrP:=zrO.a zbv
abbrev qPU:Type:=List AV×Int×Int×List UInt8
def qAo(x0:List AV)(x1 x2:Int):DT qPU:=
 .bi (qc3 x0 x1 x2 1) (fun y0=>
 .bi (qrR y0.2.2.2) (fun y1=>
 .bi (br (y0.2.2.1==0) (some !y1.2) (some false)) (fun y2=>
 .br (y2)
 (.bi (qbN y0.1 y0.2.1 y0.2.2.1 x1 2) (fun y3=>
 .at ((y3.1,y3.2.1,y3.2.2,[])))
 (.no))
 (.at ((y0.1,y0.2.1,y0.2.2.1,y1.1))))
 (.no))
 (.no))
 (.no)
def qBg(x0:List AV)(x1 x2:Int):=qaC (qAo x0 x1 x2).ev
theorem qST(x0 x1 x2):qBg x0 x1 x2=(qAo x0 x1 x2).ev:=qaa _
theorem ziG:FH IP 103 ⟨[.agg [.view 3,.int .i64,.int .i64]],[]⟩ [⟨false,.tup [.agg [.view 3,.int .i64,.int .i64],.str],[]⟩] (k3 qBg):=fh zlW (k3 qAo) zrP
def zrQ:=zrP.a ziG
def qqu(x0:List AV)(x1 x2:Int):DT (List AV×Int×Int):=
 .bi (qaM x0 x1 x2 4 [59]) (fun y0=>
 .at ((y0)))
 (.no)
def qcy(x0:List AV)(x1 x2:Int):=qaC (qqu x0 x1 x2).ev
theorem qLU(x0 x1 x2):qcy x0 x1 x2=(qqu x0 x1 x2).ev:=qaa _
theorem zbO:FH IP 104 ⟨[.agg [.view 3,.int .i64,.int .i64]],[]⟩ [⟨false,.agg [.view 3,.int .i64,.int .i64],[]⟩] (k3 qcy):=fh zlX (k3 qqu) zrQ
def zrR:=zrQ.a zbO
abbrev qeK:Type:=List UInt8×Int
def qHP:List PSt:=[⟨[(1021000,.junk),(0,.str),(3,.int .i64)],[],0,0⟩]
def q0I(x0:List UInt8)(x1:Int):X×St:=(.ret,⟨[(0,.str x0),(2,.bool false)],[],0,0⟩)
def q0J(x0:List UInt8)(x1:Int):X×St:=(.exit 0,⟨[(0,.str x0),(2,.junk)],[],0,0⟩)
def zfD:List (qeK->X×St):=[(k2 q0I),(k2 q0J)]
def qod(x0:List UInt8)(x1:Int):DT (Rd qeK):=
 .br (decide (x1<(x0.length:Int)))
 (.br (inB x0.length x1)
 (.bi (br (decide (qal x0 x1<48)) (some true) (br (inB x0.length x1) (some (decide (qal x0 x1>57))) none)) (fun y0=>
 .br (y0) (.at (.done 0)) (.at (.next ((x0,IntKind.i64.wrap (x1+1))))))
 (.no))
 (.no))
 (.at (.done 1))
def qmH:qeK->DT (Rd qeK):=(fun v=>qod v.1 v.2)
def qsT(v:qeK):=lo qmH v
theorem qvU(v):qsT v=qae (fun v=>(qmH v).ev) v:=qaa _
def qI2:qbJ:=LE (τ:=qeK) (hD qHP) (qsT) zfD
theorem zez:TL IP zah 0 qI2:=lp (ih qeK) (hs:=qHP) qmH zrR qvU
def qqa(x0:List UInt8):DT Bool:=
 .bi (pj 0 (qsT (x0,0))) (fun y0=>
 .at (false))
 (.bi (pj 1 (qsT (x0,0))) (fun y0=>
 .bi (br (y0.1== [48]) (some true) (br (decide ((y0.1.length:Int)>0)) (br (inB y0.1.length 0) (some (qal y0.1 0 != 48)) none) (some false))) (fun y1=>
 .at (y1))
 (.no))
 (.no))
def qnr(x0:List UInt8):=qaC (qqa x0).ev
theorem qLA(x0):qnr x0=(qqa x0).ev:=qaa _
theorem zbp:FH IP 210 ⟨[.str],[]⟩ [⟨false,.bool,[]⟩] qnr:=f1 zah 1021000 zez qqa zrR
def zrS:=zrR.a zbp
abbrev qeL:Type:=Bool×List UInt8×Int×Int×Int
def qHQ:List PSt:=[⟨[(1016800,.junk),(4,.bool),(5,.str),(6,.int .u64),(7,.int .u64),(8,.int .i64)],[],0,0⟩]
def q0K(x0:Bool)(x1:List UInt8)(x2 x3 x4:Int):X×St:=(.ret,⟨[(2,.int .i64 0),(3,.int .i64 6),(4,.bool x0),(7,.int .u64 x3)],[],0,0⟩)
def q0L(x0:Bool)(x1:List UInt8)(x2 x3 x4:Int):X×St:=(.exit 0,⟨[(2,.junk),(3,.junk),(4,.bool x0),(7,.int .u64 x3)],[],0,0⟩)
def zfE:List (qeL->X×St):=[(k5 q0K),(k5 q0L)]
def qhD(x0:Bool)(x1:List UInt8)(x2 x3 x4:Int):DT (Rd qeL):=
 .br (decide (x4<(x1.length:Int)))
 (.br (inB x1.length x4)
 (.br (decide (x3>IntKind.u64.wrap ((IntKind.u64.wrap (x2-IntKind.u64.wrap (IntKind.u8.wrap (qal x1 x4-48)))).tdiv 10)))
 (.at (.done 0))
 (.at (.next ((x0,x1,x2,IntKind.u64.wrap (IntKind.u64.wrap (x3*10)+IntKind.u64.wrap (IntKind.u8.wrap (qal x1 x4-48))),IntKind.i64.wrap (x4+1))))))
 (.no))
 (.at (.done 1))
def qmI:qeL->DT (Rd qeL):=(fun v=>qhD v.1 v.2.1 v.2.2.1 v.2.2.2.1 v.f)
def qc6(v:qeL):=lo qmI v
theorem qj7(v):qc6 v=qae (fun v=>(qmI v).ev) v:=qaa _
def qI3:qbJ:=LE (τ:=qeL) (hD qHQ) (qc6) zfE
theorem zeA:TL IP zae 0 qI3:=lp (ih qeL) (hs:=qHQ) qmI zrS qj7
abbrev qi5:Type:=Int×Int
def qqb(x0:List UInt8):DT qi5:=
 .bi (br (decide ((x0.length:Int)>0)) (br (inB x0.length 0) (some (qal x0 0==45)) none) (some false)) (fun y0=>
 .br (y0)
 (.br (leB 1 x0.length)
 (.bi (qnr (List.drop 1 x0)) (fun y1=>
 .bi (br (!y1) (some true) (br y0 (some (List.drop 1 x0== [48])) (some false))) (fun y2=>
 .br (y2)
 (.at ((0,2)))
 (.br (y0)
 (.bi (pj 0 (qc6 (y0,List.drop 1 x0,9223372036854775808,0,0))) (fun y3=>
 .at ((0,6)))
 (.bi (pj 1 (qc6 (y0,List.drop 1 x0,9223372036854775808,0,0))) (fun y3=>
 .br (y3.1) (.at ((IntKind.i64.wrap (IntKind.u64.wrap (IntKind.u64.wrap (-1-y3.2.2.2.1)+1)),0))) (.at ((IntKind.i64.wrap y3.2.2.2.1,0))))
 (.no)))
 (.bi (pj 0 (qc6 (y0,List.drop 1 x0,9223372036854775807,0,0))) (fun y3=>
 .at ((0,6)))
 (.bi (pj 1 (qc6 (y0,List.drop 1 x0,9223372036854775807,0,0))) (fun y3=>
 .br (y3.1) (.at ((IntKind.i64.wrap (IntKind.u64.wrap (IntKind.u64.wrap (-1-y3.2.2.2.1)+1)),0))) (.at ((IntKind.i64.wrap y3.2.2.2.1,0))))
 (.no)))))
 (.no))
 (.no))
 (.no))
 (.bi (qnr x0) (fun y1=>
 .bi (br (!y1) (some true) (br y0 (some (x0== [48])) (some false))) (fun y2=>
 .br (y2)
 (.at ((0,2)))
 (.br (y0)
 (.bi (pj 0 (qc6 (y0,x0,9223372036854775808,0,0))) (fun y3=>
 .at ((0,6)))
 (.bi (pj 1 (qc6 (y0,x0,9223372036854775808,0,0))) (fun y3=>
 .br (y3.1) (.at ((IntKind.i64.wrap (IntKind.u64.wrap (IntKind.u64.wrap (-1-y3.2.2.2.1)+1)),0))) (.at ((IntKind.i64.wrap y3.2.2.2.1,0))))
 (.no)))
 (.bi (pj 0 (qc6 (y0,x0,9223372036854775807,0,0))) (fun y3=>
 .at ((0,6)))
 (.bi (pj 1 (qc6 (y0,x0,9223372036854775807,0,0))) (fun y3=>
 .br (y3.1) (.at ((IntKind.i64.wrap (IntKind.u64.wrap (IntKind.u64.wrap (-1-y3.2.2.2.1)+1)),0))) (.at ((IntKind.i64.wrap y3.2.2.2.1,0))))
 (.no)))))
 (.no))
 (.no)))
 (.no)
def qns(x0:List UInt8):=qaC (qqb x0).ev
theorem qLB(x0):qns x0=(qqb x0).ev:=qaa _
theorem zbq:FH IP 168 ⟨[.str],[]⟩ [⟨false,.tup [.int .i64,.int .i64],[]⟩] qns:=f1 zae 1016800 zeA qqb zrS
def zrT:=zrS.a zbq
abbrev qC1:Type:=List AV×Int×Int×Int
def qpI(x0:List AV)(x1 x2:Int):DT qC1:=
 .bi (qc3 x0 x1 x2 2) (fun y0=>
 .bi (qns y0.2.2.2) (fun y1=>
 .bi (br (y0.2.2.1==0) (some (y1.2 != 0)) (some false)) (fun y2=>
 .br (y2)
 (.bi (qbN y0.1 y0.2.1 y0.2.2.1 x1 2) (fun y3=>
 .at ((y3.1,y3.2.1,y3.2.2,0)))
 (.no))
 (.at ((y0.1,y0.2.1,y0.2.2.1,y1.1))))
 (.no))
 (.no))
 (.no)
def qfM(x0:List AV)(x1 x2:Int):=qaC (qpI x0 x1 x2).ev
theorem qK6(x0 x1 x2):qfM x0 x1 x2=(qpI x0 x1 x2).ev:=qaa _
theorem zaR:FH IP 106 ⟨[.agg [.view 3,.int .i64,.int .i64]],[]⟩ [⟨false,.tup [.agg [.view 3,.int .i64,.int .i64],.int .i64],[]⟩] (k3 qfM):=fh zlZ (k3 qpI) zrT
def zrU:=zrT.a zaR
abbrev qfo:Type:=Int×Int×Int×Int
def qIz:List PSt:=[⟨[(1016700,.junk),(0,.int .i64),(1,.int .i64),(8,.int .i64),(9,.int .i64)],[],0,0⟩]
def q2g(x0 x1:Int)(x2 x3:Int):X×St:=(.exit 0,⟨[(0,.int .i64 x0),(1,.int .i64 x1),(8,.int .i64 x2)],[],0,0⟩)
def zgn:List (qfo->X×St):=[(k4 q2g)]
def qhP(x0 x1:Int)(x2 x3:Int):DT (Rd qfo):=
 .br (decide (x3<x0))
 (.bi (qsC x3) (fun y0=>
 .at (.next ((x0,x1,IntKind.i64.wrap (x2+y0),IntKind.i64.wrap (x3+1)))))
 (.no))
 (.at (.done 0))
def qpG:qfo->DT (Rd qfo):=(fun v=>qhP v.1 v.2.1 v.2.2.1 v.2.2.2)
def qFO(v:qfo):=lo qpG v
theorem qwl(v):qFO v=qae (fun v=>(qpG v).ev) v:=qaa _
def qJL:qbJ:=LE (τ:=qfo) (hD qIz) (qFO) zgn
theorem zfi:TL IP q2k 0 qJL:=lp (ih qfo) (hs:=qIz) qpG zrU qwl
abbrev qfp:Type:=Int×Int×Int×Int
def qIA:List PSt:=[⟨[(1016701,.junk),(0,.int .i64),(1,.int .i64),(8,.int .i64),(10,.int .i64)],[],0,0⟩]
def q2h(x0 x1:Int)(x2 x3:Int):X×St:=(.exit 2,⟨[(8,.int .i64 x2)],[],0,0⟩)
def zgo:List (qfp->X×St):=[(k4 q2h)]
def qhQ(x0 x1:Int)(x2 x3:Int):DT (Rd qfp):=
 .br (decide (x3<x1))
 (.bi (qg0 x0 x3) (fun y0=>
 .at (.next ((x0,x1,IntKind.i64.wrap (x2+y0),IntKind.i64.wrap (x3+1)))))
 (.no))
 (.at (.done 0))
def qpH:qfp->DT (Rd qfp):=(fun v=>qhQ v.1 v.2.1 v.2.2.1 v.2.2.2)
def qFP(v:qfp):=lo qpH v
theorem qwm(v):qFP v=qae (fun v=>(qpH v).ev) v:=qaa _
def qJM:qbJ:=LE (τ:=qfp) (hD qIA) (qFP) zgo
theorem zfj:TL IP q2k 1 qJM:=lp (ih qfp) (hs:=qIA) qpH zrU qwm
def qq6(x0 x1 x2:Int):DT (Int×Int):=
 .bi (br (decide (x0<2000)) (some true) (some (decide (x0>2199)))) (fun y0=>
 .bi (br y0 (some true) (some (decide (x2<1)))) (fun y1=>
 .bi (br y1 (some true) (br (sm (qg0 x0 x1)) (some (decide (x2>gv (qg0 x0 x1)))) none)) (fun y2=>
 .br (y2)
 (.at ((0,1)))
 (.bi (pj 0 (qFO (x0,x1,IntKind.i64.wrap (x2-1),2000))) (fun y3=>
 .bi (pj 0 (qFP (y3.1,y3.2.1,y3.2.2.1,1))) (fun y4=>
 .at ((y4.2.2.1,0)))
 (.no))
 (.no)))
 (.no))
 (.no))
 (.no)
def qlG(x0 x1 x2:Int):=qaC (qq6 x0 x1 x2).ev
theorem qMv(x0 x1 x2):qlG x0 x1 x2=(qq6 x0 x1 x2).ev:=qaa _
theorem zcS:FH IP 167 ⟨[.int .i64,.int .i64,.int .i64],[]⟩ [⟨false,.tup [.int .i64,.int .i64],[]⟩] (k3 qlG):=f2 q2k 1016700 zfi 1016701 zfj (k3 qq6) zrU
def zrV:=zrU.a zcS
abbrev qw8:Type:=List AV×Int×Int×Int
def qm1(x0:List AV)(x1 x2:Int):DT qw8:=
 .bi (qfM x0 x1 x2) (fun y0=>
 .bi (qaM y0.1 y0.2.1 y0.2.2.1 4 [47]) (fun y1=>
 .bi (qfM y1.1 y1.2.1 y1.2.2) (fun y2=>
 .bi (qaM y2.1 y2.2.1 y2.2.2.1 4 [47]) (fun y3=>
 .bi (qfM y3.1 y3.2.1 y3.2.2) (fun y4=>
 .br (y4.2.2.1 != 0)
 (.at ((y4.1,y4.2.1,y4.2.2.1,0)))
 (.bi (qlG y0.2.2.2 y2.2.2.2 y4.2.2.2) (fun y5=>
 .br (y5.2 != 0)
 (.bi (qbN y4.1 y4.2.1 y4.2.2.1 x1 1) (fun y6=>
 .at ((y6.1,y6.2.1,y6.2.2,0)))
 (.no))
 (.at ((y4.1,y4.2.1,y4.2.2.1,y5.1))))
 (.no)))
 (.no))
 (.no))
 (.no))
 (.no))
 (.no)
def qrS(x0:List AV)(x1 x2:Int):=qaC (qm1 x0 x1 x2).ev
theorem qLF(x0 x1 x2):qrS x0 x1 x2=(qm1 x0 x1 x2).ev:=qaa _
theorem zbw:FH IP 105 ⟨[.agg [.view 3,.int .i64,.int .i64]],[]⟩ [⟨false,.tup [.agg [.view 3,.int .i64,.int .i64],.int .i64],[]⟩] (k3 qrS):=fh zlY (k3 qm1) zrV
def zrW:=zrV.a zbw
abbrev qC8:Type:=List AV×Int×Int×Int
def qp4(x0:List AV)(x1 x2:Int):DT qC8:=
 .bi (qc3 x0 x1 x2 3) (fun y0=>
 .bi (qlB y0.2.2.2) (fun y1=>
 .bi (br (y0.2.2.1==0) (some (y1.2 != 0)) (some false)) (fun y2=>
 .br (y2)
 (.bi (qbN y0.1 y0.2.1 y0.2.2.1 x1 2) (fun y3=>
 .at ((y3.1,y3.2.1,y3.2.2,0)))
 (.no))
 (.at ((y0.1,y0.2.1,y0.2.2.1,y1.1))))
 (.no))
 (.no))
 (.no)
def qlp(x0:List AV)(x1 x2:Int):=qaC (qp4 x0 x1 x2).ev
theorem qLt(x0 x1 x2):qlp x0 x1 x2=(qp4 x0 x1 x2).ev:=qaa _
theorem zbi:FH IP 107 ⟨[.agg [.view 3,.int .i64,.int .i64]],[]⟩ [⟨false,.tup [.agg [.view 3,.int .i64,.int .i64],.int .i64],[]⟩] (k3 qlp):=fh zl0 (k3 qp4) zrW
def zrX:=zrW.a zbi
abbrev qe8:Type:=List AV×Int×List AV×Int×Int×Int×Int
def qIi:List PSt:=[⟨[(1011000,.junk),(1,.view 1),(2,.ref 0 0 0),(4,.ref 1 0 0),(6,.int .i64)],[(0,.box [.view 3,.int .i64,.int .i64] false),(1,.box [.nils 3,.int .i64,.int .i64] false)],2,0⟩]
def q1A(x0:List AV)(x1:Int)(x2:List AV)(x3 x4:Int)(x5 x6:Int):X×St:=(.ret,
 ⟨[(2,.ref 0 0 0),(4,.ref 1 0 0),(5,.int .i64 (IntKind.i64.wrap (x1+1)))],[(0,.box [.view 3 x2,.int .i64 (IntKind.i64.wrap (x3+1)),.int .i64 x4] false),
 (1,.box [.view 3 x2,.int .i64 (IntKind.i64.wrap (x3+1)),.int .i64 x4] false)],2,0⟩)
def q1B(x0:List AV)(x1:Int)(x2:List AV)(x3 x4:Int)(x5 x6:Int):X×St:=(.exit 0,
 ⟨[(2,.ref 0 0 0),(4,.ref 1 0 0),(5,.junk)],[(0,.box [.view 3 x2,.int .i64 x3,.int .i64 x4] false),
 (1,.box [.nils ⟨3,.nil⟩,.int .i64 x5,.int .i64 x6] false)],2,0⟩)
def zf6:List (qe8->X×St):=[(k7 q1A),(k7 q1B)]
def qdZ(x0:List AV)(x1:Int)(x2:List AV)(x3 x4:Int)(x5 x6:Int):DT (Rd qe8):=
 .br (decide (x1<(x0.length:Int)))
 (.br (qaG [.str] x0 x1)
 (.bi (qdu x2 x3 x4 5 (strOf (cellAt x0 x1 0))) (fun y0=>
 .br (y0) (.at (.done 0)) (.at (.next ((x0,IntKind.i64.wrap (x1+1),x2,x3,x4,x5,x6)))))
 (.no))
 (.no))
 (.at (.done 1))
def qgO:qe8->DT (Rd qe8):=(fun v=>qdZ v.1 v.2.1 v.2.2.1 v.2.2.2.1 v.f.1 v.f.2.1 v.f.2.2)
def qyo(v:qe8):=lo qgO v
theorem qwc(v):qyo v=qae (fun v=>(qgO v).ev) v:=qaa _
def qJv:qbJ:=LE (τ:=qe8) (hD qIi) (qyo) zf6
theorem ze2:TL IP q91 0 qJv:=lp (ih qe8) (hs:=qIi) qgO zrX qwc
def qqN(x0:List AV)(x1 x2:Int)(x3:List AV):DT (List AV×Int×Int×Int):=
 .bi (pj 0 (qyo (x3,0,x0,x1,x2,0,0))) (fun y0=>
 .at ((y0.2.2.1,IntKind.i64.wrap (y0.2.2.2.1+1),y0.f.1,IntKind.i64.wrap (y0.2.1+1))))
 (.bi (pj 1 (qyo (x3,0,x0,x1,x2,0,0))) (fun y0=>
 .bi (qbN y0.2.2.1 y0.2.2.2.1 y0.f.1 y0.2.2.2.1 2) (fun y1=>
 .at ((y1.1,y1.2.1,y1.2.2,0)))
 (.no))
 (.no))
def qdt(x0:List AV)(x1 x2:Int)(x3:List AV):=qaC (qqN x0 x1 x2 x3).ev
theorem qMd(x0 x1 x2 x3):qdt x0 x1 x2 x3=(qqN x0 x1 x2 x3).ev:=qaa _
theorem zcm:FH IP 110 ⟨[.agg [.view 3,.int .i64,.int .i64],.view 1],[]⟩ [⟨false,.tup [.agg [.view 3,.int .i64,.int .i64],.int .i64],[]⟩] (k4 qdt):=f1 q91 1011000 ze2 (k4 qqN) zrX
def zrY:=zrX.a zcm
abbrev qem:Type:=(List AV×Int×Int×Int×Int×Bool×Int×Int×Bool×Bool×Int×Int×Bool)⊕(List AV×Int×Int×Int×Int×Bool×Int×Int×Bool×Bool×Int×Int×Bool×List AV)
def qTt:List PSt:=[⟨[(1010800,.junk),(2,.ref 0 0 0),(4,.ref 1 0 0),(5,.ref 2 0 0),(6,.ref 3 0 0)],[(0,.box [.view 3,.int .i64,.int .i64] false),(1,.box [.nils 3,.int .i64,.int .i64] false),(2,.box [.nils 2,.bool,.int .i64,.int .i64,.bool] false),(3,.box [.nils 2,.bool,.int .i64,.int .i64,.bool] false)],4,0⟩,⟨[(1010800,.junk),(2,.ref 0 0 0),(4,.ref 1 0 0),(5,.ref 2 0 0),(6,.ref 3 0 0)],[(0,.box [.view 3,.int .i64,.int .i64] false),(1,.box [.nils 3,.int .i64,.int .i64] false),(2,.box [.nils 2,.bool,.int .i64,.int .i64,.bool] false),(3,.box [.own 4 0,.bool,.int .i64,.int .i64,.bool] false),(4,.arr 2 false)],5,0⟩]
def q42(x0:List AV)(x1 x2:Int)(x3 x4:Int)(x5:Bool)(x6 x7:Int)(x8 x9:Bool)(x10 x11:Int)(x12:Bool):X×St:=(.exit 0,
 ⟨[(2,.ref 0 0 0),(4,.ref 1 0 0),(5,.ref 2 0 0),(6,.ref 3 0 0)],[(0,.box [.view 3 x0,.int .i64 x1,.int .i64 x2] false),
 (1,.box [.nils ⟨3,.nil⟩,.int .i64 x3,.int .i64 x4] false),
 (2,.box [.nils ⟨2,.nil⟩,.bool x5,.int .i64 x6,.int .i64 x7,.bool x8] false),
 (3,.box [.nils ⟨2,.nil⟩,.bool x9,.int .i64 x10,.int .i64 x11,.bool x12] false)],4,0⟩)
def q43(x0:List AV)(x1 x2:Int)(x3 x4:Int)(x5:Bool)(x6 x7:Int)(x8 x9:Bool)(x10 x11:Int)(x12:Bool)(x13:List AV):X×St:=(.exit 0,
 ⟨[(2,.ref 0 0 0),(4,.ref 1 0 0),(5,.ref 2 0 0),(6,.ref 3 0 0)],[(0,.box [.view 3 x0,.int .i64 x1,.int .i64 x2] false),
 (1,.box [.nils ⟨3,.nil⟩,.int .i64 x3,.int .i64 x4] false),
 (2,.box [.nils ⟨2,.nil⟩,.bool x5,.int .i64 x6,.int .i64 x7,.bool x8] false),
 (3,.box [.own 4 0 none,.bool x9,.int .i64 x10,.int .i64 x11,.bool x12] false),(4,.arr 2 x13 false)],5,0⟩)
def zlF:List (qem->X×St):=[fun w=>(k13 q42) ((sl w)),fun w=>(k14 q43) ((sr w))]
def qjV(x0:List AV)(x1 x2:Int)(x3 x4:Int)(x5:Bool)(x6 x7:Int)(x8 x9:Bool)(x10 x11:Int)(x12:Bool):DT (Rd qem):=
 .bi (qdu x0 x1 x2 4 [36]) (fun y0=>
 .br (y0)
 (.bi (qaM x0 x1 x2 4 [36]) (fun y1=>
 .bi (qfM y1.1 y1.2.1 y1.2.2) (fun y2=>
 .bi (qaM y2.1 y2.2.1 y2.2.2.1 4 [58]) (fun y3=>
 .bi (qlp y3.1 y3.2.1 y3.2.2) (fun y4=>
 .bi (qaM y4.1 y4.2.1 y4.2.2.1 4 [59]) (fun y5=>
 .at (.next ((.inr (y5.1,y5.2.1,y5.2.2,x3,x4,x5,x6,x7,x8,x9,x10,x11,x12,[AV.agg [.int .i64 y2.2.2.2,.int .i64 y4.2.2.2]])))))
 (.no))
 (.no))
 (.no))
 (.no))
 (.no))
 (.at (.done 0)))
 (.no)
def qjW(x0:List AV)(x1 x2:Int)(x3 x4:Int)(x5:Bool)(x6 x7:Int)(x8 x9:Bool)(x10 x11:Int)(x12:Bool)(x13:List AV):DT (Rd qem):=
 .bi (qdu x0 x1 x2 4 [36]) (fun y0=>
 .br (y0)
 (.bi (qaM x0 x1 x2 4 [36]) (fun y1=>
 .bi (qfM y1.1 y1.2.1 y1.2.2) (fun y2=>
 .bi (qaM y2.1 y2.2.1 y2.2.2.1 4 [58]) (fun y3=>
 .bi (qlp y3.1 y3.2.1 y3.2.2) (fun y4=>
 .bi (qaM y4.1 y4.2.1 y4.2.2.1 4 [59]) (fun y5=>
 .br (room (x13.length+1) 16)
 (.at (.next ((.inr (y5.1,y5.2.1,y5.2.2,x3,x4,x5,x6,x7,x8,x9,x10,x11,x12,x13++[AV.agg [.int .i64 y2.2.2.2,.int .i64 y4.2.2.2]])))))
 (.no))
 (.no))
 (.no))
 (.no))
 (.no))
 (.no))
 (.at (.done 1)))
 (.no)
def qzj:qem->DT (Rd qem):=(Sum.elim (fun v=>qjV v.1 v.2.1 v.2.2.1 v.2.2.2.1 v.f.1 v.f.2.1 v.f.2.2.1 v.f.2.2.2.1 v.h.1 v.h.2.1 v.h.2.2.1 v.h.2.2.2.1 v.h.f) (fun v=>qjW v.1 v.2.1 v.2.2.1 v.2.2.2.1 v.f.1 v.f.2.1 v.f.2.2.1 v.f.2.2.2.1 v.h.1 v.h.2.1 v.h.2.2.1 v.h.2.2.2.1 v.h.f.1 v.h.f.2))
def qIP(v:qem):=lo qzj v
theorem qmo(v):qIP v=qae (fun v=>(qzj v).ev) v:=qaa _
def qUo:qbJ:=LE (τ:=qem) (hD qTt) (qIP) zlF
theorem zkU:Go.Eng.Told IP (qad q90 0).1 (qad q90 0).2 (qUo):=qas (inferInstance:Inhabited qem) (hs:=qTt) (st:=qzj) (L:=[]) zrY.ok (qac (l:=[]) (by kernel_rfl) trivial) (qmo) (fun v=>match v with|(.inl v)=>by kernel_rfl|(.inr v)=>by kernel_rfl) (fun v=>match v with|(.inl v)=>by kernel_rfl|(.inr v)=>by kernel_rfl)
def qAp(x0:List AV)(x1 x2:Int)(x3:List UInt8):DT (List AV×Int×Int×List AV×Bool×Int×Int×Bool):=
 .bi (qaM x0 x1 x2 5 x3) (fun y0=>
 .bi (qdt y0.1 y0.2.1 y0.2.2 [AV.str [109,97,114,103,105,110,97,108],AV.str [119,104,111,108,101]]) (fun y1=>
 .bi (qg2) (fun y2=>
 .bi (qdt y1.1 y1.2.1 y1.2.2.1 y2) (fun y3=>
 .bi (qg3) (fun y4=>
 .bi (qdt y3.1 y3.2.1 y3.2.2.1 y4) (fun y5=>
 .bi (qdt y5.1 y5.2.1 y5.2.2.1 [AV.str [107,101,101,112],AV.str [100,114,111,112]]) (fun y6=>
 .bi (qaM y6.1 y6.2.1 y6.2.2.1 4 [123]) (fun y7=>
 .bi (pj 0 (qIP (Sum.inl (y7.1,y7.2.1,y7.2.2,0,0,false,0,0,false,y1.2.2.2==1,y3.2.2.2,y5.2.2.2,y6.2.2.2==1)))) (fun y8=>
 .bi (qaM (sl y8).1 (sl y8).2.1 (sl y8).2.2.1 4 [125]) (fun y9=>
 .at ((y9.1,y9.2.1,y9.2.2,[],(sl y8).h.2)))
 (.no))
 (.bi (pj 1 (qIP (Sum.inl (y7.1,y7.2.1,y7.2.2,0,0,false,0,0,false,y1.2.2.2==1,y3.2.2.2,y5.2.2.2,y6.2.2.2==1)))) (fun y8=>
 .bi (qaM (sr y8).1 (sr y8).2.1 (sr y8).2.2.1 4 [125]) (fun y9=>
 .at ((y9.1,y9.2.1,y9.2.2,(sr y8).h.f.2,(sr y8).h.2.1,(sr y8).h.2.2.1,(sr y8).h.2.2.2.1,(sr y8).h.f.1)))
 (.no))
 (.no)))
 (.no))
 (.no))
 (.no))
 (.no))
 (.no))
 (.no))
 (.no))
 (.no)
def qvK(x0:List AV)(x1 x2:Int)(x3:List UInt8):=qaC (qAp x0 x1 x2 x3).ev
theorem qSU(x0 x1 x2 x3):qvK x0 x1 x2 x3=(qAp x0 x1 x2 x3).ev:=qaa _
theorem ziH:FH IP 108 ⟨[.agg [.view 3,.int .i64,.int .i64],.str],[]⟩ [⟨false,.tup [.agg [.view 3,.int .i64,.int .i64],.agg [.view 2,.bool,.int .i64,.int .i64,.bool]],[]⟩] (k4 qvK):=f1 q90 1010800 zkU (k4 qAp) zrY
def zrZ:=zrY.a ziH
def qq9(x0:List AV)(x1 x2:Int)(x3:List UInt8):DT Bool:=
 .bi (br (decide (x1<(x0.length:Int))) (br (qaG [.int .i64,.int .i64,.str] x0 x1) (some (intOf (cellAt x0 x1 0)==x2)) none) (some false)) (fun y0=>
 .bi (br y0 (br (qaG [.int .i64,.int .i64,.str] x0 x1) (some (strOf (cellAt x0 x1 2)==x3)) none) (some false)) (fun y1=>
 .at (y1))
 (.no))
 (.no)
def qbc(x0:List AV)(x1 x2:Int)(x3:List UInt8):=qaC (qq9 x0 x1 x2 x3).ev
theorem qMy(x0 x1 x2 x3):qbc x0 x1 x2 x3=(qq9 x0 x1 x2 x3).ev:=qaa _
theorem zcW:FH IP 244 ⟨[.view 3,.int .i64,.int .i64,.str],[]⟩ [⟨false,.bool,[]⟩] (k4 qbc):=fh zmG (k4 qq9) zrZ
def zr0:=zrZ.a zcW
def qqr(x0:List AV)(x1:Int):DT (Int×Bool):=
 .bi (br (decide (x1>=(x0.length:Int))) (some true) (br (qaG [.int .i64,.int .i64,.str] x0 x1) (some (intOf (cellAt x0 x1 0) != 2)) none)) (fun y0=>
 .br (y0)
 (.at ((0,false)))
 (.br (qaG [.int .i64,.int .i64,.str] x0 x1)
 (.bi (qns (strOf (cellAt x0 x1 2))) (fun y1=>
 .bi (br (y1.2==0) (some (decide (y1.1>=0))) (some false)) (fun y2=>
 .at ((y1.1,y2)))
 (.no))
 (.no))
 (.no)))
 (.no)
def qjh(x0:List AV)(x1:Int):=qaC (qqr x0 x1).ev
theorem qLS(x0 x1):qjh x0 x1=(qqr x0 x1).ev:=qaa _
theorem zbJ:FH IP 270 ⟨[.view 3,.int .i64],[]⟩ [⟨false,.tup [.int .i64,.bool],[]⟩] (k2 qjh):=fh zmN (k2 qqr) zr0
def zr1:=zr0.a zbJ
abbrev qeQ:Type:=List AV×Int×Int×Int×List AV×List AV
def qHW:List PSt:=[⟨[(1024800,.junk),(0,.view 3),(1,.int .i64),(2,.int .i64),(7,.own 0 0),(8,.own 1 0),(9,.int .i64)],[(0,.arr 1 false),(1,.arr 1 false)],2,0⟩]
def q0T(x0:List AV)(x1 x2 x3:Int)(x4 x5:List AV):X×St:=(.ret,⟨[(0,.view 3 x0),(1,.int .i64 x1),(2,.int .i64 x2),(6,.int .i64 (intOf (qfs x5 x3.toNat 0)))],[],0,0⟩)
def q0U(x0:List AV)(x1 x2 x3:Int)(x4 x5:List AV):X×St:=(.exit 0,⟨[(0,.view 3 x0),(1,.int .i64 x1),(2,.int .i64 x2),(6,.junk)],[],0,0⟩)
def zfK:List (qeQ->X×St):=[(k6 q0T),(k6 q0U)]
def qhF(x0:List AV)(x1 x2 x3:Int)(x4 x5:List AV):DT (Rd qeQ):=
 .br (decide (x3<(x4.length:Int)))
 (.br (inB x5.length x3)
 (.br (okP [.int .i64] x5 x3.toNat 0)
 (.bi (qg5 (intOf (qfs x5 x3.toNat 0))) (fun y0=>
 .bi (br (y0==x2)
 (br (inB x4.length x3)
 (br (okP [.str] x4 x3.toNat 0) (br (sm (qbc x0 x1 4 (strOf (qfs x4 x3.toNat 0)))) (some (gv (qbc x0 x1 4 (strOf (qfs x4 x3.toNat 0))))) none) none) none)
 (some false)) (fun y1=>
 .br (y1)
 (.br (inB x5.length x3)
 (.br (okP [.int .i64] x5 x3.toNat 0) (.at (.done 0)) (.no))
 (.no))
 (.at (.next ((x0,x1,x2,IntKind.i64.wrap (x3+1),x4,x5)))))
 (.no))
 (.no))
 (.no))
 (.no))
 (.at (.done 1))
def qy7:qeQ->DT (Rd qeQ):=(fun v=>qhF v.1 v.2.1 v.2.2.1 v.2.2.2.1 v.f.1 v.f.2)
def qsV(v:qeQ):=lo qy7 v
theorem qvX(v):qsV v=qae (fun v=>(qy7 v).ev) v:=qaa _
def qI9:qbJ:=LE (τ:=qeQ) (hD qHW) (qsV) zfK
theorem zeG:TL IP zal 0 qI9:=lp (ih qeQ) (hs:=qHW) qy7 zr1 qvX
def qiH(x0:List AV)(x1 x2:Int):DT Int:=
 .bi (pj 0
 (qsV
 (x0,x1,x2,0,[AV.str [43],AV.str [45],AV.str [42],AV.str [47],AV.str [61,61],AV.str [33,61],AV.str [60],AV.str [60,61]],
 [.int .i64 5,.int .i64 6,.int .i64 7,.int .i64 8,.int .i64 10,.int .i64 11,.int .i64 12,
 .int .i64 13]))) (fun y0=>
 .at (intOf (qfs y0.f.2 y0.2.2.2.1.toNat 0)))
 (.bi (pj 1
 (qsV
 (x0,x1,x2,0,[AV.str [43],AV.str [45],AV.str [42],AV.str [47],AV.str [61,61],AV.str [33,61],AV.str [60],AV.str [60,61]],
 [.int .i64 5,.int .i64 6,.int .i64 7,.int .i64 8,.int .i64 10,.int .i64 11,.int .i64 12,
 .int .i64 13]))) (fun y0=>
 .bi (qg5 14) (fun y1=>
 .bi (br (y0.2.2.1==y1) (br (sm (qbc y0.1 y0.2.1 5 [97,110,100])) (some (gv (qbc y0.1 y0.2.1 5 [97,110,100]))) none) (some false)) (fun y2=>
 .br (y2)
 (.at (14))
 (.bi (qg5 15) (fun y3=>
 .bi (br (y0.2.2.1==y3) (br (sm (qbc y0.1 y0.2.1 5 [111,114])) (some (gv (qbc y0.1 y0.2.1 5 [111,114]))) none) (some false)) (fun y4=>
 .br (y4) (.at (15)) (.at (0)))
 (.no))
 (.no)))
 (.no))
 (.no))
 (.no))
def qdO(x0:List AV)(x1 x2:Int):=qaC (qiH x0 x1 x2).ev
theorem qj3(x0 x1 x2):qdO x0 x1 x2=(qiH x0 x1 x2).ev:=qaa _
theorem zbL:FH IP 248 ⟨[.view 3,.int .i64,.int .i64],[]⟩ [⟨false,.int .i64,[]⟩] (k3 qdO):=f1 zal 1024800 zeG (k3 qiH) zr1
def znv:=zr1.a zbL
abbrev qfD:Type:=Int×Int×List UInt8×List AV×Int×Bool
def qtC:PArgs:=⟨[.view 3,.int .i64,.int .i64],[]⟩
def qtY:List PRes:=[⟨false,.tup [.agg [.int .i64,.int .i64,.str,.view 4],.int .i64,.bool],[]⟩]
abbrev qaA:Type:=(List AV)->Int->Int->Option qfD
abbrev qC4:Type:=Int×Int×List UInt8×List AV×Int×Bool
def qtp:PArgs:=⟨[.view 3,.int .i64],[]⟩
def qtL:List PRes:=[⟨false,.tup [.agg [.int .i64,.int .i64,.str,.view 4],.int .i64,.bool],[]⟩]
abbrev qax:Type:=(List AV)->Int->Option qC4
abbrev qDk:Type:=Int×Int×List UInt8×List AV×Int×Bool
def qtE:PArgs:=⟨[.view 3,.int .i64,.int .i64,.int .i64],[]⟩
def qt3:List PRes:=[⟨false,.tup [.agg [.int .i64,.int .i64,.str,.view 4],.int .i64,.bool],[]⟩]
abbrev qaB:Type:=(List AV)->Int->Int->Int->Option qDk
abbrev qDa:Type:=Int×Int×List UInt8×List AV×Int×Bool
def qts:PArgs:=⟨[.view 3,.int .i64],[]⟩
def qtO:List PRes:=[⟨false,.tup [.agg [.int .i64,.int .i64,.str,.view 4],.int .i64,.bool],[]⟩]
abbrev qay:Type:=(List AV)->Int->Option qDa
abbrev qDd:Type:=Int×Int×List UInt8×List AV×Int×Bool
def qtv:PArgs:=⟨[.view 3,.int .i64,.int .i64],[]⟩
def qtR:List PRes:=[⟨false,.tup [.agg [.int .i64,.int .i64,.str,.view 4],.int .i64,.bool],[]⟩]
abbrev qaz:Type:=(List AV)->Int->Int->Option qDd
def ql2(G_u247q:qaA)(G_u120q:qax)(G_u250q:qaB)(G_u171q:qay)(G_u211q:qaz):Prop:=FH IP 211 qtC qtY (k3 G_u247q)/\FH IP 245 qtp qtL (k2 G_u120q)/\FH IP 246 qtE qt3 (k4 G_u250q)/\FH IP 247 qts qtO (k2 G_u171q)/\FH IP 271 qtv qtR (k3 G_u211q)
def q2y(G_u247q:qaA)(G_u120q:qax)(G_u250q:qaB)(G_u171q:qay)(G_u211q:qaz):Tab:=(211,FE qtC qtY (k3 G_u247q))::(245,FE qtp qtL (k2 G_u120q))::(246,FE qtE qt3 (k4 G_u250q))::(247,FE qts qtO (k2 G_u171q))::(271,FE qtv qtR (k3 G_u211q))::znv.t
theorem qcv(G_u247q:qaA)(G_u120q:qax)(G_u250q:qaB)(G_u171q:qay)(G_u211q:qaz)(hG:ql2 G_u247q G_u120q G_u250q G_u171q G_u211q):qan IP (q2y G_u247q G_u120q G_u250q G_u171q G_u211q):=⟨qam (hG.1),qam (hG.2.1),qam (hG.2.2.1),qam (hG.2.2.2.1),qam (hG.2.2.2.2),znv.ok⟩
end
end Go.Proofs.H16
namespace Go.Proofs.H16
open Go Go.Eng
set_option maxRecDepth 100000
noncomputable section
abbrev qgT:Type:=(List AV×Int×Int×Int×Int×List UInt8×List AV×Int×Int×List UInt8)⊕(List AV×Int×Int×Int×Int×List UInt8×List AV×Int×Int×List UInt8×List AV)
def qTA:List PSt:=[⟨[(1024500,.junk),(0,.view 3),(1,.int .i64),(4,.ref 0 0 0),(7,.own 1 0),(8,.ref 2 0 0),(9,.int .i64)],[(0,.box [.int .i64,.int .i64,.str,.nils 4] false),(1,.arr 1 false),(2,.box [.int .i64,.int .i64,.str,.nils 4] false)],3,0⟩,⟨[(1024500,.junk),(0,.view 3),(1,.int .i64),(4,.ref 0 0 0),(7,.own 1 0),(8,.ref 2 0 0),(9,.int .i64)],[(0,.box [.int .i64,.int .i64,.str,.nils 4] false),(1,.arr 1 false),(2,.box [.int .i64,.int .i64,.str,.own 3 0] false),(3,.arr 4 false)],4,0⟩]
def q5h(G_u247q:qaA)(G_u120q:qax)(G_u250q:qaB)(G_u171q:qay)(G_u211q:qaz)(x0:List AV)(x1 x2:Int)(x3 x4:Int)(x5:List UInt8)(x6:List AV)(x7 x8:Int)(x9:List UInt8):X×St:=(.ret,
 ⟨[(1,.int .i64 x1),(4,.ref 0 0 0),(5,.int .i64 x1),(6,.bool false),(8,.ref 1 0 0)],[(0,.box [.int .i64 0,.int .i64 0,.str [],.nils ⟨4,.nil⟩] false),
 (1,.box [.int .i64 x7,.int .i64 x8,.str x9,.nils ⟨4,.nil⟩] false)],2,0⟩)
def q5i(G_u247q:qaA)(G_u120q:qax)(G_u250q:qaB)(G_u171q:qay)(G_u211q:qaz)(x0:List AV)(x1 x2:Int)(x3 x4:Int)(x5:List UInt8)(x6:List AV)(x7 x8:Int)(x9:List UInt8):X×St:=(.ret,
 ⟨[(1,.int .i64 x1),(4,.ref 0 0 0),(5,.int .i64 (gv (G_u247q x0 (IntKind.i64.wrap (x1+1)) 0)).f.1),(6,.bool false),
 (8,.ref 1 0 0)],[(0,.box [.int .i64 0,.int .i64 0,.str [],.nils ⟨4,.nil⟩] false),
 (1,.box [.int .i64 x7,.int .i64 x8,.str x9,.nils ⟨4,.nil⟩] false)],2,0⟩)
def q5j(G_u247q:qaA)(G_u120q:qax)(G_u250q:qaB)(G_u171q:qay)(G_u211q:qaz)(x0:List AV)(x1 x2:Int)(x3 x4:Int)(x5:List UInt8)(x6:List AV)(x7 x8:Int)(x9:List UInt8):X×St:=(.exit 0,
 ⟨[(1,.int .i64 x1),(4,.ref 0 0 0),(5,.junk),(6,.junk),(8,.ref 1 0 0)],[(0,.box [.int .i64 x3,.int .i64 x4,.str x5,.nils ⟨4,.nil⟩] false),
 (1,.box [.int .i64 x7,.int .i64 x8,.str x9,.nils ⟨4,.nil⟩] false)],2,0⟩)
def q5k(G_u247q:qaA)(G_u120q:qax)(G_u250q:qaB)(G_u171q:qay)(G_u211q:qaz)(x0:List AV)(x1 x2:Int)(x3 x4:Int)(x5:List UInt8)(x6:List AV)(x7 x8:Int)(x9:List UInt8)(x10:List AV):X×St:=(.ret,
 ⟨[(1,.int .i64 x1),(4,.ref 0 0 0),(5,.int .i64 x1),(6,.bool false),(8,.ref 1 0 0)],[(0,.box [.int .i64 0,.int .i64 0,.str [],.nils ⟨4,.nil⟩] false),
 (1,.box [.int .i64 x7,.int .i64 x8,.str x9,.own 2 0 none] false),(2,.arr 4 x10 false)],3,0⟩)
def q5l(G_u247q:qaA)(G_u120q:qax)(G_u250q:qaB)(G_u171q:qay)(G_u211q:qaz)(x0:List AV)(x1 x2:Int)(x3 x4:Int)(x5:List UInt8)(x6:List AV)(x7 x8:Int)(x9:List UInt8)(x10:List AV):X×St:=(.ret,
 ⟨[(1,.int .i64 x1),(4,.ref 0 0 0),(5,.int .i64 (gv (G_u247q x0 (IntKind.i64.wrap (x1+1)) 0)).f.1),(6,.bool false),
 (8,.ref 1 0 0)],[(0,.box [.int .i64 0,.int .i64 0,.str [],.nils ⟨4,.nil⟩] false),
 (1,.box [.int .i64 x7,.int .i64 x8,.str x9,.own 2 0 none] false),(2,.arr 4 x10 false)],3,0⟩)
def q5m(G_u247q:qaA)(G_u120q:qax)(G_u250q:qaB)(G_u171q:qay)(G_u211q:qaz)(x0:List AV)(x1 x2:Int)(x3 x4:Int)(x5:List UInt8)(x6:List AV)(x7 x8:Int)(x9:List UInt8)(x10:List AV):X×St:=(.exit 0,
 ⟨[(1,.int .i64 x1),(4,.ref 0 0 0),(5,.junk),(6,.junk),(8,.ref 1 0 0)],[(0,.box [.int .i64 x3,.int .i64 x4,.str x5,.nils ⟨4,.nil⟩] false),
 (1,.box [.int .i64 x7,.int .i64 x8,.str x9,.own 2 0 none] false),(2,.arr 4 x10 false)],3,0⟩)
def zlM(G_u247q:qaA)(G_u120q:qax)(G_u250q:qaB)(G_u171q:qay)(G_u211q:qaz):List (qgT->X×St):=[fun w=>(k10 (q5h G_u247q G_u120q G_u250q G_u171q G_u211q)) ((sl w)),fun w=>(k10 (q5i G_u247q G_u120q G_u250q G_u171q G_u211q)) ((sl w)),fun w=>(k10 (q5j G_u247q G_u120q G_u250q G_u171q G_u211q)) ((sl w)),fun w=>(k11 (q5k G_u247q G_u120q G_u250q G_u171q G_u211q)) ((sr w)),fun w=>(k11 (q5l G_u247q G_u120q G_u250q G_u171q G_u211q)) ((sr w)),fun w=>(k11 (q5m G_u247q G_u120q G_u250q G_u171q G_u211q)) ((sr w))]
def qZ2(G_u247q:qaA)(G_u120q:qax)(G_u250q:qaB)(G_u171q:qay)(G_u211q:qaz)(x0:List AV)(x1 x2:Int)(x3 x4:Int)(x5:List UInt8)(x6:List AV)(x7 x8:Int)(x9:List UInt8):DT (Rd qgT):=
 .br (decide (x2<(x6.length:Int)))
 (.br (inB x6.length x2)
 (.br (okP [.str] x6 x2.toNat 0)
 (.bi (qbc x0 x1 5 (strOf (qfs x6 x2.toNat 0))) (fun y0=>
 .br (!y0)
 (.at (.done 0))
 (.bi (G_u247q x0 (IntKind.i64.wrap (x1+1)) 0) (fun y1=>
 .br (!y1.f.2)
 (.at (.done 1))
 (.at (.next ((.inr (x0,y1.f.1,IntKind.i64.wrap (x2+1),x3,x4,x5,x6,x7,x8,x9,[AV.agg [.int .i64 y1.1,.int .i64 y1.2.1,AV.str y1.2.2.1,AV.view 4 y1.2.2.2.1]]))))))
 (.no)))
 (.no))
 (.no))
 (.no))
 (.at (.done 2))
def qZ3(G_u247q:qaA)(G_u120q:qax)(G_u250q:qaB)(G_u171q:qay)(G_u211q:qaz)(x0:List AV)(x1 x2:Int)(x3 x4:Int)(x5:List UInt8)(x6:List AV)(x7 x8:Int)(x9:List UInt8)(x10:List AV):DT (Rd qgT):=
 .br (decide (x2<(x6.length:Int)))
 (.br (inB x6.length x2)
 (.br (okP [.str] x6 x2.toNat 0)
 (.bi (qbc x0 x1 5 (strOf (qfs x6 x2.toNat 0))) (fun y0=>
 .br (!y0)
 (.at (.done 3))
 (.bi (G_u247q x0 (IntKind.i64.wrap (x1+1)) 0) (fun y1=>
 .br (!y1.f.2)
 (.at (.done 4))
 (.br (room (x10.length+1) 56)
 (.at (.next ((.inr (x0,y1.f.1,IntKind.i64.wrap (x2+1),x3,x4,x5,x6,x7,x8,x9,x10++[AV.agg [.int .i64 y1.1,.int .i64 y1.2.1,AV.str y1.2.2.1,AV.view 4 y1.2.2.2.1]])))))
 (.no)))
 (.no)))
 (.no))
 (.no))
 (.no))
 (.at (.done 5))
def qGx(G_u247q:qaA)(G_u120q:qax)(G_u250q:qaB)(G_u171q:qay)(G_u211q:qaz):qgT->DT (Rd qgT):=(Sum.elim (fun v=>qZ2 G_u247q G_u120q G_u250q G_u171q G_u211q v.1 v.2.1 v.2.2.1 v.2.2.2.1 v.f.1 v.f.2.1 v.f.2.2.1 v.f.2.2.2.1 v.h.1 v.h.2) (fun v=>qZ3 G_u247q G_u120q G_u250q G_u171q G_u211q v.1 v.2.1 v.2.2.1 v.2.2.2.1 v.f.1 v.f.2.1 v.f.2.2.1 v.f.2.2.2.1 v.h.1 v.h.2.1 v.h.2.2))
def qde(G_u247q:qaA)(G_u120q:qax)(G_u250q:qaB)(G_u171q:qay)(G_u211q:qaz)(v:qgT):Option (Nat×qgT):=qaC (qae (fun v=>(qGx G_u247q G_u120q G_u250q G_u171q G_u211q v).ev) v)
theorem qb4(G_u247q G_u120q G_u250q G_u171q G_u211q v):qde G_u247q G_u120q G_u250q G_u171q G_u211q v=qae (fun v=>(qGx G_u247q G_u120q G_u250q G_u171q G_u211q v).ev) v:=qaa _
def qUv(G_u247q:qaA)(G_u120q:qax)(G_u250q:qaB)(G_u171q:qay)(G_u211q:qaz):qbJ:=LE (τ:=qgT) (hD qTA) (qde G_u247q G_u120q G_u250q G_u171q G_u211q) (zlM G_u247q G_u120q G_u250q G_u171q G_u211q)
theorem zk1(G_u247q:qaA)(G_u120q:qax)(G_u250q:qaB)(G_u171q:qay)(G_u211q:qaz)(hG:ql2 G_u247q G_u120q G_u250q G_u171q G_u211q):Go.Eng.Told IP (qad zak 0).1 (qad zak 0).2 (qUv G_u247q G_u120q G_u250q G_u171q G_u211q):=qas (inferInstance:Inhabited qgT) (hs:=qTA) (st:=qGx G_u247q G_u120q G_u250q G_u171q G_u211q) (L:=[]) (qcv G_u247q G_u120q G_u250q G_u171q G_u211q hG) (qac (l:=[]) (by kernel_rfl) trivial) (qb4 G_u247q G_u120q G_u250q G_u171q G_u211q) (fun v=>match v with|(.inl v)=>by kernel_rfl|(.inr v)=>by kernel_rfl) (fun v=>match v with|(.inl v)=>by kernel_rfl|(.inr v)=>by kernel_rfl)
abbrev qd3:Type:=(List AV×Int×Int×Int×Int×List UInt8×List AV×Int×Int×List UInt8)⊕(List AV×Int×Int×Int×Int×List UInt8×List AV×Int×Int×List UInt8×List AV)
def qHX:List PSt:=[⟨[(1027100,.junk),(0,.view 3),(1,.int .i64),(6,.ref 0 0 0),(9,.own 1 0),(10,.ref 2 0 0),(11,.int .i64)],[(0,.box [.int .i64,.int .i64,.str,.nils 4] false),(1,.arr 1 false),(2,.box [.int .i64,.int .i64,.str,.nils 4] false)],3,0⟩,⟨[(1027100,.junk),(0,.view 3),(1,.int .i64),(6,.ref 0 0 0),(9,.own 1 0),(10,.ref 2 0 0),(11,.int .i64)],[(0,.box [.int .i64,.int .i64,.str,.nils 4] false),(1,.arr 1 false),(2,.box [.int .i64,.int .i64,.str,.own 3 0] false),(3,.arr 4 false)],4,0⟩]
def q0V(G_u247q:qaA)(G_u120q:qax)(G_u250q:qaB)(G_u171q:qay)(G_u211q:qaz)(x0:List AV)(x1 x2:Int)(x3 x4:Int)(x5:List UInt8)(x6:List AV)(x7 x8:Int)(x9:List UInt8):X×St:=(.ret,
 ⟨[(1,.int .i64 x1),(6,.ref 0 0 0),(7,.int .i64 x1),(8,.bool false),(10,.ref 1 0 0)],[(0,.box [.int .i64 0,.int .i64 0,.str [],.nils ⟨4,.nil⟩] false),
 (1,.box [.int .i64 x7,.int .i64 x8,.str x9,.nils ⟨4,.nil⟩] false)],2,0⟩)
def q0W(G_u247q:qaA)(G_u120q:qax)(G_u250q:qaB)(G_u171q:qay)(G_u211q:qaz)(x0:List AV)(x1 x2:Int)(x3 x4:Int)(x5:List UInt8)(x6:List AV)(x7 x8:Int)(x9:List UInt8):X×St:=(.exit 0,
 ⟨[(1,.int .i64 (IntKind.i64.wrap (x1+1))),(6,.ref 0 0 0),(7,.junk),(8,.junk),(10,.ref 1 0 0)],[(0,.box [.int .i64 x3,.int .i64 x4,.str x5,.nils ⟨4,.nil⟩] false),
 (1,.box [.int .i64 x7,.int .i64 x8,.str x9,.nils ⟨4,.nil⟩] false)],2,0⟩)
def q0X(G_u247q:qaA)(G_u120q:qax)(G_u250q:qaB)(G_u171q:qay)(G_u211q:qaz)(x0:List AV)(x1 x2:Int)(x3 x4:Int)(x5:List UInt8)(x6:List AV)(x7 x8:Int)(x9:List UInt8):X×St:=(.ret,
 ⟨[(1,.int .i64 (IntKind.i64.wrap (x1+1))),(6,.ref 0 0 0),(7,.int .i64 (gv (G_u247q x0 (IntKind.i64.wrap (x1+1)) 0)).f.1),
 (8,.bool false),(10,.ref 1 0 0)],[(0,.box [.int .i64 0,.int .i64 0,.str [],.nils ⟨4,.nil⟩] false),
 (1,.box [.int .i64 x7,.int .i64 x8,.str x9,.nils ⟨4,.nil⟩] false)],2,0⟩)
def q0Y(G_u247q:qaA)(G_u120q:qax)(G_u250q:qaB)(G_u171q:qay)(G_u211q:qaz)(x0:List AV)(x1 x2:Int)(x3 x4:Int)(x5:List UInt8)(x6:List AV)(x7 x8:Int)(x9:List UInt8):X×St:=(.exit 0,
 ⟨[(1,.int .i64 x1),(6,.ref 0 0 0),(7,.junk),(8,.junk),(10,.ref 1 0 0)],[(0,.box [.int .i64 x3,.int .i64 x4,.str x5,.nils ⟨4,.nil⟩] false),
 (1,.box [.int .i64 x7,.int .i64 x8,.str x9,.nils ⟨4,.nil⟩] false)],2,0⟩)
def q0Z(G_u247q:qaA)(G_u120q:qax)(G_u250q:qaB)(G_u171q:qay)(G_u211q:qaz)(x0:List AV)(x1 x2:Int)(x3 x4:Int)(x5:List UInt8)(x6:List AV)(x7 x8:Int)(x9:List UInt8)(x10:List AV):X×St:=(.ret,
 ⟨[(1,.int .i64 x1),(6,.ref 0 0 0),(7,.int .i64 x1),(8,.bool false),(10,.ref 1 0 0)],[(0,.box [.int .i64 0,.int .i64 0,.str [],.nils ⟨4,.nil⟩] false),
 (1,.box [.int .i64 x7,.int .i64 x8,.str x9,.own 2 0 none] false),(2,.arr 4 x10 false)],3,0⟩)
def q00(G_u247q:qaA)(G_u120q:qax)(G_u250q:qaB)(G_u171q:qay)(G_u211q:qaz)(x0:List AV)(x1 x2:Int)(x3 x4:Int)(x5:List UInt8)(x6:List AV)(x7 x8:Int)(x9:List UInt8)(x10:List AV):X×St:=(.exit 0,
 ⟨[(1,.int .i64 (IntKind.i64.wrap (x1+1))),(6,.ref 0 0 0),(7,.junk),(8,.junk),(10,.ref 1 0 0)],[(0,.box [.int .i64 x3,.int .i64 x4,.str x5,.nils ⟨4,.nil⟩] false),
 (1,.box [.int .i64 x7,.int .i64 x8,.str x9,.own 2 0 none] false),(2,.arr 4 x10 false)],3,0⟩)
def q01(G_u247q:qaA)(G_u120q:qax)(G_u250q:qaB)(G_u171q:qay)(G_u211q:qaz)(x0:List AV)(x1 x2:Int)(x3 x4:Int)(x5:List UInt8)(x6:List AV)(x7 x8:Int)(x9:List UInt8)(x10:List AV):X×St:=(.ret,
 ⟨[(1,.int .i64 (IntKind.i64.wrap (x1+1))),(6,.ref 0 0 0),(7,.int .i64 (gv (G_u247q x0 (IntKind.i64.wrap (x1+1)) 0)).f.1),
 (8,.bool false),(10,.ref 1 0 0)],[(0,.box [.int .i64 0,.int .i64 0,.str [],.nils ⟨4,.nil⟩] false),
 (1,.box [.int .i64 x7,.int .i64 x8,.str x9,.own 2 0 none] false),(2,.arr 4 x10 false)],3,0⟩)
def q02(G_u247q:qaA)(G_u120q:qax)(G_u250q:qaB)(G_u171q:qay)(G_u211q:qaz)(x0:List AV)(x1 x2:Int)(x3 x4:Int)(x5:List UInt8)(x6:List AV)(x7 x8:Int)(x9:List UInt8)(x10:List AV):X×St:=(.exit 0,
 ⟨[(1,.int .i64 x1),(6,.ref 0 0 0),(7,.junk),(8,.junk),(10,.ref 1 0 0)],[(0,.box [.int .i64 x3,.int .i64 x4,.str x5,.nils ⟨4,.nil⟩] false),
 (1,.box [.int .i64 x7,.int .i64 x8,.str x9,.own 2 0 none] false),(2,.arr 4 x10 false)],3,0⟩)
def zfL(G_u247q:qaA)(G_u120q:qax)(G_u250q:qaB)(G_u171q:qay)(G_u211q:qaz):List (qd3->X×St):=[fun w=>(k10 (q0V G_u247q G_u120q G_u250q G_u171q G_u211q)) ((sl w)),fun w=>(k10 (q0W G_u247q G_u120q G_u250q G_u171q G_u211q)) ((sl w)),fun w=>(k10 (q0X G_u247q G_u120q G_u250q G_u171q G_u211q)) ((sl w)),fun w=>(k10 (q0Y G_u247q G_u120q G_u250q G_u171q G_u211q)) ((sl w)),fun w=>(k11 (q0Z G_u247q G_u120q G_u250q G_u171q G_u211q)) ((sr w)),fun w=>(k11 (q00 G_u247q G_u120q G_u250q G_u171q G_u211q)) ((sr w)),fun w=>(k11 (q01 G_u247q G_u120q G_u250q G_u171q G_u211q)) ((sr w)),fun w=>(k11 (q02 G_u247q G_u120q G_u250q G_u171q G_u211q)) ((sr w))]
def qNu(G_u247q:qaA)(G_u120q:qax)(G_u250q:qaB)(G_u171q:qay)(G_u211q:qaz)(x0:List AV)(x1 x2:Int)(x3 x4:Int)(x5:List UInt8)(x6:List AV)(x7 x8:Int)(x9:List UInt8):DT (Rd qd3):=
 .br (decide (x2<(x6.length:Int)))
 (.br (inB x6.length x2)
 (.br (okP [.str] x6 x2.toNat 0)
 (.bi (qbc x0 x1 4 (strOf (qfs x6 x2.toNat 0))) (fun y0=>
 .br (!y0)
 (.at (.done 0))
 (.br (x2==2)
 (.at (.done 1))
 (.bi (G_u247q x0 (IntKind.i64.wrap (x1+1)) 0) (fun y1=>
 .br (!y1.f.2)
 (.at (.done 2))
 (.at (.next ((.inr (x0,y1.f.1,IntKind.i64.wrap (x2+1),x3,x4,x5,x6,x7,x8,x9,[AV.agg [.int .i64 y1.1,.int .i64 y1.2.1,AV.str y1.2.2.1,AV.view 4 y1.2.2.2.1]]))))))
 (.no))))
 (.no))
 (.no))
 (.no))
 (.at (.done 3))
def qNv(G_u247q:qaA)(G_u120q:qax)(G_u250q:qaB)(G_u171q:qay)(G_u211q:qaz)(x0:List AV)(x1 x2:Int)(x3 x4:Int)(x5:List UInt8)(x6:List AV)(x7 x8:Int)(x9:List UInt8)(x10:List AV):DT (Rd qd3):=
 .br (decide (x2<(x6.length:Int)))
 (.br (inB x6.length x2)
 (.br (okP [.str] x6 x2.toNat 0)
 (.bi (qbc x0 x1 4 (strOf (qfs x6 x2.toNat 0))) (fun y0=>
 .br (!y0)
 (.at (.done 4))
 (.br (x2==2)
 (.at (.done 5))
 (.bi (G_u247q x0 (IntKind.i64.wrap (x1+1)) 0) (fun y1=>
 .br (!y1.f.2)
 (.at (.done 6))
 (.br (room (x10.length+1) 56)
 (.at (.next ((.inr (x0,y1.f.1,IntKind.i64.wrap (x2+1),x3,x4,x5,x6,x7,x8,x9,x10++[AV.agg [.int .i64 y1.1,.int .i64 y1.2.1,AV.str y1.2.2.1,AV.view 4 y1.2.2.2.1]])))))
 (.no)))
 (.no))))
 (.no))
 (.no))
 (.no))
 (.at (.done 7))
def qy9(G_u247q:qaA)(G_u120q:qax)(G_u250q:qaB)(G_u171q:qay)(G_u211q:qaz):qd3->DT (Rd qd3):=(Sum.elim (fun v=>qNu G_u247q G_u120q G_u250q G_u171q G_u211q v.1 v.2.1 v.2.2.1 v.2.2.2.1 v.f.1 v.f.2.1 v.f.2.2.1 v.f.2.2.2.1 v.h.1 v.h.2) (fun v=>qNv G_u247q G_u120q G_u250q G_u171q G_u211q v.1 v.2.1 v.2.2.1 v.2.2.2.1 v.f.1 v.f.2.1 v.f.2.2.1 v.f.2.2.2.1 v.h.1 v.h.2.1 v.h.2.2))
def qb2(G_u247q:qaA)(G_u120q:qax)(G_u250q:qaB)(G_u171q:qay)(G_u211q:qaz)(v:qd3):Option (Nat×qd3):=qaC (qae (fun v=>(qy9 G_u247q G_u120q G_u250q G_u171q G_u211q v).ev) v)
theorem qb3(G_u247q G_u120q G_u250q G_u171q G_u211q v):qb2 G_u247q G_u120q G_u250q G_u171q G_u211q v=qae (fun v=>(qy9 G_u247q G_u120q G_u250q G_u171q G_u211q v).ev) v:=qaa _
def qJa(G_u247q:qaA)(G_u120q:qax)(G_u250q:qaB)(G_u171q:qay)(G_u211q:qaz):qbJ:=LE (τ:=qd3) (hD qHX) (qb2 G_u247q G_u120q G_u250q G_u171q G_u211q) (zfL G_u247q G_u120q G_u250q G_u171q G_u211q)
theorem zeH(G_u247q:qaA)(G_u120q:qax)(G_u250q:qaB)(G_u171q:qay)(G_u211q:qaz)(hG:ql2 G_u247q G_u120q G_u250q G_u171q G_u211q):Go.Eng.Told IP (qad zan 0).1 (qad zan 0).2 (qJa G_u247q G_u120q G_u250q G_u171q G_u211q):=qas (inferInstance:Inhabited qd3) (hs:=qHX) (st:=qy9 G_u247q G_u120q G_u250q G_u171q G_u211q) (L:=[]) (qcv G_u247q G_u120q G_u250q G_u171q G_u211q hG) (qac (l:=[]) (by kernel_rfl) trivial) (qb3 G_u247q G_u120q G_u250q G_u171q G_u211q) (fun v=>match v with|(.inl v)=>by kernel_rfl|(.inr v)=>by kernel_rfl) (fun v=>match v with|(.inl v)=>by kernel_rfl|(.inr v)=>by kernel_rfl)
abbrev qdq:Type:=(List AV×Int×Int×Bool×Int×Int×List UInt8×Int×Int×List UInt8×List AV)⊕(List AV×Int×Int×Bool×Int×Int×List UInt8×Int×Int×List UInt8×List AV)
def qIc:List PSt:=[⟨[(1021100,.junk),(0,.view 3),(2,.int .i64),(6,.ref 0 0 0),(9,.ref 1 0 0),(10,.int .i64),(11,.bool)],[(0,.box [.int .i64,.int .i64,.str,.nils 4] false),(1,.box [.int .i64,.int .i64,.str,.view 4] false)],2,0⟩,⟨[(1021100,.junk),(0,.view 3),(2,.int .i64),(6,.ref 0 0 0),(9,.ref 1 0 0),(10,.int .i64),(11,.bool)],[(0,.box [.int .i64,.int .i64,.str,.nils 4] false),(1,.box [.int .i64,.int .i64,.str,.own 2 0] false),(2,.arr 4 false)],3,0⟩]
def q1m(G_u247q:qaA)(G_u120q:qax)(G_u250q:qaB)(G_u171q:qay)(G_u211q:qaz)(x0:List AV)(x1 x2:Int)(x3:Bool)(x4 x5:Int)(x6:List UInt8)(x7 x8:Int)(x9:List UInt8)(x10:List AV):X×St:=(.exit 1,
 ⟨[(6,.ref 0 0 0),(7,.junk),(8,.junk),(9,.ref 1 0 0),(10,.int .i64 x2),(11,.bool x3)],[(0,.box [.int .i64 x4,.int .i64 x5,.str x6,.nils ⟨4,.nil⟩] false),
 (1,.box [.int .i64 x7,.int .i64 x8,.str x9,.view 4 x10] false)],2,0⟩)
def q1n(G_u247q:qaA)(G_u120q:qax)(G_u250q:qaB)(G_u171q:qay)(G_u211q:qaz)(x0:List AV)(x1 x2:Int)(x3:Bool)(x4 x5:Int)(x6:List UInt8)(x7 x8:Int)(x9:List UInt8)(x10:List AV):X×St:=(.ret,
 ⟨[(6,.ref 0 0 0),(7,.int .i64 (gv (G_u247q x0 (IntKind.i64.wrap (x2+1)) (IntKind.i64.wrap (x1+1)))).f.1),(8,.bool false),
 (9,.ref 1 0 0),(10,.int .i64 x2),(11,.bool x3)],[(0,
 .box
 [.int .i64 (gv (G_u247q x0 (IntKind.i64.wrap (x2+1)) (IntKind.i64.wrap (x1+1)))).1,
 .int .i64 (gv (G_u247q x0 (IntKind.i64.wrap (x2+1)) (IntKind.i64.wrap (x1+1)))).2.1,
 .str (gv (G_u247q x0 (IntKind.i64.wrap (x2+1)) (IntKind.i64.wrap (x1+1)))).2.2.1,
 .view 4 (gv (G_u247q x0 (IntKind.i64.wrap (x2+1)) (IntKind.i64.wrap (x1+1)))).2.2.2.1]
 false),
 (1,.box [.int .i64 x7,.int .i64 x8,.str x9,.view 4 x10] false)],2,0⟩)
def q1o(G_u247q:qaA)(G_u120q:qax)(G_u250q:qaB)(G_u171q:qay)(G_u211q:qaz)(x0:List AV)(x1 x2:Int)(x3:Bool)(x4 x5:Int)(x6:List UInt8)(x7 x8:Int)(x9:List UInt8)(x10:List AV):X×St:=(.exit 1,
 ⟨[(6,.ref 0 0 0),(7,.junk),(8,.junk),(9,.ref 1 0 0),
 (10,.int .i64 (gv (G_u247q x0 (IntKind.i64.wrap (x2+1)) (IntKind.i64.wrap (x1+1)))).f.1),(11,.bool x3)],[(0,.box [.int .i64 x4,.int .i64 x5,.str x6,.nils ⟨4,.nil⟩] false),
 (1,.box [.int .i64 (gv (qdO x0 x2 x1)),.int .i64 0,.str [],.own 2 0 none] false),
 (2,
 .arr 4
 [.agg [.int .i64 x7,.int .i64 x8,.str x9,.view 4 x10],
 .agg
 [.int .i64 (gv (G_u247q x0 (IntKind.i64.wrap (x2+1)) (IntKind.i64.wrap (x1+1)))).1,
 .int .i64 (gv (G_u247q x0 (IntKind.i64.wrap (x2+1)) (IntKind.i64.wrap (x1+1)))).2.1,
 .str (gv (G_u247q x0 (IntKind.i64.wrap (x2+1)) (IntKind.i64.wrap (x1+1)))).2.2.1,
 .view 4 (gv (G_u247q x0 (IntKind.i64.wrap (x2+1)) (IntKind.i64.wrap (x1+1)))).2.2.2.1]]
 false)],3,0⟩)
def q1p(G_u247q:qaA)(G_u120q:qax)(G_u250q:qaB)(G_u171q:qay)(G_u211q:qaz)(x0:List AV)(x1 x2:Int)(x3:Bool)(x4 x5:Int)(x6:List UInt8)(x7 x8:Int)(x9:List UInt8)(x10:List AV):X×St:=(.exit 1,
 ⟨[(6,.ref 0 0 0),(7,.junk),(8,.junk),(9,.ref 1 0 0),(10,.int .i64 x2),(11,.bool x3)],[(0,.box [.int .i64 x4,.int .i64 x5,.str x6,.nils ⟨4,.nil⟩] false),
 (1,.box [.int .i64 x7,.int .i64 x8,.str x9,.own 2 0 none] false),(2,.arr 4 x10 false)],3,0⟩)
def q1q(G_u247q:qaA)(G_u120q:qax)(G_u250q:qaB)(G_u171q:qay)(G_u211q:qaz)(x0:List AV)(x1 x2:Int)(x3:Bool)(x4 x5:Int)(x6:List UInt8)(x7 x8:Int)(x9:List UInt8)(x10:List AV):X×St:=(.ret,
 ⟨[(6,.ref 0 0 0),(7,.int .i64 (gv (G_u247q x0 (IntKind.i64.wrap (x2+1)) (IntKind.i64.wrap (x1+1)))).f.1),(8,.bool false),
 (9,.ref 1 0 0),(10,.int .i64 x2),(11,.bool x3)],[(0,
 .box
 [.int .i64 (gv (G_u247q x0 (IntKind.i64.wrap (x2+1)) (IntKind.i64.wrap (x1+1)))).1,
 .int .i64 (gv (G_u247q x0 (IntKind.i64.wrap (x2+1)) (IntKind.i64.wrap (x1+1)))).2.1,
 .str (gv (G_u247q x0 (IntKind.i64.wrap (x2+1)) (IntKind.i64.wrap (x1+1)))).2.2.1,
 .view 4 (gv (G_u247q x0 (IntKind.i64.wrap (x2+1)) (IntKind.i64.wrap (x1+1)))).2.2.2.1]
 false),
 (1,.box [.int .i64 x7,.int .i64 x8,.str x9,.own 2 0 none] false),(2,.arr 4 x10 false)],3,0⟩)
def q1r(G_u247q:qaA)(G_u120q:qax)(G_u250q:qaB)(G_u171q:qay)(G_u211q:qaz)(x0:List AV)(x1 x2:Int)(x3:Bool)(x4 x5:Int)(x6:List UInt8)(x7 x8:Int)(x9:List UInt8)(x10:List AV):X×St:=(.exit 1,
 ⟨[(6,.ref 0 0 0),(7,.junk),(8,.junk),(9,.ref 1 0 0),
 (10,.int .i64 (gv (G_u247q x0 (IntKind.i64.wrap (x2+1)) (IntKind.i64.wrap (x1+1)))).f.1),(11,.bool x3)],[(0,.box [.int .i64 x4,.int .i64 x5,.str x6,.nils ⟨4,.nil⟩] false),
 (1,.box [.int .i64 (gv (qdO x0 x2 x1)),.int .i64 0,.str [],.own 2 0 none] false),
 (2,
 .arr 4
 [.agg [.int .i64 x7,.int .i64 x8,.str x9,.view 4 x10],
 .agg
 [.int .i64 (gv (G_u247q x0 (IntKind.i64.wrap (x2+1)) (IntKind.i64.wrap (x1+1)))).1,
 .int .i64 (gv (G_u247q x0 (IntKind.i64.wrap (x2+1)) (IntKind.i64.wrap (x1+1)))).2.1,
 .str (gv (G_u247q x0 (IntKind.i64.wrap (x2+1)) (IntKind.i64.wrap (x1+1)))).2.2.1,
 .view 4 (gv (G_u247q x0 (IntKind.i64.wrap (x2+1)) (IntKind.i64.wrap (x1+1)))).2.2.2.1]]
 false)],3,0⟩)
def zf0(G_u247q:qaA)(G_u120q:qax)(G_u250q:qaB)(G_u171q:qay)(G_u211q:qaz):List (qdq->X×St):=[fun w=>(k11 (q1m G_u247q G_u120q G_u250q G_u171q G_u211q)) ((sl w)),fun w=>(k11 (q1n G_u247q G_u120q G_u250q G_u171q G_u211q)) ((sl w)),fun w=>(k11 (q1o G_u247q G_u120q G_u250q G_u171q G_u211q)) ((sl w)),fun w=>(k11 (q1p G_u247q G_u120q G_u250q G_u171q G_u211q)) ((sr w)),fun w=>(k11 (q1q G_u247q G_u120q G_u250q G_u171q G_u211q)) ((sr w)),fun w=>(k11 (q1r G_u247q G_u120q G_u250q G_u171q G_u211q)) ((sr w))]
def qNw(G_u247q:qaA)(G_u120q:qax)(G_u250q:qaB)(G_u171q:qay)(G_u211q:qaz)(x0:List AV)(x1 x2:Int)(x3:Bool)(x4 x5:Int)(x6:List UInt8)(x7 x8:Int)(x9:List UInt8)(x10:List AV):DT (Rd qdq):=
 .br (x3)
 (.bi (qdO x0 x2 x1) (fun y0=>
 .br (y0==0)
 (.at (.done 0))
 (.bi (G_u247q x0 (IntKind.i64.wrap (x2+1)) (IntKind.i64.wrap (x1+1))) (fun y1=>
 .br (!y1.f.2)
 (.at (.done 1))
 (.br (x1==4)
 (.at (.done 2))
 (.at (.next ((.inr (x0,x1,y1.f.1,x3,x4,x5,x6,y0,0,[],[AV.agg [.int .i64 x7,.int .i64 x8,AV.str x9,AV.view 4 x10],
 AV.agg [.int .i64 y1.1,.int .i64 y1.2.1,AV.str y1.2.2.1,AV.view 4 y1.2.2.2.1]])))))))
 (.no)))
 (.no))
 (.at (.done 0))
def qNx(G_u247q:qaA)(G_u120q:qax)(G_u250q:qaB)(G_u171q:qay)(G_u211q:qaz)(x0:List AV)(x1 x2:Int)(x3:Bool)(x4 x5:Int)(x6:List UInt8)(x7 x8:Int)(x9:List UInt8)(x10:List AV):DT (Rd qdq):=
 .br (x3)
 (.bi (qdO x0 x2 x1) (fun y0=>
 .br (y0==0)
 (.at (.done 3))
 (.bi (G_u247q x0 (IntKind.i64.wrap (x2+1)) (IntKind.i64.wrap (x1+1))) (fun y1=>
 .br (!y1.f.2)
 (.at (.done 4))
 (.br (x1==4)
 (.at (.done 5))
 (.at (.next ((.inr (x0,x1,y1.f.1,x3,x4,x5,x6,y0,0,[],[AV.agg [.int .i64 x7,.int .i64 x8,AV.str x9,AV.view 4 x10],
 AV.agg [.int .i64 y1.1,.int .i64 y1.2.1,AV.str y1.2.2.1,AV.view 4 y1.2.2.2.1]])))))))
 (.no)))
 (.no))
 (.at (.done 3))
def qza(G_u247q:qaA)(G_u120q:qax)(G_u250q:qaB)(G_u171q:qay)(G_u211q:qaz):qdq->DT (Rd qdq):=(Sum.elim (fun v=>qNw G_u247q G_u120q G_u250q G_u171q G_u211q v.1 v.2.1 v.2.2.1 v.2.2.2.1 v.f.1 v.f.2.1 v.f.2.2.1 v.f.2.2.2.1 v.h.1 v.h.2.1 v.h.2.2) (fun v=>qNx G_u247q G_u120q G_u250q G_u171q G_u211q v.1 v.2.1 v.2.2.1 v.2.2.2.1 v.f.1 v.f.2.1 v.f.2.2.1 v.f.2.2.2.1 v.h.1 v.h.2.1 v.h.2.2))
def qdx(G_u247q:qaA)(G_u120q:qax)(G_u250q:qaB)(G_u171q:qay)(G_u211q:qaz)(v:qdq):Option (Nat×qdq):=qaC (qae (fun v=>(qza G_u247q G_u120q G_u250q G_u171q G_u211q v).ev) v)
theorem qdV(G_u247q G_u120q G_u250q G_u171q G_u211q v):qdx G_u247q G_u120q G_u250q G_u171q G_u211q v=qae (fun v=>(qza G_u247q G_u120q G_u250q G_u171q G_u211q v).ev) v:=qaa _
def qJp(G_u247q:qaA)(G_u120q:qax)(G_u250q:qaB)(G_u171q:qay)(G_u211q:qaz):qbJ:=LE (τ:=qdq) (hD qIc) (qdx G_u247q G_u120q G_u250q G_u171q G_u211q) (zf0 G_u247q G_u120q G_u250q G_u171q G_u211q)
theorem zeW(G_u247q:qaA)(G_u120q:qax)(G_u250q:qaB)(G_u171q:qay)(G_u211q:qaz)(hG:ql2 G_u247q G_u120q G_u250q G_u171q G_u211q):Go.Eng.Told IP (qad zai 0).1 (qad zai 0).2 (qJp G_u247q G_u120q G_u250q G_u171q G_u211q):=qas (inferInstance:Inhabited qdq) (hs:=qIc) (st:=qza G_u247q G_u120q G_u250q G_u171q G_u211q) (L:=[]) (qcv G_u247q G_u120q G_u250q G_u171q G_u211q hG) (qac (l:=[]) (by kernel_rfl) trivial) (qdV G_u247q G_u120q G_u250q G_u171q G_u211q) (fun v=>match v with|(.inl v)=>by kernel_rfl|(.inr v)=>by kernel_rfl) (fun v=>match v with|(.inl v)=>by kernel_rfl|(.inr v)=>by kernel_rfl)
def qbM(G_u247q:qaA)(G_u120q:qax)(G_u250q:qaB)(G_u171q:qay)(G_u211q:qaz)(x0:List AV)(x1 x2:Int):DT qfD:=
 .bi (br (x2==0) (br (sm (qbc x0 x1 5 [105,102])) (some (gv (qbc x0 x1 5 [105,102]))) none) (some false)) (fun y0=>
 .br (y0)
 (.bi (G_u120q x0 x1) (fun y1=>
 .at ((y1)))
 (.no))
 (.br (x2==0)
 (.bi (G_u247q x0 x1 1) (fun y1=>
 .at ((y1)))
 (.no))
 (.bi (br (x2==3) (br (sm (qbc x0 x1 5 [110,111,116])) (some (gv (qbc x0 x1 5 [110,111,116]))) none) (some false)) (fun y1=>
 .br (y1)
 (.bi (G_u250q x0 x1 x2 16) (fun y2=>
 .at ((y2)))
 (.no))
 (.bi (br (x2==7) (br (sm (qbc x0 x1 4 [45])) (some (gv (qbc x0 x1 4 [45]))) none) (some false)) (fun y2=>
 .br (y2)
 (.bi (G_u250q x0 x1 x2 9) (fun y3=>
 .at ((y3)))
 (.no))
 (.bi (br (x2==3) (some true) (some (x2==7))) (fun y3=>
 .br (y3)
 (.bi (G_u247q x0 x1 (IntKind.i64.wrap (x2+1))) (fun y4=>
 .at ((y4)))
 (.no))
 (.br (x2==8)
 (.bi (G_u171q x0 x1) (fun y4=>
 .at ((y4)))
 (.no))
 (.bi (G_u247q x0 x1 (IntKind.i64.wrap (x2+1))) (fun y4=>
 .bi (pj 0
 (qdx G_u247q G_u120q G_u250q G_u171q G_u211q
 (Sum.inl (x0,x2,y4.f.1,y4.f.2,0,0,[],y4.1,y4.2.1,y4.2.2.1,y4.2.2.2.1)))) (fun y5=>
 .at (((sl y5).f.2.2.2.1,(sl y5).h.1,(sl y5).h.2.1,(sl y5).h.2.2,(sl y5).2.2.1,(sl y5).2.2.2.1)))
 (.bi (pj 1
 (qdx G_u247q G_u120q G_u250q G_u171q G_u211q
 (Sum.inl (x0,x2,y4.f.1,y4.f.2,0,0,[],y4.1,y4.2.1,y4.2.2.1,y4.2.2.2.1)))) (fun y5=>
 .at (((gv (G_u247q (sl y5).1 (IntKind.i64.wrap ((sl y5).2.2.1+1)) (IntKind.i64.wrap ((sl y5).2.1+1)))).1,(gv (G_u247q (sl y5).1 (IntKind.i64.wrap ((sl y5).2.2.1+1)) (IntKind.i64.wrap ((sl y5).2.1+1)))).2.1,(gv (G_u247q (sl y5).1 (IntKind.i64.wrap ((sl y5).2.2.1+1)) (IntKind.i64.wrap ((sl y5).2.1+1)))).2.2.1,(gv (G_u247q (sl y5).1 (IntKind.i64.wrap ((sl y5).2.2.1+1)) (IntKind.i64.wrap ((sl y5).2.1+1)))).2.2.2.1,(gv (G_u247q (sl y5).1 (IntKind.i64.wrap ((sl y5).2.2.1+1)) (IntKind.i64.wrap ((sl y5).2.1+1)))).f.1,false)))
 (.bi (pj 2
 (qdx G_u247q G_u120q G_u250q G_u171q G_u211q
 (Sum.inl (x0,x2,y4.f.1,y4.f.2,0,0,[],y4.1,y4.2.1,y4.2.2.1,y4.2.2.2.1)))) (fun y5=>
 .at ((gv (qdO (sl y5).1 (sl y5).2.2.1 (sl y5).2.1),0,[],[AV.agg
 [.int .i64 (sl y5).f.2.2.2.1,.int .i64 (sl y5).h.1,
 AV.str (sl y5).h.2.1,AV.view 4 (sl y5).h.2.2],
 AV.agg
 [.int .i64 (gv (G_u247q (sl y5).1 (IntKind.i64.wrap ((sl y5).2.2.1+1)) (IntKind.i64.wrap ((sl y5).2.1+1)))).1,
 .int .i64 (gv (G_u247q (sl y5).1 (IntKind.i64.wrap ((sl y5).2.2.1+1)) (IntKind.i64.wrap ((sl y5).2.1+1)))).2.1,
 AV.str (gv (G_u247q (sl y5).1 (IntKind.i64.wrap ((sl y5).2.2.1+1)) (IntKind.i64.wrap ((sl y5).2.1+1)))).2.2.1,
 AV.view 4 (gv (G_u247q (sl y5).1 (IntKind.i64.wrap ((sl y5).2.2.1+1)) (IntKind.i64.wrap ((sl y5).2.1+1)))).2.2.2.1]],(gv (G_u247q (sl y5).1 (IntKind.i64.wrap ((sl y5).2.2.1+1)) (IntKind.i64.wrap ((sl y5).2.1+1)))).f.1,(sl y5).2.2.2.1)))
 (.bi (pj 3
 (qdx G_u247q G_u120q G_u250q G_u171q G_u211q
 (Sum.inl (x0,x2,y4.f.1,y4.f.2,0,0,[],y4.1,y4.2.1,y4.2.2.1,y4.2.2.2.1)))) (fun y5=>
 .at (((sr y5).f.2.2.2.1,(sr y5).h.1,(sr y5).h.2.1,(sr y5).h.2.2,(sr y5).2.2.1,(sr y5).2.2.2.1)))
 (.bi (pj 4
 (qdx G_u247q G_u120q G_u250q G_u171q G_u211q
 (Sum.inl (x0,x2,y4.f.1,y4.f.2,0,0,[],y4.1,y4.2.1,y4.2.2.1,y4.2.2.2.1)))) (fun y5=>
 .at (((gv (G_u247q (sr y5).1 (IntKind.i64.wrap ((sr y5).2.2.1+1)) (IntKind.i64.wrap ((sr y5).2.1+1)))).1,(gv (G_u247q (sr y5).1 (IntKind.i64.wrap ((sr y5).2.2.1+1)) (IntKind.i64.wrap ((sr y5).2.1+1)))).2.1,(gv (G_u247q (sr y5).1 (IntKind.i64.wrap ((sr y5).2.2.1+1)) (IntKind.i64.wrap ((sr y5).2.1+1)))).2.2.1,(gv (G_u247q (sr y5).1 (IntKind.i64.wrap ((sr y5).2.2.1+1)) (IntKind.i64.wrap ((sr y5).2.1+1)))).2.2.2.1,(gv (G_u247q (sr y5).1 (IntKind.i64.wrap ((sr y5).2.2.1+1)) (IntKind.i64.wrap ((sr y5).2.1+1)))).f.1,false)))
 (.bi (pj 5
 (qdx G_u247q G_u120q G_u250q G_u171q G_u211q
 (Sum.inl (x0,x2,y4.f.1,y4.f.2,0,0,[],y4.1,y4.2.1,y4.2.2.1,y4.2.2.2.1)))) (fun y5=>
 .at ((gv (qdO (sr y5).1 (sr y5).2.2.1 (sr y5).2.1),0,[],[AV.agg
 [.int .i64 (sr y5).f.2.2.2.1,.int .i64 (sr y5).h.1,
 AV.str (sr y5).h.2.1,AV.view 4 (sr y5).h.2.2],
 AV.agg
 [.int .i64 (gv (G_u247q (sr y5).1 (IntKind.i64.wrap ((sr y5).2.2.1+1)) (IntKind.i64.wrap ((sr y5).2.1+1)))).1,
 .int .i64 (gv (G_u247q (sr y5).1 (IntKind.i64.wrap ((sr y5).2.2.1+1)) (IntKind.i64.wrap ((sr y5).2.1+1)))).2.1,
 AV.str (gv (G_u247q (sr y5).1 (IntKind.i64.wrap ((sr y5).2.2.1+1)) (IntKind.i64.wrap ((sr y5).2.1+1)))).2.2.1,
 AV.view 4 (gv (G_u247q (sr y5).1 (IntKind.i64.wrap ((sr y5).2.2.1+1)) (IntKind.i64.wrap ((sr y5).2.1+1)))).2.2.2.1]],(gv (G_u247q (sr y5).1 (IntKind.i64.wrap ((sr y5).2.2.1+1)) (IntKind.i64.wrap ((sr y5).2.1+1)))).f.1,(sr y5).2.2.2.1)))
 (.no)))))))
 (.no))))
 (.no)))
 (.no)))
 (.no))))
 (.no)
def qpQ(G_u247q:qaA)(G_u120q:qax)(G_u250q:qaB)(G_u171q:qay)(G_u211q:qaz)(x0:List AV)(x1:Int):DT qC4:=
 .bi (pj 0
 (qde G_u247q G_u120q G_u250q G_u171q G_u211q
 (Sum.inl (x0,x1,0,0,0,[],[AV.str [105,102],AV.str [116,104,101,110],AV.str [101,108,115,101]],19,0,[])))) (fun y0=>
 .at ((0,0,[],[],(sl y0).2.1,false)))
 (.bi (pj 1
 (qde G_u247q G_u120q G_u250q G_u171q G_u211q
 (Sum.inl (x0,x1,0,0,0,[],[AV.str [105,102],AV.str [116,104,101,110],AV.str [101,108,115,101]],19,0,[])))) (fun y0=>
 .at ((0,0,[],[],(gv (G_u247q (sl y0).1 (IntKind.i64.wrap ((sl y0).2.1+1)) 0)).f.1,false)))
 (.bi (pj 2
 (qde G_u247q G_u120q G_u250q G_u171q G_u211q
 (Sum.inl (x0,x1,0,0,0,[],[AV.str [105,102],AV.str [116,104,101,110],AV.str [101,108,115,101]],19,0,[])))) (fun y0=>
 .at (((sl y0).f.2.2.2.1,(sl y0).h.1,(sl y0).h.2,[],(sl y0).2.1,true)))
 (.bi (pj 3
 (qde G_u247q G_u120q G_u250q G_u171q G_u211q
 (Sum.inl (x0,x1,0,0,0,[],[AV.str [105,102],AV.str [116,104,101,110],AV.str [101,108,115,101]],19,0,[])))) (fun y0=>
 .at ((0,0,[],[],(sr y0).2.1,false)))
 (.bi (pj 4
 (qde G_u247q G_u120q G_u250q G_u171q G_u211q
 (Sum.inl (x0,x1,0,0,0,[],[AV.str [105,102],AV.str [116,104,101,110],AV.str [101,108,115,101]],19,0,[])))) (fun y0=>
 .at ((0,0,[],[],(gv (G_u247q (sr y0).1 (IntKind.i64.wrap ((sr y0).2.1+1)) 0)).f.1,false)))
 (.bi (pj 5
 (qde G_u247q G_u120q G_u250q G_u171q G_u211q
 (Sum.inl (x0,x1,0,0,0,[],[AV.str [105,102],AV.str [116,104,101,110],AV.str [101,108,115,101]],19,0,[])))) (fun y0=>
 .at (((sr y0).f.2.2.2.1,(sr y0).h.1,(sr y0).h.2.1,(sr y0).h.2.2,(sr y0).2.1,true)))
 (.no))))))
def qkM(G_u247q:qaA)(G_u120q:qax)(G_u250q:qaB)(G_u171q:qay)(G_u211q:qaz)(x0:List AV)(x1 x2 x3:Int):DT qDk:=
 .bi (G_u247q x0 (IntKind.i64.wrap (x1+1)) x2) (fun y0=>
 .br (!y0.f.2)
 (.at ((0,0,[],[],y0.f.1,false)))
 (.at ((x3,0,[],[AV.agg [.int .i64 y0.1,.int .i64 y0.2.1,AV.str y0.2.2.1,AV.view 4 y0.2.2.2.1]],y0.f.1,true))))
 (.no)
def qqe(G_u247q:qaA)(G_u120q:qax)(G_u250q:qaB)(G_u171q:qay)(G_u211q:qaz)(x0:List AV)(x1:Int):DT qDa:=
 .bi (qjh x0 x1) (fun y0=>
 .br (y0.2)
 (.at ((1,y0.1,[],[],IntKind.i64.wrap (x1+1),true)))
 (.bi (qbc x0 x1 4 [36]) (fun y1=>
 .br (y1)
 (.bi (qjh x0 (IntKind.i64.wrap (x1+1))) (fun y2=>
 .br (!y2.2) (.at ((0,0,[],[],IntKind.i64.wrap (x1+1),false))) (.at ((2,y2.1,[],[],IntKind.i64.wrap (x1+2),true))))
 (.no))
 (.bi (qbc x0 x1 5 [109,105,110]) (fun y2=>
 .br (y2)
 (.bi (G_u211q x0 x1 17) (fun y3=>
 .at ((y3)))
 (.no))
 (.bi (qbc x0 x1 5 [109,97,120]) (fun y3=>
 .br (y3)
 (.bi (G_u211q x0 x1 18) (fun y4=>
 .at ((y4)))
 (.no))
 (.bi (qbc x0 x1 4 [40]) (fun y4=>
 .br (y4)
 (.bi (G_u247q x0 (IntKind.i64.wrap (x1+1)) 0) (fun y5=>
 .bi (br (!y5.f.2) (some true) (br (sm (qbc x0 y5.f.1 4 [41])) (some !gv (qbc x0 y5.f.1 4 [41])) none)) (fun y6=>
 .br (y6)
 (.at ((0,0,[],[],y5.f.1,false)))
 (.at ((y5.1,y5.2.1,y5.2.2.1,y5.2.2.2.1,IntKind.i64.wrap (y5.f.1+1),true))))
 (.no))
 (.no))
 (.bi (br (decide (x1<(x0.length:Int))) (br (qaG [.int .i64,.int .i64,.str] x0 x1) (some (intOf (cellAt x0 x1 0)==1)) none) (some false)) (fun y5=>
 .br (y5)
 (.br (qaG [.int .i64,.int .i64,.str] x0 x1) (.at ((4,0,strOf (cellAt x0 x1 2),[],IntKind.i64.wrap (x1+1),true))) (.no))
 (.bi (br (decide (x1<(x0.length:Int))) (br (qaG [.int .i64,.int .i64,.str] x0 x1) (some (intOf (cellAt x0 x1 0)==3)) none) (some false)) (fun y6=>
 .br (y6)
 (.br (qaG [.int .i64,.int .i64,.str] x0 x1)
 (.bi (qlB (strOf (cellAt x0 x1 2))) (fun y7=>
 .br (y7.2==0) (.at ((3,y7.1,[],[],IntKind.i64.wrap (x1+1),true))) (.at ((0,0,[],[],x1,false))))
 (.no))
 (.no))
 (.at ((0,0,[],[],x1,false))))
 (.no)))
 (.no)))
 (.no)))
 (.no)))
 (.no)))
 (.no)))
 (.no)
def qqs(G_u247q:qaA)(G_u120q:qax)(G_u250q:qaB)(G_u171q:qay)(G_u211q:qaz)(x0:List AV)(x1 x2:Int):DT qDd:=
 .bi (pj 0
 (qb2 G_u247q G_u120q G_u250q G_u171q G_u211q
 (Sum.inl (x0,IntKind.i64.wrap (x1+1),0,0,0,[],[AV.str [40],AV.str [44],AV.str [41]],x2,0,[])))) (fun y0=>
 .at ((0,0,[],[],(sl y0).2.1,false)))
 (.bi (pj 1
 (qb2 G_u247q G_u120q G_u250q G_u171q G_u211q
 (Sum.inl (x0,IntKind.i64.wrap (x1+1),0,0,0,[],[AV.str [40],AV.str [44],AV.str [41]],x2,0,[])))) (fun y0=>
 .at (((sl y0).f.2.2.2.1,(sl y0).h.1,(sl y0).h.2,[],IntKind.i64.wrap ((sl y0).2.1+1),true)))
 (.bi (pj 2
 (qb2 G_u247q G_u120q G_u250q G_u171q G_u211q
 (Sum.inl (x0,IntKind.i64.wrap (x1+1),0,0,0,[],[AV.str [40],AV.str [44],AV.str [41]],x2,0,[])))) (fun y0=>
 .at ((0,0,[],[],(gv (G_u247q (sl y0).1 (IntKind.i64.wrap ((sl y0).2.1+1)) 0)).f.1,false)))
 (.bi (pj 3
 (qb2 G_u247q G_u120q G_u250q G_u171q G_u211q
 (Sum.inl (x0,IntKind.i64.wrap (x1+1),0,0,0,[],[AV.str [40],AV.str [44],AV.str [41]],x2,0,[])))) (fun y0=>
 .at (((sl y0).f.2.2.2.1,(sl y0).h.1,(sl y0).h.2,[],(sl y0).2.1,true)))
 (.bi (pj 4
 (qb2 G_u247q G_u120q G_u250q G_u171q G_u211q
 (Sum.inl (x0,IntKind.i64.wrap (x1+1),0,0,0,[],[AV.str [40],AV.str [44],AV.str [41]],x2,0,[])))) (fun y0=>
 .at ((0,0,[],[],(sr y0).2.1,false)))
 (.bi (pj 5
 (qb2 G_u247q G_u120q G_u250q G_u171q G_u211q
 (Sum.inl (x0,IntKind.i64.wrap (x1+1),0,0,0,[],[AV.str [40],AV.str [44],AV.str [41]],x2,0,[])))) (fun y0=>
 .at (((sr y0).f.2.2.2.1,(sr y0).h.1,(sr y0).h.2.1,(sr y0).h.2.2,IntKind.i64.wrap ((sr y0).2.1+1),true)))
 (.bi (pj 6
 (qb2 G_u247q G_u120q G_u250q G_u171q G_u211q
 (Sum.inl (x0,IntKind.i64.wrap (x1+1),0,0,0,[],[AV.str [40],AV.str [44],AV.str [41]],x2,0,[])))) (fun y0=>
 .at ((0,0,[],[],(gv (G_u247q (sr y0).1 (IntKind.i64.wrap ((sr y0).2.1+1)) 0)).f.1,false)))
 (.bi (pj 7
 (qb2 G_u247q G_u120q G_u250q G_u171q G_u211q
 (Sum.inl (x0,IntKind.i64.wrap (x1+1),0,0,0,[],[AV.str [40],AV.str [44],AV.str [41]],x2,0,[])))) (fun y0=>
 .at (((sr y0).f.2.2.2.1,(sr y0).h.1,(sr y0).h.2.1,(sr y0).h.2.2,(sr y0).2.1,true)))
 (.no))))))))
def qab:Nat->qaA×qax×qaB×qay×qaz
 |0=>(fun _ _ _=>none,fun _ _=>none,fun _ _ _ _=>none,fun _ _=>none,fun _ _ _=>none)
 |n+1=>(fun x0 x1 x2=>(qbM ((qab n).1) ((qab n).2.1) ((qab n).2.2.1) ((qab n).2.2.2.1) ((qab n).f) x0 x1 x2).ev,fun x0 x1=>(qpQ ((qab n).1) ((qab n).2.1) ((qab n).2.2.1) ((qab n).2.2.2.1) ((qab n).f) x0 x1).ev,fun x0 x1 x2 x3=>(qkM ((qab n).1) ((qab n).2.1) ((qab n).2.2.1) ((qab n).2.2.2.1) ((qab n).f) x0 x1 x2 x3).ev,fun x0 x1=>(qqe ((qab n).1) ((qab n).2.1) ((qab n).2.2.1) ((qab n).2.2.2.1) ((qab n).f) x0 x1).ev,fun x0 x1 x2=>(qqs ((qab n).1) ((qab n).2.1) ((qab n).2.2.1) ((qab n).2.2.2.1) ((qab n).f) x0 x1 x2).ev)
def qxV(x0:List AV)(x1 x2:Int):Option qfD:=qi4 fun n=>(qab n).1 x0 x1 x2
def qSk(x0:List AV)(x1:Int):Option qC4:=qi4 fun n=>(qab n).2.1 x0 x1
def qSu(x0:List AV)(x1 x2 x3:Int):Option qDk:=qi4 fun n=>(qab n).2.2.1 x0 x1 x2 x3
def qSp(x0:List AV)(x1:Int):Option qDa:=qi4 fun n=>(qab n).2.2.2.1 x0 x1
def qSs(x0:List AV)(x1 x2:Int):Option qDd:=qi4 fun n=>(qab n).f x0 x1 x2
theorem qfz:∀n,ql2 ((qab n).1) ((qab n).2.1) ((qab n).2.2.1) ((qab n).2.2.2.1) ((qab n).f)
 |0=>⟨(fun v y h=>nomatch h),(fun v y h=>nomatch h),(fun v y h=>nomatch h),(fun v y h=>nomatch h),(fun v y h=>nomatch h)⟩
 |n+1=>have hG:=qfz n
 ⟨qag (F:=zai) (L:=[(1021100,qJp ((qab n).1) ((qab n).2.1) ((qab n).2.2.1) ((qab n).2.2.2.1) ((qab n).f))]) (t:=(k3 (qbM ((qab n).1) ((qab n).2.1) ((qab n).2.2.1) ((qab n).2.2.2.1) ((qab n).f)))) (qcv ((qab n).1) ((qab n).2.1) ((qab n).2.2.1) ((qab n).2.2.2.1) ((qab n).f) hG) (qac (l:=[qad zai 0]) (by kernel_rfl) ⟨qar (by kernel_rfl) (zeW ((qab n).1) ((qab n).2.1) ((qab n).2.2.1) ((qab n).2.2.2.1) ((qab n).f) hG),trivial⟩) (by kernel_rfl) (fun v=>by kernel_rfl) (fun v=>rfl),qag (F:=zak) (L:=[(1024500,qUv ((qab n).1) ((qab n).2.1) ((qab n).2.2.1) ((qab n).2.2.2.1) ((qab n).f))]) (t:=(k2 (qpQ ((qab n).1) ((qab n).2.1) ((qab n).2.2.1) ((qab n).2.2.2.1) ((qab n).f)))) (qcv ((qab n).1) ((qab n).2.1) ((qab n).2.2.1) ((qab n).2.2.2.1) ((qab n).f) hG) (qac (l:=[qad zak 0]) (by kernel_rfl) ⟨qar (by kernel_rfl) (zk1 ((qab n).1) ((qab n).2.1) ((qab n).2.2.1) ((qab n).2.2.2.1) ((qab n).f) hG),trivial⟩) (by kernel_rfl) (fun v=>by kernel_rfl) (fun v=>rfl),qag (F:=zmH) (L:=[]) (t:=(k4 (qkM ((qab n).1) ((qab n).2.1) ((qab n).2.2.1) ((qab n).2.2.2.1) ((qab n).f)))) (qcv ((qab n).1) ((qab n).2.1) ((qab n).2.2.1) ((qab n).2.2.2.1) ((qab n).f) hG) (qac (l:=[]) (by kernel_rfl) trivial) (by kernel_rfl) (fun v=>by kernel_rfl) (fun v=>rfl),qag (F:=zmI) (L:=[]) (t:=(k2 (qqe ((qab n).1) ((qab n).2.1) ((qab n).2.2.1) ((qab n).2.2.2.1) ((qab n).f)))) (qcv ((qab n).1) ((qab n).2.1) ((qab n).2.2.1) ((qab n).2.2.2.1) ((qab n).f) hG) (qac (l:=[]) (by kernel_rfl) trivial) (by kernel_rfl) (fun v=>by kernel_rfl) (fun v=>rfl),qag (F:=zan) (L:=[(1027100,qJa ((qab n).1) ((qab n).2.1) ((qab n).2.2.1) ((qab n).2.2.2.1) ((qab n).f))]) (t:=(k3 (qqs ((qab n).1) ((qab n).2.1) ((qab n).2.2.1) ((qab n).2.2.2.1) ((qab n).f)))) (qcv ((qab n).1) ((qab n).2.1) ((qab n).2.2.1) ((qab n).2.2.2.1) ((qab n).f) hG) (qac (l:=[qad zan 0]) (by kernel_rfl) ⟨qar (by kernel_rfl) (zeH ((qab n).1) ((qab n).2.1) ((qab n).2.2.1) ((qab n).2.2.2.1) ((qab n).f) hG),trivial⟩) (by kernel_rfl) (fun v=>by kernel_rfl) (fun v=>rfl)⟩
theorem zcf:FH IP 211 qtC qtY (k3 qxV):=qbH (p:=qtC) (rs:=qtY) (s:=fun n=>(k3 ((qab n).1))) fun n=>(qfz n).1
theorem zaZ:FH IP 245 qtp qtL (k2 qSk):=qbH (p:=qtp) (rs:=qtL) (s:=fun n=>(k2 ((qab n).2.1))) fun n=>(qfz n).2.1
theorem zci:FH IP 246 qtE qt3 (k4 qSu):=qbH (p:=qtE) (rs:=qt3) (s:=fun n=>(k4 ((qab n).2.2.1))) fun n=>(qfz n).2.2.1
theorem zbt:FH IP 247 qts qtO (k2 qSp):=qbH (p:=qts) (rs:=qtO) (s:=fun n=>(k2 ((qab n).2.2.2.1))) fun n=>(qfz n).2.2.2.1
theorem zbM:FH IP 271 qtv qtR (k3 qSs):=qbH (p:=qtv) (rs:=qtR) (s:=fun n=>(k3 ((qab n).f))) fun n=>(qfz n).2.2.2.2
def zr2:=znv.a zcf
def zr3:=zr2.a zaZ
def zr4:=zr3.a zci
def zr5:=zr4.a zbt
def zr6:=zr5.a zbM
def qqL(x0:List AV)(x1:Int):DT (Int×Int×List UInt8×List AV×Int×Int):=
 .bi (br (decide (x1<0)) (some true) (some (decide (x1>(x0.length:Int))))) (fun y0=>
 .br (y0)
 (.at ((0,0,[],[],x1,2)))
 (.bi (qxV x0 x1 0) (fun y1=>
 .br (!y1.f.2)
 (.at ((0,0,[],[],y1.f.1,2)))
 (.bi (qig y1.1 y1.2.1 y1.2.2.1 y1.2.2.2.1) (fun y2=>
 .br (y2 != 0) (.at ((0,0,[],[],x1,y2))) (.at ((y1.1,y1.2.1,y1.2.2.1,y1.2.2.2.1,y1.f.1,0))))
 (.no)))
 (.no)))
 (.no)
def qsf(x0:List AV)(x1:Int):=qaC (qqL x0 x1).ev
theorem qMb(x0 x1):qsf x0 x1=(qqL x0 x1).ev:=qaa _
theorem zcd:FH IP 169 ⟨[.view 3,.int .i64],[]⟩ [⟨false,.tup [.agg [.int .i64,.int .i64,.str,.view 4],.int .i64,.int .i64],[]⟩] (k2 qsf):=fh zmo (k2 qqL) zr6
def zr7:=zr6.a zcd
abbrev qC7:Type:=List AV×Int×Int×Int×Int×List UInt8×List AV
def qkL(x0:List AV)(x1 x2:Int):DT qC7:=
 .br (x2 != 0)
 (.at ((x0,x1,x2,0,0,[],[])))
 (.bi (qsf x0 x1) (fun y0=>
 .br (y0.f.2 != 0)
 (.bi (qbN x0 x1 x2 y0.f.1 y0.f.2) (fun y1=>
 .at ((y1.1,y1.2.1,y1.2.2,0,0,[],[])))
 (.no))
 (.at ((x0,y0.f.1,x2,y0.1,y0.2.1,y0.2.2.1,y0.2.2.2.1))))
 (.no))
def qet(x0:List AV)(x1 x2:Int):=qaC (qkL x0 x1 x2).ev
theorem qLs(x0 x1 x2):qet x0 x1 x2=(qkL x0 x1 x2).ev:=qaa _
theorem zbh:FH IP 111 ⟨[.agg [.view 3,.int .i64,.int .i64]],[]⟩ [⟨false,.tup [.agg [.view 3,.int .i64,.int .i64],.agg [.int .i64,.int .i64,.str,.view 4]],[]⟩] (k3 qet):=fh zl2 (k3 qkL) zr7
def zr8:=zr7.a zbh
abbrev qen:Type:=(List AV×Int×Int×Int×Int×List UInt8×List UInt8×List UInt8×Int×Int×Int×Int×Bool×Int×Int×Bool×Bool×Int×Int×Bool×List UInt8×List UInt8×List UInt8×Int×Int×Int×Int×List AV×Bool×Int×Int×Bool×List AV×Bool×Int×Int×Bool)⊕(List AV×Int×Int×Int×Int×List UInt8×List UInt8×List UInt8×Int×Int×Int×Int×Bool×Int×Int×Bool×Bool×Int×Int×Bool×List UInt8×List UInt8×List UInt8×Int×Int×Int×Int×List AV×Bool×Int×Int×Bool×List AV×Bool×Int×Int×Bool×List AV)
def qTu:List PSt:=[⟨[(1004300,.junk),(1,.ref 0 0 0),(2,.ref 1 0 0),(3,.ref 2 0 0),(4,.ref 3 0 0)],[(0,.box [.view 3,.int .i64,.int .i64] false),(1,.box [.nils 3,.int .i64,.int .i64] false),(2,.box [.str,.str,.str,.int .i64,.int .i64,.int .i64,.int .i64,.nils 2,.bool,.int .i64,.int .i64,.bool,.nils 2,.bool,.int .i64,.int .i64,.bool,.nils 10,.nils 6] false),(3,.box [.str,.str,.str,.int .i64,.int .i64,.int .i64,.int .i64,.view 2,.bool,.int .i64,.int .i64,.bool,.view 2,.bool,.int .i64,.int .i64,.bool,.nils 10,.nils 6] false)],4,0⟩,⟨[(1004300,.junk),(1,.ref 0 0 0),(2,.ref 1 0 0),(3,.ref 2 0 0),(4,.ref 3 0 0)],[(0,.box [.view 3,.int .i64,.int .i64] false),(1,.box [.nils 3,.int .i64,.int .i64] false),(2,.box [.str,.str,.str,.int .i64,.int .i64,.int .i64,.int .i64,.nils 2,.bool,.int .i64,.int .i64,.bool,.nils 2,.bool,.int .i64,.int .i64,.bool,.nils 10,.nils 6] false),(3,.box [.str,.str,.str,.int .i64,.int .i64,.int .i64,.int .i64,.view 2,.bool,.int .i64,.int .i64,.bool,.view 2,.bool,.int .i64,.int .i64,.bool,.own 4 0,.nils 6] false),(4,.arr 10 false)],5,0⟩]
def q44(x0:List AV)(x1 x2:Int)(x3 x4:Int)(x5 x6 x7:List UInt8)(x8 x9:Int)(x10 x11:Int)(x12:Bool)(x13 x14:Int)(x15 x16:Bool)(x17 x18:Int)(x19:Bool)(x20 x21 x22:List UInt8)(x23 x24:Int)(x25 x26:Int)(x27:List AV)(x28:Bool)(x29 x30:Int)(x31:Bool)(x32:List AV)(x33:Bool)(x34 x35:Int)(x36:Bool):X×St:=(.exit 0,
 ⟨[(1,.ref 0 0 0),(2,.ref 1 0 0),(3,.ref 2 0 0),(4,.ref 3 0 0)],[(0,.box [.view 3 x0,.int .i64 x1,.int .i64 x2] false),
 (1,.box [.nils ⟨3,.nil⟩,.int .i64 x3,.int .i64 x4] false),
 (2,
 .box
 [.str x5,.str x6,.str x7,.int .i64 x8,.int .i64 x9,.int .i64 x10,.int .i64 x11,.nils ⟨2,.nil⟩,
 .bool x12,.int .i64 x13,.int .i64 x14,.bool x15,.nils ⟨2,.nil⟩,.bool x16,.int .i64 x17,
 .int .i64 x18,.bool x19,.nils ⟨10,.nil⟩,.nils ⟨6,.nil⟩]
 false),
 (3,
 .box
 [.str x20,.str x21,.str x22,.int .i64 x23,.int .i64 x24,.int .i64 x25,.int .i64 x26,.view 2 x27,.bool x28,
 .int .i64 x29,.int .i64 x30,.bool x31,.view 2 x32,.bool x33,.int .i64 x34,.int .i64 x35,.bool x36,
 .nils ⟨10,.nil⟩,.nils ⟨6,.nil⟩]
 false)],4,0⟩)
def q45(x0:List AV)(x1 x2:Int)(x3 x4:Int)(x5 x6 x7:List UInt8)(x8 x9:Int)(x10 x11:Int)(x12:Bool)(x13 x14:Int)(x15 x16:Bool)(x17 x18:Int)(x19:Bool)(x20 x21 x22:List UInt8)(x23 x24:Int)(x25 x26:Int)(x27:List AV)(x28:Bool)(x29 x30:Int)(x31:Bool)(x32:List AV)(x33:Bool)(x34 x35:Int)(x36:Bool)(x37:List AV):X×St:=(.exit 0,
 ⟨[(1,.ref 0 0 0),(2,.ref 1 0 0),(3,.ref 2 0 0),(4,.ref 3 0 0)],[(0,.box [.view 3 x0,.int .i64 x1,.int .i64 x2] false),
 (1,.box [.nils ⟨3,.nil⟩,.int .i64 x3,.int .i64 x4] false),
 (2,
 .box
 [.str x5,.str x6,.str x7,.int .i64 x8,.int .i64 x9,.int .i64 x10,.int .i64 x11,.nils ⟨2,.nil⟩,
 .bool x12,.int .i64 x13,.int .i64 x14,.bool x15,.nils ⟨2,.nil⟩,.bool x16,.int .i64 x17,
 .int .i64 x18,.bool x19,.nils ⟨10,.nil⟩,.nils ⟨6,.nil⟩]
 false),
 (3,
 .box
 [.str x20,.str x21,.str x22,.int .i64 x23,.int .i64 x24,.int .i64 x25,.int .i64 x26,.view 2 x27,.bool x28,
 .int .i64 x29,.int .i64 x30,.bool x31,.view 2 x32,.bool x33,.int .i64 x34,.int .i64 x35,.bool x36,.own 4 0 none,
 .nils ⟨6,.nil⟩]
 false),
 (4,.arr 10 x37 false)],5,0⟩)
def zlG:List (qen->X×St):=[fun w=>(k37 q44) ((sl w)),fun w=>(k38 q45) ((sr w))]
def quq(x0:List AV)(x1 x2:Int)(x3 x4:Int)(x5 x6 x7:List UInt8)(x8 x9:Int)(x10 x11:Int)(x12:Bool)(x13 x14:Int)(x15 x16:Bool)(x17 x18:Int)(x19:Bool)(x20 x21 x22:List UInt8)(x23 x24:Int)(x25 x26:Int)(x27:List AV)(x28:Bool)(x29 x30:Int)(x31:Bool)(x32:List AV)(x33:Bool)(x34 x35:Int)(x36:Bool):DT (Rd qen):=
 .bi (qdu x0 x1 x2 5 [102,101,101]) (fun y0=>
 .br (y0)
 (.bi (qaM x0 x1 x2 5 [102,101,101]) (fun y1=>
 .bi (qc3 y1.1 y1.2.1 y1.2.2 1) (fun y2=>
 .bi (qjj) (fun y3=>
 .bi (qdt y2.1 y2.2.1 y2.2.2.1 y3) (fun y4=>
 .bi (qaM y4.1 y4.2.1 y4.2.2.1 5 [119,104,101,110]) (fun y5=>
 .bi (qet y5.1 y5.2.1 y5.2.2) (fun y6=>
 .bi (qaM y6.1 y6.2.1 y6.2.2.1 5 [97,109,111,117,110,116,95,111,102]) (fun y7=>
 .bi (qet y7.1 y7.2.1 y7.2.2) (fun y8=>
 .bi (qcy y8.1 y8.2.1 y8.2.2.1) (fun y9=>
 .at (.next ((.inr (y9.1,y9.2.1,y9.2.2,x3,x4,x5,x6,x7,x8,x9,x10,x11,x12,x13,x14,x15,x16,x17,x18,x19,x20,x21,x22,x23,x24,x25,x26,x27,x28,x29,x30,x31,x32,x33,x34,x35,x36,[AV.agg
 [AV.str y2.2.2.2,.int .i64 y4.2.2.2,.int .i64 y6.2.2.2.1,.int .i64 y6.f.1,AV.str y6.f.2.1,
 AV.view 4 y6.f.2.2,.int .i64 y8.2.2.2.1,.int .i64 y8.f.1,AV.str y8.f.2.1,
 AV.view 4 y8.f.2.2]])))))
 (.no))
 (.no))
 (.no))
 (.no))
 (.no))
 (.no))
 (.no))
 (.no))
 (.no))
 (.at (.done 0)))
 (.no)
def qur(x0:List AV)(x1 x2:Int)(x3 x4:Int)(x5 x6 x7:List UInt8)(x8 x9:Int)(x10 x11:Int)(x12:Bool)(x13 x14:Int)(x15 x16:Bool)(x17 x18:Int)(x19:Bool)(x20 x21 x22:List UInt8)(x23 x24:Int)(x25 x26:Int)(x27:List AV)(x28:Bool)(x29 x30:Int)(x31:Bool)(x32:List AV)(x33:Bool)(x34 x35:Int)(x36:Bool)(x37:List AV):DT (Rd qen):=
 .bi (qdu x0 x1 x2 5 [102,101,101]) (fun y0=>
 .br (y0)
 (.bi (qaM x0 x1 x2 5 [102,101,101]) (fun y1=>
 .bi (qc3 y1.1 y1.2.1 y1.2.2 1) (fun y2=>
 .bi (qjj) (fun y3=>
 .bi (qdt y2.1 y2.2.1 y2.2.2.1 y3) (fun y4=>
 .bi (qaM y4.1 y4.2.1 y4.2.2.1 5 [119,104,101,110]) (fun y5=>
 .bi (qet y5.1 y5.2.1 y5.2.2) (fun y6=>
 .bi (qaM y6.1 y6.2.1 y6.2.2.1 5 [97,109,111,117,110,116,95,111,102]) (fun y7=>
 .bi (qet y7.1 y7.2.1 y7.2.2) (fun y8=>
 .bi (qcy y8.1 y8.2.1 y8.2.2.1) (fun y9=>
 .br (room (x37.length+1) 136)
 (.at (.next ((.inr (y9.1,y9.2.1,y9.2.2,x3,x4,x5,x6,x7,x8,x9,x10,x11,x12,x13,x14,x15,x16,x17,x18,x19,x20,x21,x22,x23,x24,x25,x26,x27,x28,x29,x30,x31,x32,x33,x34,x35,x36,x37 ++
 [AV.agg
 [AV.str y2.2.2.2,.int .i64 y4.2.2.2,.int .i64 y6.2.2.2.1,.int .i64 y6.f.1,
 AV.str y6.f.2.1,AV.view 4 y6.f.2.2,.int .i64 y8.2.2.2.1,.int .i64 y8.f.1,
 AV.str y8.f.2.1,AV.view 4 y8.f.2.2]])))))
 (.no))
 (.no))
 (.no))
 (.no))
 (.no))
 (.no))
 (.no))
 (.no))
 (.no))
 (.no))
 (.at (.done 1)))
 (.no)
def qez:qen->DT (Rd qen):=(Sum.elim (fun v=>quq v.1 v.2.1 v.2.2.1 v.2.2.2.1 v.f.1 v.f.2.1 v.f.2.2.1 v.f.2.2.2.1 v.h.1 v.h.2.1 v.h.2.2.1 v.h.2.2.2.1 v.h.f.1 v.h.f.2.1 v.h.f.2.2.1 v.h.f.2.2.2.1 v.i.1 v.i.2.1 v.i.2.2.1 v.i.2.2.2.1 v.i.f.1 v.i.f.2.1 v.i.f.2.2.1 v.i.f.2.2.2.1 v.i.h.1 v.i.h.2.1 v.i.h.2.2.1 v.i.h.2.2.2.1 v.i.h.f.1 v.i.h.f.2.1 v.i.h.f.2.2.1 v.i.h.f.2.2.2.1 v.i.i.1 v.i.i.2.1 v.i.i.2.2.1 v.i.i.2.2.2.1 v.i.i.f) (fun v=>qur v.1 v.2.1 v.2.2.1 v.2.2.2.1 v.f.1 v.f.2.1 v.f.2.2.1 v.f.2.2.2.1 v.h.1 v.h.2.1 v.h.2.2.1 v.h.2.2.2.1 v.h.f.1 v.h.f.2.1 v.h.f.2.2.1 v.h.f.2.2.2.1 v.i.1 v.i.2.1 v.i.2.2.1 v.i.2.2.2.1 v.i.f.1 v.i.f.2.1 v.i.f.2.2.1 v.i.f.2.2.2.1 v.i.h.1 v.i.h.2.1 v.i.h.2.2.1 v.i.h.2.2.2.1 v.i.h.f.1 v.i.h.f.2.1 v.i.h.f.2.2.1 v.i.h.f.2.2.2.1 v.i.i.1 v.i.i.2.1 v.i.i.2.2.1 v.i.i.2.2.2.1 v.i.i.f.1 v.i.i.f.2))
def qIQ(v:qen):=lo qez v
theorem qgc(v):qIQ v=qae (fun v=>(qez v).ev) v:=qaa _
def qUp:qbJ:=LE (τ:=qen) (hD qTu) (qIQ) zlG
theorem zkV:Go.Eng.Told IP (qad F43 0).1 (qad F43 0).2 (qUp):=qas (inferInstance:Inhabited qen) (hs:=qTu) (st:=qez) (L:=[]) zr8.ok (qac (l:=[]) (by kernel_rfl) trivial) (qgc) (fun v=>match v with|(.inl v)=>by kernel_rfl|(.inr v)=>by kernel_rfl) (fun v=>match v with|(.inl v)=>by kernel_rfl|(.inr v)=>by kernel_rfl)
abbrev qcM:Type:=(List AV×Int×Int×Int×Int×List UInt8×List UInt8×List UInt8×Int×Int×Int×Int×Bool×Int×Int×Bool×Bool×Int×Int×Bool×List UInt8×List UInt8×List UInt8×Int×Int×Int×Int×List AV×Bool×Int×Int×Bool×List AV×Bool×Int×Int×Bool)⊕(List AV×Int×Int×Int×Int×List UInt8×List UInt8×List UInt8×Int×Int×Int×Int×Bool×Int×Int×Bool×Bool×Int×Int×Bool×List UInt8×List UInt8×List UInt8×Int×Int×Int×Int×List AV×Bool×Int×Int×Bool×List AV×Bool×Int×Int×Bool×List AV)⊕(List AV×Int×Int×Int×Int×List UInt8×List UInt8×List UInt8×Int×Int×Int×Int×Bool×Int×Int×Bool×Bool×Int×Int×Bool×List UInt8×List UInt8×List UInt8×Int×Int×Int×Int×List AV×Bool×Int×Int×Bool×List AV×Bool×Int×Int×Bool×List AV)⊕(List AV×Int×Int×Int×Int×List UInt8×List UInt8×List UInt8×Int×Int×Int×Int×Bool×Int×Int×Bool×Bool×Int×Int×Bool×List UInt8×List UInt8×List UInt8×Int×Int×Int×Int×List AV×Bool×Int×Int×Bool×List AV×Bool×Int×Int×Bool×List AV×List AV)
def qTv:List PSt:=[⟨[(1004301,.junk),(1,.ref 0 0 0),(2,.ref 1 0 0),(3,.ref 2 0 0),(4,.ref 3 0 0)],[(0,.box [.view 3,.int .i64,.int .i64] false),(1,.box [.nils 3,.int .i64,.int .i64] false),(2,.box [.str,.str,.str,.int .i64,.int .i64,.int .i64,.int .i64,.nils 2,.bool,.int .i64,.int .i64,.bool,.nils 2,.bool,.int .i64,.int .i64,.bool,.nils 10,.nils 6] false),(3,.box [.str,.str,.str,.int .i64,.int .i64,.int .i64,.int .i64,.view 2,.bool,.int .i64,.int .i64,.bool,.view 2,.bool,.int .i64,.int .i64,.bool,.nils 10,.nils 6] false)],4,0⟩,⟨[(1004301,.junk),(1,.ref 0 0 0),(2,.ref 1 0 0),(3,.ref 2 0 0),(4,.ref 3 0 0)],[(0,.box [.view 3,.int .i64,.int .i64] false),(1,.box [.nils 3,.int .i64,.int .i64] false),(2,.box [.str,.str,.str,.int .i64,.int .i64,.int .i64,.int .i64,.nils 2,.bool,.int .i64,.int .i64,.bool,.nils 2,.bool,.int .i64,.int .i64,.bool,.nils 10,.nils 6] false),(3,.box [.str,.str,.str,.int .i64,.int .i64,.int .i64,.int .i64,.view 2,.bool,.int .i64,.int .i64,.bool,.view 2,.bool,.int .i64,.int .i64,.bool,.own 4 0,.nils 6] false),(4,.arr 10 false)],5,0⟩,⟨[(1004301,.junk),(1,.ref 0 0 0),(2,.ref 1 0 0),(3,.ref 2 0 0),(4,.ref 3 0 0)],[(0,.box [.view 3,.int .i64,.int .i64] false),(1,.box [.nils 3,.int .i64,.int .i64] false),(2,.box [.str,.str,.str,.int .i64,.int .i64,.int .i64,.int .i64,.nils 2,.bool,.int .i64,.int .i64,.bool,.nils 2,.bool,.int .i64,.int .i64,.bool,.nils 10,.nils 6] false),(3,.box [.str,.str,.str,.int .i64,.int .i64,.int .i64,.int .i64,.view 2,.bool,.int .i64,.int .i64,.bool,.view 2,.bool,.int .i64,.int .i64,.bool,.nils 10,.own 4 0] false),(4,.arr 6 false)],5,0⟩,⟨[(1004301,.junk),(1,.ref 0 0 0),(2,.ref 1 0 0),(3,.ref 2 0 0),(4,.ref 3 0 0)],[(0,.box [.view 3,.int .i64,.int .i64] false),(1,.box [.nils 3,.int .i64,.int .i64] false),(2,.box [.str,.str,.str,.int .i64,.int .i64,.int .i64,.int .i64,.nils 2,.bool,.int .i64,.int .i64,.bool,.nils 2,.bool,.int .i64,.int .i64,.bool,.nils 10,.nils 6] false),(3,.box [.str,.str,.str,.int .i64,.int .i64,.int .i64,.int .i64,.view 2,.bool,.int .i64,.int .i64,.bool,.view 2,.bool,.int .i64,.int .i64,.bool,.own 4 0,.own 5 0] false),(4,.arr 10 false),(5,.arr 6 false)],6,0⟩]
def q46(x0:List AV)(x1 x2:Int)(x3 x4:Int)(x5 x6 x7:List UInt8)(x8 x9:Int)(x10 x11:Int)(x12:Bool)(x13 x14:Int)(x15 x16:Bool)(x17 x18:Int)(x19:Bool)(x20 x21 x22:List UInt8)(x23 x24:Int)(x25 x26:Int)(x27:List AV)(x28:Bool)(x29 x30:Int)(x31:Bool)(x32:List AV)(x33:Bool)(x34 x35:Int)(x36:Bool):X×St:=(.exit 2,
 ⟨[(1,.ref 0 0 0),(2,.ref 1 0 0),(3,.ref 2 0 0),(4,.ref 3 0 0)],[(0,.box [.view 3 x0,.int .i64 x1,.int .i64 x2] false),
 (1,.box [.nils ⟨3,.nil⟩,.int .i64 x3,.int .i64 x4] false),
 (2,
 .box
 [.str x5,.str x6,.str x7,.int .i64 x8,.int .i64 x9,.int .i64 x10,.int .i64 x11,.nils ⟨2,.nil⟩,
 .bool x12,.int .i64 x13,.int .i64 x14,.bool x15,.nils ⟨2,.nil⟩,.bool x16,.int .i64 x17,
 .int .i64 x18,.bool x19,.nils ⟨10,.nil⟩,.nils ⟨6,.nil⟩]
 false),
 (3,
 .box
 [.str x20,.str x21,.str x22,.int .i64 x23,.int .i64 x24,.int .i64 x25,.int .i64 x26,.view 2 x27,.bool x28,
 .int .i64 x29,.int .i64 x30,.bool x31,.view 2 x32,.bool x33,.int .i64 x34,.int .i64 x35,.bool x36,
 .nils ⟨10,.nil⟩,.nils ⟨6,.nil⟩]
 false)],4,0⟩)
def q47(x0:List AV)(x1 x2:Int)(x3 x4:Int)(x5 x6 x7:List UInt8)(x8 x9:Int)(x10 x11:Int)(x12:Bool)(x13 x14:Int)(x15 x16:Bool)(x17 x18:Int)(x19:Bool)(x20 x21 x22:List UInt8)(x23 x24:Int)(x25 x26:Int)(x27:List AV)(x28:Bool)(x29 x30:Int)(x31:Bool)(x32:List AV)(x33:Bool)(x34 x35:Int)(x36:Bool)(x37:List AV):X×St:=(.exit 2,
 ⟨[(1,.ref 0 0 0),(2,.ref 1 0 0),(3,.ref 2 0 0),(4,.ref 3 0 0)],[(0,.box [.view 3 x0,.int .i64 x1,.int .i64 x2] false),
 (1,.box [.nils ⟨3,.nil⟩,.int .i64 x3,.int .i64 x4] false),
 (2,
 .box
 [.str x5,.str x6,.str x7,.int .i64 x8,.int .i64 x9,.int .i64 x10,.int .i64 x11,.nils ⟨2,.nil⟩,
 .bool x12,.int .i64 x13,.int .i64 x14,.bool x15,.nils ⟨2,.nil⟩,.bool x16,.int .i64 x17,
 .int .i64 x18,.bool x19,.nils ⟨10,.nil⟩,.nils ⟨6,.nil⟩]
 false),
 (3,
 .box
 [.str x20,.str x21,.str x22,.int .i64 x23,.int .i64 x24,.int .i64 x25,.int .i64 x26,.view 2 x27,.bool x28,
 .int .i64 x29,.int .i64 x30,.bool x31,.view 2 x32,.bool x33,.int .i64 x34,.int .i64 x35,.bool x36,.own 4 0 none,
 .nils ⟨6,.nil⟩]
 false),
 (4,.arr 10 x37 false)],5,0⟩)
def q48(x0:List AV)(x1 x2:Int)(x3 x4:Int)(x5 x6 x7:List UInt8)(x8 x9:Int)(x10 x11:Int)(x12:Bool)(x13 x14:Int)(x15 x16:Bool)(x17 x18:Int)(x19:Bool)(x20 x21 x22:List UInt8)(x23 x24:Int)(x25 x26:Int)(x27:List AV)(x28:Bool)(x29 x30:Int)(x31:Bool)(x32:List AV)(x33:Bool)(x34 x35:Int)(x36:Bool)(x37:List AV):X×St:=(.exit 2,
 ⟨[(1,.ref 0 0 0),(2,.ref 1 0 0),(3,.ref 2 0 0),(4,.ref 3 0 0)],[(0,.box [.view 3 x0,.int .i64 x1,.int .i64 x2] false),
 (1,.box [.nils ⟨3,.nil⟩,.int .i64 x3,.int .i64 x4] false),
 (2,
 .box
 [.str x5,.str x6,.str x7,.int .i64 x8,.int .i64 x9,.int .i64 x10,.int .i64 x11,.nils ⟨2,.nil⟩,
 .bool x12,.int .i64 x13,.int .i64 x14,.bool x15,.nils ⟨2,.nil⟩,.bool x16,.int .i64 x17,
 .int .i64 x18,.bool x19,.nils ⟨10,.nil⟩,.nils ⟨6,.nil⟩]
 false),
 (3,
 .box
 [.str x20,.str x21,.str x22,.int .i64 x23,.int .i64 x24,.int .i64 x25,.int .i64 x26,.view 2 x27,.bool x28,
 .int .i64 x29,.int .i64 x30,.bool x31,.view 2 x32,.bool x33,.int .i64 x34,.int .i64 x35,.bool x36,
 .nils ⟨10,.nil⟩,.own 4 0 none]
 false),
 (4,.arr 6 x37 false)],5,0⟩)
def q49(x0:List AV)(x1 x2:Int)(x3 x4:Int)(x5 x6 x7:List UInt8)(x8 x9:Int)(x10 x11:Int)(x12:Bool)(x13 x14:Int)(x15 x16:Bool)(x17 x18:Int)(x19:Bool)(x20 x21 x22:List UInt8)(x23 x24:Int)(x25 x26:Int)(x27:List AV)(x28:Bool)(x29 x30:Int)(x31:Bool)(x32:List AV)(x33:Bool)(x34 x35:Int)(x36:Bool)(x37 x38:List AV):X×St:=(.exit 2,
 ⟨[(1,.ref 0 0 0),(2,.ref 1 0 0),(3,.ref 2 0 0),(4,.ref 3 0 0)],[(0,.box [.view 3 x0,.int .i64 x1,.int .i64 x2] false),
 (1,.box [.nils ⟨3,.nil⟩,.int .i64 x3,.int .i64 x4] false),
 (2,
 .box
 [.str x5,.str x6,.str x7,.int .i64 x8,.int .i64 x9,.int .i64 x10,.int .i64 x11,.nils ⟨2,.nil⟩,
 .bool x12,.int .i64 x13,.int .i64 x14,.bool x15,.nils ⟨2,.nil⟩,.bool x16,.int .i64 x17,
 .int .i64 x18,.bool x19,.nils ⟨10,.nil⟩,.nils ⟨6,.nil⟩]
 false),
 (3,
 .box
 [.str x20,.str x21,.str x22,.int .i64 x23,.int .i64 x24,.int .i64 x25,.int .i64 x26,.view 2 x27,.bool x28,
 .int .i64 x29,.int .i64 x30,.bool x31,.view 2 x32,.bool x33,.int .i64 x34,.int .i64 x35,.bool x36,.own 4 0 none,
 .own 5 0 none]
 false),
 (4,.arr 10 x37 false),(5,.arr 6 x38 false)],6,0⟩)
def zlH:List (qcM->X×St):=[fun w=>(k37 q46) ((sl w)),fun w=>(k38 q47) ((sl (sr w))),fun w=>(k38 q48) ((sl (sr (sr w)))),fun w=>(k39 q49) ((sr (sr (sr w))))]
def qus(x0:List AV)(x1 x2:Int)(x3 x4:Int)(x5 x6 x7:List UInt8)(x8 x9:Int)(x10 x11:Int)(x12:Bool)(x13 x14:Int)(x15 x16:Bool)(x17 x18:Int)(x19:Bool)(x20 x21 x22:List UInt8)(x23 x24:Int)(x25 x26:Int)(x27:List AV)(x28:Bool)(x29 x30:Int)(x31:Bool)(x32:List AV)(x33:Bool)(x34 x35:Int)(x36:Bool):DT (Rd qcM):=
 .bi (qdu x0 x1 x2 5 [108,105,109,105,116]) (fun y0=>
 .br (y0)
 (.bi (qaM x0 x1 x2 5 [108,105,109,105,116]) (fun y1=>
 .bi (qc3 y1.1 y1.2.1 y1.2.2 1) (fun y2=>
 .bi (qgZ) (fun y3=>
 .bi (qdt y2.1 y2.2.1 y2.2.2.1 y3) (fun y4=>
 .bi (qet y4.1 y4.2.1 y4.2.2.1) (fun y5=>
 .bi (qcy y5.1 y5.2.1 y5.2.2.1) (fun y6=>
 .at (.next ((.inr (.inr (.inl (y6.1,y6.2.1,y6.2.2,x3,x4,x5,x6,x7,x8,x9,x10,x11,x12,x13,x14,x15,x16,x17,x18,x19,x20,x21,x22,x23,x24,x25,x26,x27,x28,x29,x30,x31,x32,x33,x34,x35,x36,[AV.agg
 [AV.str y2.2.2.2,.int .i64 y4.2.2.2,.int .i64 y5.2.2.2.1,.int .i64 y5.f.1,AV.str y5.f.2.1,
 AV.view 4 y5.f.2.2]])))))))
 (.no))
 (.no))
 (.no))
 (.no))
 (.no))
 (.no))
 (.at (.done 0)))
 (.no)
def qut(x0:List AV)(x1 x2:Int)(x3 x4:Int)(x5 x6 x7:List UInt8)(x8 x9:Int)(x10 x11:Int)(x12:Bool)(x13 x14:Int)(x15 x16:Bool)(x17 x18:Int)(x19:Bool)(x20 x21 x22:List UInt8)(x23 x24:Int)(x25 x26:Int)(x27:List AV)(x28:Bool)(x29 x30:Int)(x31:Bool)(x32:List AV)(x33:Bool)(x34 x35:Int)(x36:Bool)(x37:List AV):DT (Rd qcM):=
 .bi (qdu x0 x1 x2 5 [108,105,109,105,116]) (fun y0=>
 .br (y0)
 (.bi (qaM x0 x1 x2 5 [108,105,109,105,116]) (fun y1=>
 .bi (qc3 y1.1 y1.2.1 y1.2.2 1) (fun y2=>
 .bi (qgZ) (fun y3=>
 .bi (qdt y2.1 y2.2.1 y2.2.2.1 y3) (fun y4=>
 .bi (qet y4.1 y4.2.1 y4.2.2.1) (fun y5=>
 .bi (qcy y5.1 y5.2.1 y5.2.2.1) (fun y6=>
 .at (.next ((.inr (.inr (.inr (y6.1,y6.2.1,y6.2.2,x3,x4,x5,x6,x7,x8,x9,x10,x11,x12,x13,x14,x15,x16,x17,x18,x19,x20,x21,x22,x23,x24,x25,x26,x27,x28,x29,x30,x31,x32,x33,x34,x35,x36,x37,[AV.agg
 [AV.str y2.2.2.2,.int .i64 y4.2.2.2,.int .i64 y5.2.2.2.1,.int .i64 y5.f.1,AV.str y5.f.2.1,
 AV.view 4 y5.f.2.2]])))))))
 (.no))
 (.no))
 (.no))
 (.no))
 (.no))
 (.no))
 (.at (.done 1)))
 (.no)
def quu(x0:List AV)(x1 x2:Int)(x3 x4:Int)(x5 x6 x7:List UInt8)(x8 x9:Int)(x10 x11:Int)(x12:Bool)(x13 x14:Int)(x15 x16:Bool)(x17 x18:Int)(x19:Bool)(x20 x21 x22:List UInt8)(x23 x24:Int)(x25 x26:Int)(x27:List AV)(x28:Bool)(x29 x30:Int)(x31:Bool)(x32:List AV)(x33:Bool)(x34 x35:Int)(x36:Bool)(x37:List AV):DT (Rd qcM):=
 .bi (qdu x0 x1 x2 5 [108,105,109,105,116]) (fun y0=>
 .br (y0)
 (.bi (qaM x0 x1 x2 5 [108,105,109,105,116]) (fun y1=>
 .bi (qc3 y1.1 y1.2.1 y1.2.2 1) (fun y2=>
 .bi (qgZ) (fun y3=>
 .bi (qdt y2.1 y2.2.1 y2.2.2.1 y3) (fun y4=>
 .bi (qet y4.1 y4.2.1 y4.2.2.1) (fun y5=>
 .bi (qcy y5.1 y5.2.1 y5.2.2.1) (fun y6=>
 .br (room (x37.length+1) 80)
 (.at (.next ((.inr (.inr (.inl (y6.1,y6.2.1,y6.2.2,x3,x4,x5,x6,x7,x8,x9,x10,x11,x12,x13,x14,x15,x16,x17,x18,x19,x20,x21,x22,x23,x24,x25,x26,x27,x28,x29,x30,x31,x32,x33,x34,x35,x36,x37 ++
 [AV.agg
 [AV.str y2.2.2.2,.int .i64 y4.2.2.2,.int .i64 y5.2.2.2.1,.int .i64 y5.f.1,
 AV.str y5.f.2.1,AV.view 4 y5.f.2.2]])))))))
 (.no))
 (.no))
 (.no))
 (.no))
 (.no))
 (.no))
 (.no))
 (.at (.done 2)))
 (.no)
def quv(x0:List AV)(x1 x2:Int)(x3 x4:Int)(x5 x6 x7:List UInt8)(x8 x9:Int)(x10 x11:Int)(x12:Bool)(x13 x14:Int)(x15 x16:Bool)(x17 x18:Int)(x19:Bool)(x20 x21 x22:List UInt8)(x23 x24:Int)(x25 x26:Int)(x27:List AV)(x28:Bool)(x29 x30:Int)(x31:Bool)(x32:List AV)(x33:Bool)(x34 x35:Int)(x36:Bool)(x37 x38:List AV):DT (Rd qcM):=
 .bi (qdu x0 x1 x2 5 [108,105,109,105,116]) (fun y0=>
 .br (y0)
 (.bi (qaM x0 x1 x2 5 [108,105,109,105,116]) (fun y1=>
 .bi (qc3 y1.1 y1.2.1 y1.2.2 1) (fun y2=>
 .bi (qgZ) (fun y3=>
 .bi (qdt y2.1 y2.2.1 y2.2.2.1 y3) (fun y4=>
 .bi (qet y4.1 y4.2.1 y4.2.2.1) (fun y5=>
 .bi (qcy y5.1 y5.2.1 y5.2.2.1) (fun y6=>
 .br (room (x38.length+1) 80)
 (.at (.next ((.inr (.inr (.inr (y6.1,y6.2.1,y6.2.2,x3,x4,x5,x6,x7,x8,x9,x10,x11,x12,x13,x14,x15,x16,x17,x18,x19,x20,x21,x22,x23,x24,x25,x26,x27,x28,x29,x30,x31,x32,x33,x34,x35,x36,x37,x38 ++
 [AV.agg
 [AV.str y2.2.2.2,.int .i64 y4.2.2.2,.int .i64 y5.2.2.2.1,.int .i64 y5.f.1,
 AV.str y5.f.2.1,AV.view 4 y5.f.2.2]])))))))
 (.no))
 (.no))
 (.no))
 (.no))
 (.no))
 (.no))
 (.no))
 (.at (.done 3)))
 (.no)
def qb7:qcM->DT (Rd qcM):=(Sum.elim (fun v=>qus v.1 v.2.1 v.2.2.1 v.2.2.2.1 v.f.1 v.f.2.1 v.f.2.2.1 v.f.2.2.2.1 v.h.1 v.h.2.1 v.h.2.2.1 v.h.2.2.2.1 v.h.f.1 v.h.f.2.1 v.h.f.2.2.1 v.h.f.2.2.2.1 v.i.1 v.i.2.1 v.i.2.2.1 v.i.2.2.2.1 v.i.f.1 v.i.f.2.1 v.i.f.2.2.1 v.i.f.2.2.2.1 v.i.h.1 v.i.h.2.1 v.i.h.2.2.1 v.i.h.2.2.2.1 v.i.h.f.1 v.i.h.f.2.1 v.i.h.f.2.2.1 v.i.h.f.2.2.2.1 v.i.i.1 v.i.i.2.1 v.i.i.2.2.1 v.i.i.2.2.2.1 v.i.i.f) (Sum.elim (fun v=>qut v.1 v.2.1 v.2.2.1 v.2.2.2.1 v.f.1 v.f.2.1 v.f.2.2.1 v.f.2.2.2.1 v.h.1 v.h.2.1 v.h.2.2.1 v.h.2.2.2.1 v.h.f.1 v.h.f.2.1 v.h.f.2.2.1 v.h.f.2.2.2.1 v.i.1 v.i.2.1 v.i.2.2.1 v.i.2.2.2.1 v.i.f.1 v.i.f.2.1 v.i.f.2.2.1 v.i.f.2.2.2.1 v.i.h.1 v.i.h.2.1 v.i.h.2.2.1 v.i.h.2.2.2.1 v.i.h.f.1 v.i.h.f.2.1 v.i.h.f.2.2.1 v.i.h.f.2.2.2.1 v.i.i.1 v.i.i.2.1 v.i.i.2.2.1 v.i.i.2.2.2.1 v.i.i.f.1 v.i.i.f.2) (Sum.elim (fun v=>quu v.1 v.2.1 v.2.2.1 v.2.2.2.1 v.f.1 v.f.2.1 v.f.2.2.1 v.f.2.2.2.1 v.h.1 v.h.2.1 v.h.2.2.1 v.h.2.2.2.1 v.h.f.1 v.h.f.2.1 v.h.f.2.2.1 v.h.f.2.2.2.1 v.i.1 v.i.2.1 v.i.2.2.1 v.i.2.2.2.1 v.i.f.1 v.i.f.2.1 v.i.f.2.2.1 v.i.f.2.2.2.1 v.i.h.1 v.i.h.2.1 v.i.h.2.2.1 v.i.h.2.2.2.1 v.i.h.f.1 v.i.h.f.2.1 v.i.h.f.2.2.1 v.i.h.f.2.2.2.1 v.i.i.1 v.i.i.2.1 v.i.i.2.2.1 v.i.i.2.2.2.1 v.i.i.f.1 v.i.i.f.2) (fun v=>quv v.1 v.2.1 v.2.2.1 v.2.2.2.1 v.f.1 v.f.2.1 v.f.2.2.1 v.f.2.2.2.1 v.h.1 v.h.2.1 v.h.2.2.1 v.h.2.2.2.1 v.h.f.1 v.h.f.2.1 v.h.f.2.2.1 v.h.f.2.2.2.1 v.i.1 v.i.2.1 v.i.2.2.1 v.i.2.2.2.1 v.i.f.1 v.i.f.2.1 v.i.f.2.2.1 v.i.f.2.2.2.1 v.i.h.1 v.i.h.2.1 v.i.h.2.2.1 v.i.h.2.2.2.1 v.i.h.f.1 v.i.h.f.2.1 v.i.h.f.2.2.1 v.i.h.f.2.2.2.1 v.i.i.1 v.i.i.2.1 v.i.i.2.2.1 v.i.i.2.2.2.1 v.i.i.f.1 v.i.i.f.2.1 v.i.i.f.2.2))))
def qk3(v:qcM):=lo qb7 v
theorem qcC(v):qk3 v=qae (fun v=>(qb7 v).ev) v:=qaa _
def qUq:qbJ:=LE (τ:=qcM) (hD qTv) (qk3) zlH
theorem zkW:Go.Eng.Told IP (qad F43 1).1 (qad F43 1).2 (qUq):=qas (inferInstance:Inhabited qcM) (hs:=qTv) (st:=qb7) (L:=[]) zr8.ok (qac (l:=[]) (by kernel_rfl) trivial) (qcC) (fun v=>match v with|(.inl v)=>by kernel_rfl|(.inr (.inl v))=>by kernel_rfl|(.inr (.inr (.inl v)))=>by kernel_rfl|(.inr (.inr (.inr v)))=>by kernel_rfl) (fun v=>match v with|(.inl v)=>by kernel_rfl|(.inr (.inl v))=>by kernel_rfl|(.inr (.inr (.inl v)))=>by kernel_rfl|(.inr (.inr (.inr v)))=>by kernel_rfl)
abbrev qPX:Type:=List AV×Int×Int×List UInt8×List UInt8×List UInt8×Int×Int×Int×Int×List AV×Bool×Int×Int×Bool×List AV×Bool×Int×Int×Bool×List AV×List AV
def qAw(x0:List AV)(x1 x2:Int):DT qPX:=
 .bi (qaM x0 x1 x2 5 [112,114,111,100,117,99,116]) (fun y0=>
 .bi (qc3 y0.1 y0.2.1 y0.2.2 1) (fun y1=>
 .bi (qaM y1.1 y1.2.1 y1.2.2.1 4 [123]) (fun y2=>
 .bi (qaM y2.1 y2.2.1 y2.2.2 5 [99,117,114,114,101,110,99,121]) (fun y3=>
 .bi (qBg y3.1 y3.2.1 y3.2.2) (fun y4=>
 .bi (qcy y4.1 y4.2.1 y4.2.2.1) (fun y5=>
 .bi (qaM y5.1 y5.2.1 y5.2.2 5 [99,97,108,101,110,100,97,114]) (fun y6=>
 .bi (qc3 y6.1 y6.2.1 y6.2.2 1) (fun y7=>
 .bi (qcy y7.1 y7.2.1 y7.2.2.1) (fun y8=>
 .bi (qaM y8.1 y8.2.1 y8.2.2 5 [102,114,111,109]) (fun y9=>
 .bi (qrS y9.1 y9.2.1 y9.2.2) (fun y10=>
 .bi (qcy y10.1 y10.2.1 y10.2.2.1) (fun y11=>
 .bi (qaM y11.1 y11.2.1 y11.2.2 5 [101,118,101,114,121]) (fun y12=>
 .bi (qfM y12.1 y12.2.1 y12.2.2) (fun y13=>
 .bi (qcy y13.1 y13.2.1 y13.2.2.1) (fun y14=>
 .bi (qaM y14.1 y14.2.1 y14.2.2 5 [111,118,101,114,100,114,97,102,116]) (fun y15=>
 .bi (qaM y15.1 y15.2.1 y15.2.2 4 [36]) (fun y16=>
 .bi (qfM y16.1 y16.2.1 y16.2.2) (fun y17=>
 .bi (qcy y17.1 y17.2.1 y17.2.2.1) (fun y18=>
 .bi (qaM y18.1 y18.2.1 y18.2.2 5 [116,97,120]) (fun y19=>
 .bi (qlp y19.1 y19.2.1 y19.2.2) (fun y20=>
 .bi (qcy y20.1 y20.2.1 y20.2.2.1) (fun y21=>
 .bi (qvK y21.1 y21.2.1 y21.2.2 [99,114,101,100,105,116]) (fun y22=>
 .bi (qvK y22.1 y22.2.1 y22.2.2.1 [100,101,98,105,116]) (fun y23=>
 .bi (pj 0
 (qIQ
 (Sum.inl
 (y23.1,y23.2.1,y23.2.2.1,0,0,[],[],[],0,0,0,0,false,0,0,false,false,0,0,false,y1.2.2.2,y4.2.2.2,y7.2.2.2,y10.2.2.2,
 y13.2.2.2,y17.2.2.2,y20.2.2.2,y22.2.2.2.1,y22.f.1,y22.f.2.1,y22.f.2.2.1,
 y22.f.2.2.2,y23.2.2.2)))) (fun y24=>
 .bi (pj 0
 (qk3
 (Sum.inl
 ((sl y24))))) (fun y25=>
 .bi (qaM (sl y25).1 (sl y25).2.1 (sl y25).2.2.1 4 [125]) (fun y26=>
 .at ((y26.1,y26.2.1,y26.2.2,(sl y25).i.f.1,(sl y25).i.f.2.1,(sl y25).i.f.2.2.1,(sl y25).i.f.2.2.2.1,(sl y25).i.h.1,(sl y25).i.h.2.1,(sl y25).i.h.2.2.1,(sl y25).i.h.2.2.2.1,(sl y25).i.h.f.1,(sl y25).i.h.f.2.1,(sl y25).i.h.f.2.2.1,(sl y25).i.h.f.2.2.2.1,(sl y25).i.i.1,(sl y25).i.i.2.1,(sl y25).i.i.2.2.1,(sl y25).i.i.2.2.2.1,(sl y25).i.i.f,[],[])))
 (.no))
 (.bi (pj 1
 (qk3
 (Sum.inl
 ((sl y24))))) (fun y25=>
 .bi (qaM (sl (sr y25)).1 (sl (sr y25)).2.1 (sl (sr y25)).2.2.1 4 [125]) (fun y26=>
 .at ((y26.1,y26.2.1,y26.2.2,(sl (sr y25)).i.f.1,(sl (sr y25)).i.f.2.1,(sl (sr y25)).i.f.2.2.1,(sl (sr y25)).i.f.2.2.2.1,(sl (sr y25)).i.h.1,(sl (sr y25)).i.h.2.1,(sl (sr y25)).i.h.2.2.1,(sl (sr y25)).i.h.2.2.2.1,(sl (sr y25)).i.h.f.1,(sl (sr y25)).i.h.f.2.1,(sl (sr y25)).i.h.f.2.2.1,(sl (sr y25)).i.h.f.2.2.2.1,(sl (sr y25)).i.i.1,(sl (sr y25)).i.i.2.1,(sl (sr y25)).i.i.2.2.1,(sl (sr y25)).i.i.2.2.2.1,(sl (sr y25)).i.i.f.1,(sl (sr y25)).i.i.f.2,[])))
 (.no))
 (.bi (pj 2
 (qk3
 (Sum.inl
 ((sl y24))))) (fun y25=>
 .bi (qaM (sl (sr (sr y25))).1 (sl (sr (sr y25))).2.1 (sl (sr (sr y25))).2.2.1 4 [125]) (fun y26=>
 .at ((y26.1,y26.2.1,y26.2.2,(sl (sr (sr y25))).i.f.1,(sl (sr (sr y25))).i.f.2.1,(sl (sr (sr y25))).i.f.2.2.1,(sl (sr (sr y25))).i.f.2.2.2.1,(sl (sr (sr y25))).i.h.1,(sl (sr (sr y25))).i.h.2.1,(sl (sr (sr y25))).i.h.2.2.1,(sl (sr (sr y25))).i.h.2.2.2.1,(sl (sr (sr y25))).i.h.f.1,(sl (sr (sr y25))).i.h.f.2.1,(sl (sr (sr y25))).i.h.f.2.2.1,(sl (sr (sr y25))).i.h.f.2.2.2.1,(sl (sr (sr y25))).i.i.1,(sl (sr (sr y25))).i.i.2.1,(sl (sr (sr y25))).i.i.2.2.1,(sl (sr (sr y25))).i.i.2.2.2.1,(sl (sr (sr y25))).i.i.f.1,[],(sl (sr (sr y25))).i.i.f.2)))
 (.no))
 (.bi (pj 3
 (qk3
 (Sum.inl
 ((sl y24))))) (fun y25=>
 .bi (qaM (sr (sr (sr y25))).1 (sr (sr (sr y25))).2.1 (sr (sr (sr y25))).2.2.1 4 [125]) (fun y26=>
 .at ((y26.1,y26.2.1,y26.2.2,(sr (sr (sr y25))).i.f.1,(sr (sr (sr y25))).i.f.2.1,(sr (sr (sr y25))).i.f.2.2.1,(sr (sr (sr y25))).i.f.2.2.2.1,(sr (sr (sr y25))).i.h.1,(sr (sr (sr y25))).i.h.2.1,(sr (sr (sr y25))).i.h.2.2.1,(sr (sr (sr y25))).i.h.2.2.2.1,(sr (sr (sr y25))).i.h.f.1,(sr (sr (sr y25))).i.h.f.2.1,(sr (sr (sr y25))).i.h.f.2.2.1,(sr (sr (sr y25))).i.h.f.2.2.2.1,(sr (sr (sr y25))).i.i.1,(sr (sr (sr y25))).i.i.2.1,(sr (sr (sr y25))).i.i.2.2.1,(sr (sr (sr y25))).i.i.2.2.2.1,(sr (sr (sr y25))).i.i.f.1,(sr (sr (sr y25))).i.i.f.2.1,(sr (sr (sr y25))).i.i.f.2.2)))
 (.no))
 (.no)))))
 (.bi (pj 1
 (qIQ
 (Sum.inl
 (y23.1,y23.2.1,y23.2.2.1,0,0,[],[],[],0,0,0,0,false,0,0,false,false,0,0,false,y1.2.2.2,y4.2.2.2,y7.2.2.2,y10.2.2.2,
 y13.2.2.2,y17.2.2.2,y20.2.2.2,y22.2.2.2.1,y22.f.1,y22.f.2.1,y22.f.2.2.1,
 y22.f.2.2.2,y23.2.2.2)))) (fun y24=>
 .bi (pj 0
 (qk3
 (Sum.inr
 (Sum.inl
 ((sr y24)))))) (fun y25=>
 .bi (qaM (sl y25).1 (sl y25).2.1 (sl y25).2.2.1 4 [125]) (fun y26=>
 .at ((y26.1,y26.2.1,y26.2.2,(sl y25).i.f.1,(sl y25).i.f.2.1,(sl y25).i.f.2.2.1,(sl y25).i.f.2.2.2.1,(sl y25).i.h.1,(sl y25).i.h.2.1,(sl y25).i.h.2.2.1,(sl y25).i.h.2.2.2.1,(sl y25).i.h.f.1,(sl y25).i.h.f.2.1,(sl y25).i.h.f.2.2.1,(sl y25).i.h.f.2.2.2.1,(sl y25).i.i.1,(sl y25).i.i.2.1,(sl y25).i.i.2.2.1,(sl y25).i.i.2.2.2.1,(sl y25).i.i.f,[],[])))
 (.no))
 (.bi (pj 1
 (qk3
 (Sum.inr
 (Sum.inl
 ((sr y24)))))) (fun y25=>
 .bi (qaM (sl (sr y25)).1 (sl (sr y25)).2.1 (sl (sr y25)).2.2.1 4 [125]) (fun y26=>
 .at ((y26.1,y26.2.1,y26.2.2,(sl (sr y25)).i.f.1,(sl (sr y25)).i.f.2.1,(sl (sr y25)).i.f.2.2.1,(sl (sr y25)).i.f.2.2.2.1,(sl (sr y25)).i.h.1,(sl (sr y25)).i.h.2.1,(sl (sr y25)).i.h.2.2.1,(sl (sr y25)).i.h.2.2.2.1,(sl (sr y25)).i.h.f.1,(sl (sr y25)).i.h.f.2.1,(sl (sr y25)).i.h.f.2.2.1,(sl (sr y25)).i.h.f.2.2.2.1,(sl (sr y25)).i.i.1,(sl (sr y25)).i.i.2.1,(sl (sr y25)).i.i.2.2.1,(sl (sr y25)).i.i.2.2.2.1,(sl (sr y25)).i.i.f.1,(sl (sr y25)).i.i.f.2,[])))
 (.no))
 (.bi (pj 2
 (qk3
 (Sum.inr
 (Sum.inl
 ((sr y24)))))) (fun y25=>
 .bi (qaM (sl (sr (sr y25))).1 (sl (sr (sr y25))).2.1 (sl (sr (sr y25))).2.2.1 4 [125]) (fun y26=>
 .at ((y26.1,y26.2.1,y26.2.2,(sl (sr (sr y25))).i.f.1,(sl (sr (sr y25))).i.f.2.1,(sl (sr (sr y25))).i.f.2.2.1,(sl (sr (sr y25))).i.f.2.2.2.1,(sl (sr (sr y25))).i.h.1,(sl (sr (sr y25))).i.h.2.1,(sl (sr (sr y25))).i.h.2.2.1,(sl (sr (sr y25))).i.h.2.2.2.1,(sl (sr (sr y25))).i.h.f.1,(sl (sr (sr y25))).i.h.f.2.1,(sl (sr (sr y25))).i.h.f.2.2.1,(sl (sr (sr y25))).i.h.f.2.2.2.1,(sl (sr (sr y25))).i.i.1,(sl (sr (sr y25))).i.i.2.1,(sl (sr (sr y25))).i.i.2.2.1,(sl (sr (sr y25))).i.i.2.2.2.1,(sl (sr (sr y25))).i.i.f.1,[],(sl (sr (sr y25))).i.i.f.2)))
 (.no))
 (.bi (pj 3
 (qk3
 (Sum.inr
 (Sum.inl
 ((sr y24)))))) (fun y25=>
 .bi (qaM (sr (sr (sr y25))).1 (sr (sr (sr y25))).2.1 (sr (sr (sr y25))).2.2.1 4 [125]) (fun y26=>
 .at ((y26.1,y26.2.1,y26.2.2,(sr (sr (sr y25))).i.f.1,(sr (sr (sr y25))).i.f.2.1,(sr (sr (sr y25))).i.f.2.2.1,(sr (sr (sr y25))).i.f.2.2.2.1,(sr (sr (sr y25))).i.h.1,(sr (sr (sr y25))).i.h.2.1,(sr (sr (sr y25))).i.h.2.2.1,(sr (sr (sr y25))).i.h.2.2.2.1,(sr (sr (sr y25))).i.h.f.1,(sr (sr (sr y25))).i.h.f.2.1,(sr (sr (sr y25))).i.h.f.2.2.1,(sr (sr (sr y25))).i.h.f.2.2.2.1,(sr (sr (sr y25))).i.i.1,(sr (sr (sr y25))).i.i.2.1,(sr (sr (sr y25))).i.i.2.2.1,(sr (sr (sr y25))).i.i.2.2.2.1,(sr (sr (sr y25))).i.i.f.1,(sr (sr (sr y25))).i.i.f.2.1,(sr (sr (sr y25))).i.i.f.2.2)))
 (.no))
 (.no)))))
 (.no)))
 (.no))
 (.no))
 (.no))
 (.no))
 (.no))
 (.no))
 (.no))
 (.no))
 (.no))
 (.no))
 (.no))
 (.no))
 (.no))
 (.no))
 (.no))
 (.no))
 (.no))
 (.no))
 (.no))
 (.no))
 (.no))
 (.no))
 (.no))
 (.no)
def qBh(x0:List AV)(x1 x2:Int):=qaC (qAw x0 x1 x2).ev
theorem qS0(x0 x1 x2):qBh x0 x1 x2=(qAw x0 x1 x2).ev:=qaa _
theorem ziN:FH IP 43 ⟨[.agg [.view 3,.int .i64,.int .i64]],[]⟩ [⟨false,.tup [.agg [.view 3,.int .i64,.int .i64],.agg [.str,.str,.str,.int .i64,.int .i64,.int .i64,.int .i64,.view 2,.bool,.int .i64,.int .i64,.bool,.view 2,.bool,.int .i64,.int .i64,.bool,.view 10,.view 6]],[]⟩] (k3 qBh):=f2 F43 1004300 zkV 1004301 zkW (k3 qAw) zr8
def zr9:=zr8.a ziN
end
end Go.Proofs.H16

/- Functions over plain data. Printed by a program of mine. -/
import Derived.Test.YtjhhnkemeegahaaGreatDoorD16_10
import Derived.KernelRfl
set_option linter.all false
namespace Go.Proofs.H16
open Go Go.Eng
set_option maxRecDepth 100000
noncomputable section
abbrev qfF:Type:=Int×List UInt8×List UInt8×List UInt8×Int×Int×Int×Int×List AV×Bool×Int×Int×Bool×List AV×Bool×Int×Int×Bool×List AV×List AV×List AV×Int
def qKW:List PSt:=[⟨[(1001001,.junk),(1,.ref 0 0 0),(9,.ref 1 0 0),(12,.int .i64)],[(0,.box [.str,.str,.str,.int .i64,.int .i64,.int .i64,.int .i64,.view 2,.bool,.int .i64,.int .i64,.bool,.view 2,.bool,.int .i64,.int .i64,.bool,.view 10,.view 6] false),(1,.box [.view 3,.int .i64] false)],2,0⟩]
def q4u(x0:Int)(x1 x2 x3:List UInt8)(x4 x5:Int)(x6 x7:Int)(x8:List AV)(x9:Bool)(x10 x11:Int)(x12:Bool)(x13:List AV)(x14:Bool)(x15 x16:Int)(x17:Bool)(x18 x19 x20:List AV)(x21:Int):X×St:=(.exit 2,⟨[(9,.ref 0 0 0)],[(0,.box [.view 3 x20,.int .i64 x21] false)],1,0⟩)
def zjc:List (qfF->X×St):=[(k22 q4u)]
def qiz(x0:Int)(x1 x2 x3:List UInt8)(x4 x5:Int)(x6 x7:Int)(x8:List AV)(x9:Bool)(x10 x11:Int)(x12:Bool)(x13:List AV)(x14:Bool)(x15 x16:Int)(x17:Bool)(x18 x19 x20:List AV)(x21:Int):DT (Rd qfF):=
 .br (decide (x0<(x19.length:Int)))
 (.br (qaD [.str,.int .i64,.int .i64,.int .i64,.str,.slice 4] x19 x0)
 (.bi (qcK x20 x21 [108,105,109,105,116]) (fun y0=>
 .bi (qja y0.1 y0.2 (strOf (cellAt x19 x0 0))) (fun y1=>
 .bi (qhK) (fun y2=>
 .br (qaD [.str] y2 (IntKind.i64.wrap (intOf (cellAt x19 x0 1)-1)))
 (.bi (qbo y1.1 y1.2 (strOf (cellAt y2 (IntKind.i64.wrap (intOf (cellAt x19 x0 1)-1)) 0))) (fun y3=>
 .bi (qml y3.1 y3.2 (intOf (cellAt x19 x0 2)) (intOf (cellAt x19 x0 3)) (strOf (cellAt x19 x0 4)) (qap (cellAt x19 x0 5))) (fun y4=>
 .bi (qbi y4.1 y4.2 [59]) (fun y5=>
 .at (.next ((IntKind.i64.wrap (x0+1),x1,x2,x3,x4,x5,x6,x7,x8,x9,x10,x11,x12,x13,x14,x15,x16,x17,x18,x19,y5))))
 (.no))
 (.no))
 (.no))
 (.no))
 (.no))
 (.no))
 (.no))
 (.no))
 (.at (.done 0))
def qBN:qfF->DT (Rd qfF):=(fun v=>qiz v.1 v.2.1 v.2.2.1 v.2.2.2.1 v.f.1 v.f.2.1 v.f.2.2.1 v.f.2.2.2.1 v.h.1 v.h.2.1 v.h.2.2.1 v.h.2.2.2.1 v.h.f.1 v.h.f.2.1 v.h.f.2.2.1 v.h.f.2.2.2.1 v.i.1 v.i.2.1 v.i.2.2.1 v.i.2.2.2.1 v.i.f.1 v.i.f.2)
def qve(v:qfF):Option (Nat×qfF):=qax (qae (fun v=>(qBN v).ev) v)
theorem qyN(v):qve v=qae (fun v=>(qBN v).ev) v:=qaa _
def qMc:qbS:=LE (τ:=qfF) (hD qKW) (qve) zjc
theorem zh3:Go.Eng.Told IP (qad F10 1).1 (qad F10 1).2 (qMc):=lp (inferInstance:Inhabited qfF) (hs:=qKW) qBN qto qyN
abbrev qdc:Type:=(List UInt8×Int×Int)⊕(List UInt8×Int×Int×List AV)
def qKm:List PSt:=[⟨[(1004201,.junk),(0,.str),(5,.nils 3),(6,.int .i64),(7,.int .i64)],[],0,0⟩,⟨[(1004201,.junk),(0,.str),(5,.own 0 0),(6,.int .i64),(7,.int .i64)],[(0,.arr 3 false)],1,0⟩]
def q3m(x0:List UInt8)(x1 x2:Int):X×St:=(.exit 3,⟨[(0,.str x0),(5,.nils ⟨3,.nil⟩),(6,.int .i64 x1),(7,.int .i64 x2)],[],0,0⟩)
def q3n(x0:List UInt8)(x1 x2:Int)(x3:List AV):X×St:=(.exit 3,⟨[(0,.str x0),(5,.own 0 0 none),(6,.int .i64 x1),(7,.int .i64 x2)],[(0,.arr 3 x3 false)],1,0⟩)
def ziC:List (qdc->X×St):=[fun w=>(k3 q3m) ((sl w)),fun w=>(k4 q3n) ((sr w))]
def qpD(x0:List UInt8)(x1 x2:Int):DT (Rd qdc):=
 .bi (br (decide (x2<(x0.length:Int))) (br (inB x0.length x2) (some (qai x0 x2 != 10)) none) (some false)) (fun y0=>
 .br (y0) (.at (.next ((.inl (x0,x1,IntKind.i64.wrap (x2+1)))))) (.at (.done 0)))
 (.no)
def qpE(x0:List UInt8)(x1 x2:Int)(x3:List AV):DT (Rd qdc):=
 .bi (br (decide (x2<(x0.length:Int))) (br (inB x0.length x2) (some (qai x0 x2 != 10)) none) (some false)) (fun y0=>
 .br (y0) (.at (.next ((.inr (x0,x1,IntKind.i64.wrap (x2+1),x3))))) (.at (.done 1)))
 (.no)
def qjt:qdc->DT (Rd qdc):=(Sum.elim (fun v=>qpD v.1 v.2.1 v.2.2) (fun v=>qpE v.1 v.2.1 v.2.2.1 v.2.2.2))
def qe5(v:qdc):Option (Nat×qdc):=qax (qae (fun v=>(qjt v).ev) v)
theorem qpb(v):qe5 v=qae (fun v=>(qjt v).ev) v:=qaa _
def qLC:qbS:=LE (τ:=qdc) (hD qKm) (qe5) ziC
theorem zht:Go.Eng.Told IP (qad F42 1).1 (qad F42 1).2 (qLC):=qat (inferInstance:Inhabited qdc) (hs:=qKm) (st:=qjt) (L:=[]) qto (qac (l:=[]) (by kernel_rfl) trivial) (qpb) (fun v=>match v with|(.inl v)=>by kernel_rfl|(.inr v)=>by kernel_rfl) (fun v=>match v with|(.inl v)=>by kernel_rfl|(.inr v)=>by kernel_rfl)
abbrev qRp:Type:=Bool
def qYL:PArgs:=⟨[.int .u8],[]⟩
def q07:List PRes:=[⟨false,.bool,[]⟩]
def qsg(x0:Int):DT qRp:=
 .bi (br (decide (x0>=97)) (some (decide (x0<=122))) (some false)) (fun y0=>
 .at (y0))
 (.no)
def qmx(x0:Int):Option qRp:=qax (qsg x0).ev
theorem qOI(x0):qmx x0=(qsg x0).ev:=qaa _
theorem zeG:FH IP 158 qYL q07 qmx:=fh zoJ qsg qto
def zt6:Tab:=(158,FE qYL q07 qmx)::zt5
theorem qTh:qao IP zt6:=⟨qam zeG,qto⟩
abbrev qRL:Type:=Bool
def qY6:PArgs:=⟨[.int .u8],[]⟩
def q1s:List PRes:=[⟨false,.bool,[]⟩]
def qsy(x0:Int):DT qRL:=
 .bi (br (decide (x0>=48)) (some (decide (x0<=57))) (some false)) (fun y0=>
 .at (y0))
 (.no)
def qgE(x0:Int):Option qRL:=qax (qsy x0).ev
theorem qOZ(x0):qgE x0=(qsy x0).ev:=qaa _
theorem ze5:FH IP 160 qY6 q1s qgE:=fh zoK qsy qTh
def zt7:Tab:=(160,FE qY6 q1s qgE)::zt6
theorem qGy:qao IP zt7:=⟨qam ze5,qTh⟩
abbrev qfX:Type:=List UInt8×Int×Bool
def qLg:List PSt:=[⟨[(1015900,.junk),(0,.str),(1,.int .i64),(2,.bool)],[],0,0⟩]
def q43(x0:List UInt8)(x1:Int)(x2:Bool):X×St:=(.exit 0,⟨[(1,.int .i64 x1)],[],0,0⟩)
def zjw:List (qfX->X×St):=[(k3 q43)]
def qqc(x0:List UInt8)(x1:Int)(x2:Bool):DT (Rd qfX):=
 .bi (br (decide (x1<(x0.length:Int)))
 (br (inB x0.length x1)
 (br (sm (qmx (qai x0 x1)))
 (br (gv (qmx (qai x0 x1))) (some true)
 (br (inB x0.length x1)
 (br (sm (qgE (qai x0 x1)))
 (br (gv (qgE (qai x0 x1))) (some true)
 (br (inB x0.length x1)
 (br (qai x0 x1==95) (some true)
 (br x2 (br (inB x0.length x1) (br (qai x0 x1==46) (some true) (br (inB x0.length x1) (some (qai x0 x1==37)) none)) none) (some false)))
 none))
 none)
 none))
 none)
 none)
 (some false)) (fun y0=>
 .br (y0) (.at (.next ((x0,IntKind.i64.wrap (x1+1),x2)))) (.at (.done 0)))
 (.no)
def qod:qfX->DT (Rd qfX):=(fun v=>qqc v.1 v.2.1 v.2.2)
def qAX(v:qfX):Option (Nat×qfX):=qax (qae (fun v=>(qod v).ev) v)
theorem qy1(v):qAX v=qae (fun v=>(qod v).ev) v:=qaa _
def qMv:qbS:=LE (τ:=qfX) (hD qLg) (qAX) zjw
theorem zim:Go.Eng.Told IP (qad zc7 0).1 (qad zc7 0).2 (qMv):=lp (inferInstance:Inhabited qfX) (hs:=qLg) qod qGy qy1
abbrev qSp:Type:=Int
def qZN:PArgs:=⟨[.str,.int .i64,.bool],[]⟩
def q2i:List PRes:=[⟨false,.int .i64,[]⟩]
def qtc(x0:List UInt8)(x1:Int)(x2:Bool):DT qSp:=
 .bi (pj 0 (qAX (x0,x1,x2))) (fun y0=>
 .at (y0.2.1))
 (.no)
def qo1(x0:List UInt8)(x1:Int)(x2:Bool):Option qSp:=qax (qtc x0 x1 x2).ev
theorem qPC(x0 x1 x2):qo1 x0 x1 x2=(qtc x0 x1 x2).ev:=qaa _
theorem zfS:FH IP 159 qZN q2i (k3 qo1):=qag (F:=zc7) (L:=[(1015900,qMv)]) (t:=(k3 qtc)) qGy (qac (l:=[qad zc7 0]) (by kernel_rfl) ⟨qas (by kernel_rfl) zim,trivial⟩) (by kernel_rfl) (fun v=>by kernel_rfl) (fun _=>qaa _)
def zt8:Tab:=(159,FE qZN q2i (k3 qo1))::zt7
theorem qGz:qao IP zt8:=⟨qam zfS,qGy⟩
abbrev qfA:Type:=List UInt8×Int
def qKM:List PSt:=[⟨[(1016100,.junk),(0,.str),(3,.int .i64)],[],0,0⟩]
def q38(x0:List UInt8)(x1:Int):X×St:=(.exit 0,⟨[(0,.str x0),(3,.int .i64 x1)],[],0,0⟩)
def zi2:List (qfA->X×St):=[(k2 q38)]
def qpR(x0:List UInt8)(x1:Int):DT (Rd qfA):=
 .bi (br (decide (x1<(x0.length:Int))) (br (inB x0.length x1) (br (sm (qgE (qai x0 x1))) (some (gv (qgE (qai x0 x1)))) none) none) (some false)) (fun y0=>
 .br (y0) (.at (.next ((x0,IntKind.i64.wrap (x1+1))))) (.at (.done 0)))
 (.no)
def qn2:qfA->DT (Rd qfA):=(fun v=>qpR v.1 v.2)
def qAS(v:qfA):Option (Nat×qfA):=qax (qae (fun v=>(qn2 v).ev) v)
theorem qyH(v):qAS v=qae (fun v=>(qn2 v).ev) v:=qaa _
def qL2:qbS:=LE (τ:=qfA) (hD qKM) (qAS) zi2
theorem zhT:Go.Eng.Told IP (qad zc8 0).1 (qad zc8 0).2 (qL2):=lp (inferInstance:Inhabited qfA) (hs:=qKM) qn2 qGz qyH
abbrev qRN:Type:=Int
def qY8:PArgs:=⟨[.str],[]⟩
def q1u:List PRes:=[⟨false,.int .i64,[]⟩]
def qsA(x0:List UInt8):DT qRN:=
 .bi (pj 0 (qAS (x0,0))) (fun y0=>
 .bi (br (decide (y0.2>1)) (br (inB y0.1.length 0) (some (qai y0.1 0==48)) none) (some false)) (fun y1=>
 .br (y1) (.at (0)) (.at (y0.2)))
 (.no))
 (.no)
def qmB(x0:List UInt8):Option qRN:=qax (qsA x0).ev
theorem qO1(x0):qmB x0=(qsA x0).ev:=qaa _
theorem ze7:FH IP 161 qY8 q1u qmB:=qag (F:=zc8) (L:=[(1016100,qL2)]) (t:=qsA) qGz (qac (l:=[qad zc8 0]) (by kernel_rfl) ⟨qas (by kernel_rfl) zhT,trivial⟩) (by kernel_rfl) (fun v=>by kernel_rfl) (fun _=>qaa _)
def zt9:Tab:=(161,FE qY8 q1u qmB)::zt8
theorem qTi:qao IP zt9:=⟨qam ze7,qGz⟩
abbrev qRM:Type:=Bool
def qY7:PArgs:=⟨[.str],[]⟩
def q1t:List PRes:=[⟨false,.bool,[]⟩]
def qsz(x0:List UInt8):DT qRM:=
 .bi (br (decide ((x0.length:Int)>(19:Int))) (some true)
 (br ((x0.length:Int)==(19:Int))
 (some
 !(qbl x0 [57,50,50,51,51,55,50,48,51,54,56,53,52,55,55,53,56,48,55] ||
 x0== [57,50,50,51,51,55,50,48,51,54,56,53,52,55,55,53,56,48,55]))
 (some false))) (fun y0=>
 .at (y0))
 (.no)
def quj(x0:List UInt8):Option qRM:=qax (qsz x0).ev
theorem qO0(x0):quj x0=(qsz x0).ev:=qaa _
theorem ze6:FH IP 162 qY7 q1t quj:=fh zoL qsz qTi
def zua:Tab:=(162,FE qY7 q1t quj)::zt9
theorem qGA:qao IP zua:=⟨qam ze6,qTi⟩
abbrev qfR:Type:=List UInt8×Int
def qK8:List PSt:=[⟨[(1016300,.junk),(0,.str),(4,.int .i64)],[],0,0⟩]
def q4Q(x0:List UInt8)(x1:Int):X×St:=(.ret,⟨[(2,.bool false)],[],0,0⟩)
def q4R(x0:List UInt8)(x1:Int):X×St:=(.exit 0,⟨[(2,.junk)],[],0,0⟩)
def zjo:List (qfR->X×St):=[(k2 q4Q),(k2 q4R)]
def qp7(x0:List UInt8)(x1:Int):DT (Rd qfR):=
 .br (decide (x1<(x0.length:Int)))
 (.br (inB x0.length x1)
 (.bi (qgE (qai x0 x1)) (fun y0=>
 .br (!y0) (.at (.done 0)) (.at (.next ((x0,IntKind.i64.wrap (x1+1))))))
 (.no))
 (.no))
 (.at (.done 1))
def qjx:qfR->DT (Rd qfR):=(fun v=>qp7 v.1 v.2)
def qpi(v:qfR):Option (Nat×qfR):=qax (qae (fun v=>(qjx v).ev) v)
theorem qyT(v):qpi v=qae (fun v=>(qjx v).ev) v:=qaa _
def qMn:qbS:=LE (τ:=qfR) (hD qK8) (qpi) zjo
theorem zie:Go.Eng.Told IP (qad zc9 0).1 (qad zc9 0).2 (qMn):=lp (inferInstance:Inhabited qfR) (hs:=qK8) qjx qGA qyT
abbrev qR8:Type:=Bool
def qZu:PArgs:=⟨[.str],[]⟩
def q1Q:List PRes:=[⟨false,.bool,[]⟩]
def qsT(x0:List UInt8):DT qR8:=
 .bi (qmB x0) (fun y0=>
 .bi (br (y0==0) (some true) (br (inB x0.length (IntKind.i64.wrap ((x0.length:Int)-1))) (some (qai x0 (IntKind.i64.wrap ((x0.length:Int)-1)) != 37)) none)) (fun y1=>
 .br (y1)
 (.at (false))
 (.br (leB (IntKind.i64.wrap ((x0.length:Int)-1)) x0.length&&leB y0 (IntKind.i64.wrap ((x0.length:Int)-1)).toNat)
 (.br (List.take ((IntKind.i64.wrap ((x0.length:Int)-1)).toNat-y0.toNat) (List.drop y0.toNat x0)== [])
 (.at (true))
 (.bi (br (decide (((List.take ((IntKind.i64.wrap ((x0.length:Int)-1)).toNat-y0.toNat) (List.drop y0.toNat x0)).length:Int)<2)) (some true)
 (some (decide (((List.take ((IntKind.i64.wrap ((x0.length:Int)-1)).toNat-y0.toNat) (List.drop y0.toNat x0)).length:Int)>5)))) (fun y2=>
 .bi (br y2 (some true)
 (br (inB (List.take ((IntKind.i64.wrap ((x0.length:Int)-1)).toNat-y0.toNat) (List.drop y0.toNat x0)).length 0)
 (some (qai (List.take ((IntKind.i64.wrap ((x0.length:Int)-1)).toNat-y0.toNat) (List.drop y0.toNat x0)) 0 != 46)) none)) (fun y3=>
 .bi (br y3 (some true)
 (br
 (inB (List.take ((IntKind.i64.wrap ((x0.length:Int)-1)).toNat-y0.toNat) (List.drop y0.toNat x0)).length
 (IntKind.i64.wrap (((List.take ((IntKind.i64.wrap ((x0.length:Int)-1)).toNat-y0.toNat) (List.drop y0.toNat x0)).length:Int)-1)))
 (some
 (qai (List.take ((IntKind.i64.wrap ((x0.length:Int)-1)).toNat-y0.toNat) (List.drop y0.toNat x0))
 (IntKind.i64.wrap (((List.take ((IntKind.i64.wrap ((x0.length:Int)-1)).toNat-y0.toNat) (List.drop y0.toNat x0)).length:Int)-1)) ==
 48))
 none)) (fun y4=>
 .br (y4)
 (.at (false))
 (.bi (pj 0 (qpi (List.take ((IntKind.i64.wrap ((x0.length:Int)-1)).toNat-y0.toNat) (List.drop y0.toNat x0),1))) (fun y5=>
 .at (false))
 (.bi (pj 1 (qpi (List.take ((IntKind.i64.wrap ((x0.length:Int)-1)).toNat-y0.toNat) (List.drop y0.toNat x0),1))) (fun y5=>
 .at (true))
 (.no))))
 (.no))
 (.no))
 (.no)))
 (.no)))
 (.no))
 (.no)
def qoY(x0:List UInt8):Option qR8:=qax (qsT x0).ev
theorem qPk(x0):qoY x0=(qsT x0).ev:=qaa _
theorem zfz:FH IP 163 qZu q1Q qoY:=qag (F:=zc9) (L:=[(1016300,qMn)]) (t:=qsT) qGA (qac (l:=[qad zc9 0]) (by kernel_rfl) ⟨qas (by kernel_rfl) zie,trivial⟩) (by kernel_rfl) (fun v=>by kernel_rfl) (fun _=>qaa _)
def zub:Tab:=(163,FE qZu q1Q qoY)::zua
theorem qz3:qao IP zub:=⟨qam zfz,qGA⟩
abbrev qfO:Type:=List UInt8×Int×Int×Int×Int
def qK5:List PSt:=[⟨[(1016400,.junk),(0,.str),(4,.int .i64),(5,.int .i64),(6,.int .i64),(7,.int .i64)],[],0,0⟩]
def q4L(x0:List UInt8)(x1 x2:Int)(x3 x4:Int):X×St:=(.ret,
 ⟨[(2,.int .i64 0),(3,.int .i64 1),
 (5,.int .i64 (IntKind.i64.wrap (IntKind.i64.wrap (10*x2)+IntKind.i64.wrap (IntKind.u8.wrap (qai x0 x4-48))))),(6,.int .i64 x3)],[],0,0⟩)
def q4M(x0:List UInt8)(x1 x2:Int)(x3 x4:Int):X×St:=(.exit 0,⟨[(2,.junk),(3,.junk),(5,.int .i64 x2),(6,.int .i64 x3)],[],0,0⟩)
def zjl:List (qfO->X×St):=[(k5 q4L),(k5 q4M)]
def qp5(x0:List UInt8)(x1 x2:Int)(x3 x4:Int):DT (Rd qfO):=
 .br (decide (x4<IntKind.i64.wrap ((x0.length:Int)-1)))
 (.br (inB x0.length x4)
 (.bi (qgE (qai x0 x4)) (fun y0=>
 .br (y0)
 (.br (inB x0.length x4)
 (.br (decide (IntKind.i64.wrap (IntKind.i64.wrap (10*x2)+IntKind.i64.wrap (IntKind.u8.wrap (qai x0 x4-48)))>1000000))
 (.at (.done 0))
 (.br (decide (x4>x1))
 (.at (.next ((x0,x1,IntKind.i64.wrap (IntKind.i64.wrap (10*x2)+IntKind.i64.wrap (IntKind.u8.wrap (qai x0 x4-48))),IntKind.i64.wrap (x3+1),IntKind.i64.wrap (x4+1)))))
 (.at (.next ((x0,x1,IntKind.i64.wrap (IntKind.i64.wrap (10*x2)+IntKind.i64.wrap (IntKind.u8.wrap (qai x0 x4-48))),x3,IntKind.i64.wrap (x4+1)))))))
 (.no))
 (.at (.next ((x0,x1,x2,x3,IntKind.i64.wrap (x4+1))))))
 (.no))
 (.no))
 (.at (.done 1))
def qlL:qfO->DT (Rd qfO):=(fun v=>qp5 v.1 v.2.1 v.2.2.1 v.2.2.2.1 v.f)
def qkr(v:qfO):Option (Nat×qfO):=qax (qae (fun v=>(qlL v).ev) v)
theorem qic(v):qkr v=qae (fun v=>(qlL v).ev) v:=qaa _
def qMk:qbS:=LE (τ:=qfO) (hD qK5) (qkr) zjl
theorem zib:Go.Eng.Told IP (qad q46 0).1 (qad q46 0).2 (qMk):=lp (inferInstance:Inhabited qfO) (hs:=qK5) qlL qz3 qic
abbrev qfP:Type:=Int×Int
def qK6:List PSt:=[⟨[(1016401,.junk),(5,.int .i64),(6,.int .i64)],[],0,0⟩]
def q4N(x0 x1:Int):X×St:=(.exit 2,⟨[(5,.int .i64 x0)],[],0,0⟩)
def zjm:List (qfP->X×St):=[(k2 q4N)]
def qp6(x0 x1:Int):DT (Rd qfP):=
 .br (decide (x1<4)) (.at (.next ((IntKind.i64.wrap (10*x0),IntKind.i64.wrap (x1+1))))) (.at (.done 0))
def qob:qfP->DT (Rd qfP):=(fun v=>qp6 v.1 v.2)
def qAW(v:qfP):Option (Nat×qfP):=qax (qae (fun v=>(qob v).ev) v)
theorem qll(v):qAW v=qae (fun v=>(qob v).ev) v:=qaa _
def qMl:qbS:=LE (τ:=qfP) (hD qK6) (qAW) zjm
theorem zic:Go.Eng.Told IP (qad q46 1).1 (qad q46 1).2 (qMl):=lp (inferInstance:Inhabited qfP) (hs:=qK6) qob qz3 qll
abbrev qR5:Type:=Int×Int
def qZr:PArgs:=⟨[.str],[]⟩
def q1N:List PRes:=[⟨false,.tup [.int .i64,.int .i64],[]⟩]
def qsR(x0:List UInt8):DT qR5:=
 .bi (qoY x0) (fun y0=>
 .br (!y0)
 (.at ((0,2)))
 (.bi (qmB x0) (fun y1=>
 .bi (pj 0 (qkr (x0,y1,0,0,0))) (fun y2=>
 .at ((0,1)))
 (.bi (pj 1 (qkr (x0,y1,0,0,0))) (fun y2=>
 .bi (pj 0 (qAW (y2.2.2.1,y2.2.2.2.1))) (fun y3=>
 .br (decide (y3.1>1000000)) (.at ((0,1))) (.at ((y3.1,0))))
 (.no))
 (.no)))
 (.no)))
 (.no)
def qmF(x0:List UInt8):Option qR5:=qax (qsR x0).ev
theorem qPi(x0):qmF x0=(qsR x0).ev:=qaa _
theorem zfw:FH IP 164 qZr q1N qmF:=qag (F:=q46) (L:=[(1016400,qMk),(1016401,qMl)]) (t:=qsR) qz3 (qac (l:=[qad q46 0,qad q46 1]) (by kernel_rfl) ⟨qas (by kernel_rfl) zib,qas (by kernel_rfl) zic,trivial⟩) (by kernel_rfl) (fun v=>by kernel_rfl) (fun _=>qaa _)
def zuc:Tab:=(164,FE qZr q1N qmF)::zub
theorem qGB:qao IP zuc:=⟨qam zfw,qz3⟩
abbrev qfS:Type:=List UInt8×Int×List UInt8×Int
def qK9:List PSt:=[⟨[(1016500,.junk),(0,.str),(1,.int .i64),(5,.str),(6,.int .i64)],[],0,0⟩]
def q4S(x0:List UInt8)(x1:Int)(x2:List UInt8)(x3:Int):X×St:=(.ret,⟨[(4,.int .i64 1)],[],0,0⟩)
def q4T(x0:List UInt8)(x1:Int)(x2:List UInt8)(x3:Int):X×St:=(.exit 0,⟨[(4,.junk)],[],0,0⟩)
def zjp:List (qfS->X×St):=[(k4 q4S),(k4 q4T)]
def qp8(x0:List UInt8)(x1:Int)(x2:List UInt8)(x3:Int):DT (Rd qfS):=
 .br (decide (x3<(x2.length:Int)))
 (.br (inB x2.length x3)
 (.br (inB x0.length x1)
 (.br (qai x2 x3==qai x0 x1) (.at (.done 0)) (.at (.next ((x0,x1,x2,IntKind.i64.wrap (x3+1))))))
 (.no))
 (.no))
 (.at (.done 1))
def qlM:qfS->DT (Rd qfS):=(fun v=>qp8 v.1 v.2.1 v.2.2.1 v.2.2.2)
def qvi(v:qfS):Option (Nat×qfS):=qax (qae (fun v=>(qlM v).ev) v)
theorem qyU(v):qvi v=qae (fun v=>(qlM v).ev) v:=qaa _
def qMo:qbS:=LE (τ:=qfS) (hD qK9) (qvi) zjp
theorem zif:Go.Eng.Told IP (qad zda 0).1 (qad zda 0).2 (qMo):=lp (inferInstance:Inhabited qfS) (hs:=qK9) qlM qGB qyU
abbrev qR9:Type:=Int
def qZv:PArgs:=⟨[.str,.int .i64],[]⟩
def q1R:List PRes:=[⟨false,.int .i64,[]⟩]
def qsU(x0:List UInt8)(x1:Int):DT qR9:=
 .bi (br (decide (IntKind.i64.wrap (x1+1)<(x0.length:Int))) (br (inB x0.length (IntKind.i64.wrap (x1+1))) (some (qai x0 (IntKind.i64.wrap (x1+1))==61)) none) (some false)) (fun y0=>
 .bi (br y0
 (br (inB x0.length x1)
 (br (qai x0 x1==61) (some true) (br (inB x0.length x1) (br (qai x0 x1==33) (some true) (br (inB x0.length x1) (some (qai x0 x1==60)) none)) none)) none)
 (some false)) (fun y1=>
 .br (y1)
 (.at (2))
 (.bi (pj 0 (qvi (x0,x1,[123,125,40,41,44,59,58,36,43,45,42,47,60],0))) (fun y2=>
 .at (1))
 (.bi (pj 1 (qvi (x0,x1,[123,125,40,41,44,59,58,36,43,45,42,47,60],0))) (fun y2=>
 .at (0))
 (.no))))
 (.no))
 (.no)
def qux(x0:List UInt8)(x1:Int):Option qR9:=qax (qsU x0 x1).ev
theorem qPl(x0 x1):qux x0 x1=(qsU x0 x1).ev:=qaa _
theorem zfA:FH IP 165 qZv q1R (k2 qux):=qag (F:=zda) (L:=[(1016500,qMo)]) (t:=(k2 qsU)) qGB (qac (l:=[qad zda 0]) (by kernel_rfl) ⟨qas (by kernel_rfl) zif,trivial⟩) (by kernel_rfl) (fun v=>by kernel_rfl) (fun _=>qaa _)
def zud:Tab:=(165,FE qZv q1R (k2 qux))::zuc
theorem qTj:qao IP zud:=⟨qam zfA,qGB⟩
abbrev qRJ:Type:=Int×Int×List UInt8×Int
def qY4:PArgs:=⟨[.str,.int .i64],[]⟩
def q1q:List PRes:=[⟨false,.tup [.agg [.int .i64,.int .i64,.str],.int .i64],[]⟩]
def qsx(x0:List UInt8)(x1:Int):DT qRJ:=
 .br (inB x0.length x1)
 (.bi (qmx (qai x0 x1)) (fun y0=>
 .br (y0)
 (.bi (qo1 x0 x1 false) (fun y1=>
 .br (leB y1 x0.length&&leB x1 y1.toNat)
 (.bi (qe4 (List.take (y1.toNat-x1.toNat) (List.drop x1.toNat x0))) (fun y2=>
 .br (y2)
 (.at ((5,0,List.take (y1.toNat-x1.toNat) (List.drop x1.toNat x0),0)))
 (.br (decide (((List.take (y1.toNat-x1.toNat) (List.drop x1.toNat x0)).length:Int)>16))
 (.at ((1,0,List.take (y1.toNat-x1.toNat) (List.drop x1.toNat x0),4)))
 (.at ((1,0,List.take (y1.toNat-x1.toNat) (List.drop x1.toNat x0),0)))))
 (.no))
 (.no))
 (.no))
 (.br (inB x0.length x1)
 (.bi (qgE (qai x0 x1)) (fun y1=>
 .br (y1)
 (.bi (qo1 x0 x1 true) (fun y2=>
 .br (leB y2 x0.length&&leB x1 y2.toNat)
 (.bi (qmB (List.take (y2.toNat-x1.toNat) (List.drop x1.toNat x0))) (fun y3=>
 .br (y3==((List.take (y2.toNat-x1.toNat) (List.drop x1.toNat x0)).length:Int))
 (.bi (quj (List.take (y2.toNat-x1.toNat) (List.drop x1.toNat x0))) (fun y4=>
 .br (y4) (.at ((2,0,List.take (y2.toNat-x1.toNat) (List.drop x1.toNat x0),6))) (.at ((2,0,List.take (y2.toNat-x1.toNat) (List.drop x1.toNat x0),0))))
 (.no))
 (.bi (qoY (List.take (y2.toNat-x1.toNat) (List.drop x1.toNat x0))) (fun y4=>
 .br (!y4)
 (.at ((3,0,List.take (y2.toNat-x1.toNat) (List.drop x1.toNat x0),2)))
 (.bi (qmF (List.take (y2.toNat-x1.toNat) (List.drop x1.toNat x0))) (fun y5=>
 .br (y5.2 != 0) (.at ((3,0,List.take (y2.toNat-x1.toNat) (List.drop x1.toNat x0),6))) (.at ((3,0,List.take (y2.toNat-x1.toNat) (List.drop x1.toNat x0),0))))
 (.no)))
 (.no)))
 (.no))
 (.no))
 (.no))
 (.bi (qux x0 x1) (fun y2=>
 .br (y2==0)
 (.at ((0,0,[],2)))
 (.br (leB (IntKind.i64.wrap (x1+y2)) x0.length&&leB x1 (IntKind.i64.wrap (x1+y2)).toNat)
 (.at ((4,0,List.take ((IntKind.i64.wrap (x1+y2)).toNat-x1.toNat) (List.drop x1.toNat x0),0)))
 (.no)))
 (.no)))
 (.no))
 (.no)))
 (.no))
 (.no)
def qdQ(x0:List UInt8)(x1:Int):Option qRJ:=qax (qsx x0 x1).ev
theorem qOY(x0 x1):qdQ x0 x1=(qsx x0 x1).ev:=qaa _
theorem ze3:FH IP 100 qY4 q1q (k2 qdQ):=fh zoj (k2 qsx) qTj
def zue:Tab:=(100,FE qY4 q1q (k2 qdQ))::zud
theorem qGC:qao IP zue:=⟨qam ze3,qTj⟩
abbrev qdb:Type:=(List UInt8×Int×Int)⊕(List UInt8×Int×Int×List AV)
def qKl:List PSt:=[⟨[(1004200,.junk),(0,.str),(5,.nils 3),(6,.int .i64),(7,.int .i64)],[],0,0⟩,⟨[(1004200,.junk),(0,.str),(5,.own 0 0),(6,.int .i64),(7,.int .i64)],[(0,.arr 3 false)],1,0⟩]
def q3i(x0:List UInt8)(x1 x2:Int):X×St:=(.ret,
 ⟨[(2,.nils ⟨3,.nil⟩),(3,.int .i64 x1),(4,.int .i64 (gv (qdQ x0 x2)).2.2.2),(5,.nils ⟨3,.nil⟩)],[],0,0⟩)
def q3j(x0:List UInt8)(x1 x2:Int):X×St:=(.exit 0,⟨[(2,.junk),(3,.junk),(4,.junk),(5,.nils ⟨3,.nil⟩)],[],0,0⟩)
def q3k(x0:List UInt8)(x1 x2:Int)(x3:List AV):X×St:=(.ret,
 ⟨[(2,.nils ⟨3,.nil⟩),(3,.int .i64 x1),(4,.int .i64 (gv (qdQ x0 x2)).2.2.2),(5,.own 0 0 none)],[(0,.arr 3 x3 false)],1,0⟩)
def q3l(x0:List UInt8)(x1 x2:Int)(x3:List AV):X×St:=(.exit 0,⟨[(2,.junk),(3,.junk),(4,.junk),(5,.own 0 0 none)],[(0,.arr 3 x3 false)],1,0⟩)
def ziB:List (qdb->X×St):=[fun w=>(k3 q3i) ((sl w)),fun w=>(k3 q3j) ((sl w)),fun w=>(k4 q3k) ((sr w)),fun w=>(k4 q3l) ((sr w))]
def qdA(x0:List UInt8)(x1 x2:Int):DT (Rd qdb):=
 .br (decide (x2<(x0.length:Int)))
 (.br (inB x0.length x2)
 (.br (qai x0 x2==10)
 (.at (.next ((.inl (x0,IntKind.i64.wrap (x1+1),IntKind.i64.wrap (x2+1))))))
 (.br (qai x0 x2==32)
 (.br (qai x0 x2==32)
 (.at (.next ((.inl (x0,x1,IntKind.i64.wrap (x2+1))))))
 (.br (qai x0 x2==35)
 (.bi (pj 0 (qe5 (Sum.inl (x0,x1,x2)))) (fun y0=>
 .at (.next ((.inl ((sl y0))))))
 (.bi (pj 1 (qe5 (Sum.inl (x0,x1,x2)))) (fun y0=>
 .at (.next ((.inr ((sr y0))))))
 (.no)))
 (.bi (qdQ x0 x2) (fun y0=>
 .br (y0.2.2.2 != 0)
 (.at (.done 0))
 (.at (.next ((.inr (x0,x1,IntKind.i64.wrap (x2+(y0.2.2.1.length:Int)),[AV.agg [.int .i64 y0.1,.int .i64 x1,AV.str y0.2.2.1]]))))))
 (.no))))
 (.br (qai x0 x2==9)
 (.at (.next ((.inl (x0,x1,IntKind.i64.wrap (x2+1))))))
 (.br (qai x0 x2==35)
 (.bi (pj 0 (qe5 (Sum.inl (x0,x1,x2)))) (fun y0=>
 .at (.next ((.inl ((sl y0))))))
 (.bi (pj 1 (qe5 (Sum.inl (x0,x1,x2)))) (fun y0=>
 .at (.next ((.inr ((sr y0))))))
 (.no)))
 (.bi (qdQ x0 x2) (fun y0=>
 .br (y0.2.2.2 != 0)
 (.at (.done 0))
 (.at (.next ((.inr (x0,x1,IntKind.i64.wrap (x2+(y0.2.2.1.length:Int)),[AV.agg [.int .i64 y0.1,.int .i64 x1,AV.str y0.2.2.1]]))))))
 (.no))))))
 (.no))
 (.at (.done 1))
def qdB(x0:List UInt8)(x1 x2:Int)(x3:List AV):DT (Rd qdb):=
 .br (decide (x2<(x0.length:Int)))
 (.br (inB x0.length x2)
 (.br (qai x0 x2==10)
 (.at (.next ((.inr (x0,IntKind.i64.wrap (x1+1),IntKind.i64.wrap (x2+1),x3)))))
 (.br (qai x0 x2==32)
 (.br (qai x0 x2==32)
 (.at (.next ((.inr (x0,x1,IntKind.i64.wrap (x2+1),x3)))))
 (.br (qai x0 x2==35)
 (.bi (pj 0 (qe5 (Sum.inr (x0,x1,x2,x3)))) (fun y0=>
 .at (.next ((.inl ((sl y0))))))
 (.bi (pj 1 (qe5 (Sum.inr (x0,x1,x2,x3)))) (fun y0=>
 .at (.next ((.inr ((sr y0))))))
 (.no)))
 (.bi (qdQ x0 x2) (fun y0=>
 .br (y0.2.2.2 != 0)
 (.at (.done 2))
 (.br (room (x3.length+1) 32)
 (.at (.next ((.inr (x0,x1,IntKind.i64.wrap (x2+(y0.2.2.1.length:Int)),x3++[AV.agg [.int .i64 y0.1,.int .i64 x1,AV.str y0.2.2.1]])))))
 (.no)))
 (.no))))
 (.br (qai x0 x2==9)
 (.at (.next ((.inr (x0,x1,IntKind.i64.wrap (x2+1),x3)))))
 (.br (qai x0 x2==35)
 (.bi (pj 0 (qe5 (Sum.inr (x0,x1,x2,x3)))) (fun y0=>
 .at (.next ((.inl ((sl y0))))))
 (.bi (pj 1 (qe5 (Sum.inr (x0,x1,x2,x3)))) (fun y0=>
 .at (.next ((.inr ((sr y0))))))
 (.no)))
 (.bi (qdQ x0 x2) (fun y0=>
 .br (y0.2.2.2 != 0)
 (.at (.done 2))
 (.br (room (x3.length+1) 32)
 (.at (.next ((.inr (x0,x1,IntKind.i64.wrap (x2+(y0.2.2.1.length:Int)),x3++[AV.agg [.int .i64 y0.1,.int .i64 x1,AV.str y0.2.2.1]])))))
 (.no)))
 (.no))))))
 (.no))
 (.at (.done 3))
def qbC:qdb->DT (Rd qdb):=(Sum.elim (fun v=>qdA v.1 v.2.1 v.2.2) (fun v=>qdB v.1 v.2.1 v.2.2.1 v.2.2.2))
def qko(v:qdb):Option (Nat×qdb):=qax (qae (fun v=>(qbC v).ev) v)
theorem qpa(v):qko v=qae (fun v=>(qbC v).ev) v:=qaa _
def qLB:qbS:=LE (τ:=qdb) (hD qKl) (qko) ziB
theorem zhs:Go.Eng.Told IP (qad F42 0).1 (qad F42 0).2 (qLB):=qat (inferInstance:Inhabited qdb) (hs:=qKl) (st:=qbC) (L:=[(1004201,qLC)]) qGC (qac (l:=[qad F42 1]) (by kernel_rfl) ⟨qas (by kernel_rfl) zht,trivial⟩) (qpa) (fun v=>match v with|(.inl v)=>by kernel_rfl|(.inr v)=>by kernel_rfl) (fun v=>match v with|(.inl v)=>by kernel_rfl|(.inr v)=>by kernel_rfl)
abbrev qFT:Type:=List AV×Int×Int
def qYf:PArgs:=⟨[.str],[]⟩
def q0B:List PRes:=[⟨false,.tup [.view 3,.int .i64,.int .i64],[]⟩]
def qrI(x0:List UInt8):DT qFT:=
 .br (decide ((x0.length:Int)>2048))
 (.at (([],0,5)))
 (.bi (pj 0 (qko (Sum.inl (x0,1,0)))) (fun y0=>
 .at (([],(sl y0).2.1,(gv (qdQ (sl y0).1 (sl y0).2.2)).2.2.2)))
 (.bi (pj 1 (qko (Sum.inl (x0,1,0)))) (fun y0=>
 .at (([],0,0)))
 (.bi (pj 2 (qko (Sum.inl (x0,1,0)))) (fun y0=>
 .at (([],(sr y0).2.1,(gv (qdQ (sr y0).1 (sr y0).2.2.1)).2.2.2)))
 (.bi (pj 3 (qko (Sum.inl (x0,1,0)))) (fun y0=>
 .at (((sr y0).2.2.2,0,0)))
 (.no)))))
def qoI(x0:List UInt8):Option qFT:=qax (qrI x0).ev
theorem qOd(x0):qoI x0=(qrI x0).ev:=qaa _
theorem zd8:FH IP 42 qYf q0B qoI:=qag (F:=F42) (L:=[(1004200,qLB)]) (t:=qrI) qGC (qac (l:=[qad F42 0,qad F42 1]) (by kernel_rfl) ⟨qas (by kernel_rfl) zhs,qM9 (by kernel_rfl),trivial⟩) (by kernel_rfl) (fun v=>by kernel_rfl) (fun _=>qaa _)
def zuf:Tab:=(42,FE qYf q0B qoI)::zue
theorem qTk:qao IP zuf:=⟨qam zd8,qGC⟩
abbrev qR7:Type:=Bool
def qZt:PArgs:=⟨[.agg [.int .i64,.int .i64,.str]],[]⟩
def q1P:List PRes:=[⟨false,.bool,[]⟩]
def qsS(x0 x1:Int)(x2:List UInt8):DT qR7:=
 .bi (qoI x2) (fun y0=>
 .br (y0.2.2==0)
 (.br ((y0.1.length:Int)==1)
 (.br (qaD [.int .i64,.int .i64,.str] y0.1 0)
 (.br (intOf (cellAt y0.1 0 0)==x0)
 (.br (qaD [.int .i64,.int .i64,.str] y0.1 0) (.at (strOf (cellAt y0.1 0 2)==x2)) (.no))
 (.at (false)))
 (.no))
 (.at (false)))
 (.at (false)))
 (.no)
def quv(x0 x1:Int)(x2:List UInt8):Option qR7:=qax (qsS x0 x1 x2).ev
theorem qPj(x0 x1 x2):quv x0 x1 x2=(qsS x0 x1 x2).ev:=qaa _
theorem zfy:FH IP 85 qZt q1P (k3 quv):=fh F85 (k3 qsS) qTk
def zug:Tab:=(85,FE qZt q1P (k3 quv))::zuf
theorem qtp:qao IP zug:=⟨qam zfy,qTk⟩
abbrev qfL:Type:=List AV×Int×Int
def qK2:List PSt:=[⟨[(1003800,.junk),(0,.view 3),(4,.int .i64),(5,.int .i64)],[],0,0⟩]
def q4F(x0:List AV)(x1 x2:Int):X×St:=(.ret,⟨[(0,.view 3 x0),(2,.str []),(3,.int .i64 1),(4,.int .i64 x1)],[],0,0⟩)
def q4G(x0:List AV)(x1 x2:Int):X×St:=(.exit 0,⟨[(0,.view 3 x0),(2,.junk),(3,.junk),(4,.int .i64 x1)],[],0,0⟩)
def zji:List (qfL->X×St):=[(k3 q4F),(k3 q4G)]
def qp2(x0:List AV)(x1 x2:Int):DT (Rd qfL):=
 .br (decide (x2<(x0.length:Int)))
 (.br (qaD [.int .i64,.int .i64,.str] x0 x2)
 (.bi (quv (intOf (cellAt x0 x2 0)) (intOf (cellAt x0 x2 1)) (strOf (cellAt x0 x2 2))) (fun y0=>
 .bi (br (!y0) (some true) (br (qaD [.int .i64,.int .i64,.str] x0 x2) (some (decide (intOf (cellAt x0 x2 1)<x1))) none)) (fun y1=>
 .br (y1)
 (.at (.done 0))
 (.br (qaD [.int .i64,.int .i64,.str] x0 x2) (.at (.next ((x0,intOf (cellAt x0 x2 1),IntKind.i64.wrap (x2+1))))) (.no)))
 (.no))
 (.no))
 (.no))
 (.at (.done 1))
def qlJ:qfL->DT (Rd qfL):=(fun v=>qp2 v.1 v.2.1 v.2.2)
def qpf(v:qfL):Option (Nat×qfL):=qax (qae (fun v=>(qlJ v).ev) v)
theorem qli(v):qpf v=qae (fun v=>(qlJ v).ev) v:=qaa _
def qMh:qbS:=LE (τ:=qfL) (hD qK2) (qpf) zji
theorem zh8:Go.Eng.Told IP (qad F38 0).1 (qad F38 0).2 (qMh):=lp (inferInstance:Inhabited qfL) (hs:=qK2) qlJ qtp qli
abbrev qfN:Type:=List AV×Int×List UInt8×Int
def qK4:List PSt:=[⟨[(1003802,.junk),(0,.view 3),(4,.int .i64),(6,.str),(7,.int .i64)],[],0,0⟩]
def q4K(x0:List AV)(x1:Int)(x2:List UInt8)(x3:Int):X×St:=(.exit 4,⟨[(0,.view 3 x0),(4,.int .i64 x1),(6,.str x2),(7,.int .i64 x3)],[],0,0⟩)
def zjk:List (qfN->X×St):=[(k4 q4K)]
def qp4(x0:List AV)(x1:Int)(x2:List UInt8)(x3:Int):DT (Rd qfN):=
 .br (qaD [.int .i64,.int .i64,.str] x0 x3)
 (.br (decide (x1<intOf (cellAt x0 x3 1)))
 (.br (decide (x2.length+1<=4611686018427387904)) (.at (.next ((x0,IntKind.i64.wrap (x1+1),x2++[10],x3)))) (.no))
 (.at (.done 0)))
 (.no)
def qoa:qfN->DT (Rd qfN):=(fun v=>qp4 v.1 v.2.1 v.2.2.1 v.2.2.2)
def qgQ(v:qfN):Option (Nat×qfN):=qax (qae (fun v=>(qoa v).ev) v)
theorem qlk(v):qgQ v=qae (fun v=>(qoa v).ev) v:=qaa _
def qMj:qbS:=LE (τ:=qfN) (hD qK4) (qgQ) zjk
theorem zia:Go.Eng.Told IP (qad F38 2).1 (qad F38 2).2 (qMj):=lp (inferInstance:Inhabited qfN) (hs:=qK4) qoa qtp qlk
abbrev qfM:Type:=List AV×Int×List UInt8×Int
def qK3:List PSt:=[⟨[(1003801,.junk),(0,.view 3),(4,.int .i64),(6,.str),(7,.int .i64)],[],0,0⟩]
def q4H(x0:List AV)(x1:Int)(x2:List UInt8)(x3:Int):X×St:=(.ret,
 ⟨[(2,.str []),(3,.int .i64 5),
 (6,
 .str
 ((gv (pj 0 (qgQ (x0,x1,x2++[32],x3)))).2.2.1 ++
 strOf (cellAt (gv (pj 0 (qgQ (x0,x1,x2++[32],x3)))).1 (gv (pj 0 (qgQ (x0,x1,x2++[32],x3)))).2.2.2 2)))],[],0,0⟩)
def q4I(x0:List AV)(x1:Int)(x2:List UInt8)(x3:Int):X×St:=(.ret,
 ⟨[(2,.str []),(3,.int .i64 5),
 (6,
 .str
 ((gv (pj 0 (qgQ (x0,x1,x2,x3)))).2.2.1 ++
 strOf (cellAt (gv (pj 0 (qgQ (x0,x1,x2,x3)))).1 (gv (pj 0 (qgQ (x0,x1,x2,x3)))).2.2.2 2)))],[],0,0⟩)
def q4J(x0:List AV)(x1:Int)(x2:List UInt8)(x3:Int):X×St:=(.exit 2,⟨[(2,.junk),(3,.junk),(6,.str x2)],[],0,0⟩)
def zjj:List (qfM->X×St):=[(k4 q4H),(k4 q4I),(k4 q4J)]
def qp3(x0:List AV)(x1:Int)(x2:List UInt8)(x3:Int):DT (Rd qfM):=
 .br (decide (x3<(x0.length:Int)))
 (.bi (br (decide (x3>0)) (br (qaD [.int .i64,.int .i64,.str] x0 x3) (some (intOf (cellAt x0 x3 1)==x1)) none) (some false)) (fun y0=>
 .br (y0)
 (.br (decide (x2.length+1<=4611686018427387904))
 (.bi (pj 0 (qgQ (x0,x1,x2++[32],x3))) (fun y1=>
 .br (qaD [.int .i64,.int .i64,.str] y1.1 y1.2.2.2)
 (.br (decide (y1.2.2.1.length+(strOf (cellAt y1.1 y1.2.2.2 2)).length<=4611686018427387904))
 (.br (decide (((y1.2.2.1++strOf (cellAt y1.1 y1.2.2.2 2)).length:Int)>2048))
 (.at (.done 0))
 (.at (.next ((y1.1,y1.2.1,y1.2.2.1++strOf (cellAt y1.1 y1.2.2.2 2),IntKind.i64.wrap (y1.2.2.2+1))))))
 (.no))
 (.no))
 (.no))
 (.no))
 (.bi (pj 0 (qgQ (x0,x1,x2,x3))) (fun y1=>
 .br (qaD [.int .i64,.int .i64,.str] y1.1 y1.2.2.2)
 (.br (decide (y1.2.2.1.length+(strOf (cellAt y1.1 y1.2.2.2 2)).length<=4611686018427387904))
 (.br (decide (((y1.2.2.1++strOf (cellAt y1.1 y1.2.2.2 2)).length:Int)>2048))
 (.at (.done 1))
 (.at (.next ((y1.1,y1.2.1,y1.2.2.1++strOf (cellAt y1.1 y1.2.2.2 2),IntKind.i64.wrap (y1.2.2.2+1))))))
 (.no))
 (.no))
 (.no)))
 (.no))
 (.at (.done 2))
def qlK:qfM->DT (Rd qfM):=(fun v=>qp3 v.1 v.2.1 v.2.2.1 v.2.2.2)
def qmT(v:qfM):Option (Nat×qfM):=qax (qae (fun v=>(qlK v).ev) v)
theorem qlj(v):qmT v=qae (fun v=>(qlK v).ev) v:=qaa _
def qMi:qbS:=LE (τ:=qfM) (hD qK3) (qmT) zjj
theorem zh9:Go.Eng.Told IP (qad F38 1).1 (qad F38 1).2 (qMi):=qat (inferInstance:Inhabited qfM) (hs:=qK3) (st:=qlK) (L:=[(1003802,qMj)]) qtp (qac (l:=[qad F38 2]) (by kernel_rfl) ⟨qas (by kernel_rfl) zia,trivial⟩) (qlj) (fun v=>by kernel_rfl) (fun v=>by kernel_rfl)
abbrev qR4:Type:=List UInt8×Int
def qZq:PArgs:=⟨[.view 3],[]⟩
def q1M:List PRes:=[⟨false,.tup [.str,.int .i64],[]⟩]
def qsQ(x0:List AV):DT qR4:=
 .bi (pj 0 (qpf (x0,1,0))) (fun y0=>
 .at (([],1)))
 (.bi (pj 1 (qpf (x0,1,0))) (fun y0=>
 .br (decide (IntKind.i64.wrap (y0.2.1-1)>2048))
 (.at (([],5)))
 (.bi (pj 0 (qmT (y0.1,1,[],0))) (fun y1=>
 .at (([],5)))
 (.bi (pj 1 (qmT (y0.1,1,[],0))) (fun y1=>
 .at (([],5)))
 (.bi (pj 2 (qmT (y0.1,1,[],0))) (fun y1=>
 .at ((y1.2.2.1,0)))
 (.no)))))
 (.no))
def qoX(x0:List AV):Option qR4:=qax (qsQ x0).ev
theorem qPh(x0):qoX x0=(qsQ x0).ev:=qaa _
theorem zfv:FH IP 38 qZq q1M qoX:=qag (F:=F38) (L:=[(1003800,qMh),(1003801,qMi)]) (t:=qsQ) qtp (qac (l:=[qad F38 0,qad F38 1,qad F38 2]) (by kernel_rfl) ⟨qas (by kernel_rfl) zh8,qas (by kernel_rfl) zh9,qM9 (by kernel_rfl),trivial⟩) (by kernel_rfl) (fun v=>by kernel_rfl) (fun _=>qaa _)
def zuh:Tab:=(38,FE qZq q1M qoX)::zug
theorem qTl:qao IP zuh:=⟨qam zfv,qtp⟩
abbrev qRT:Type:=List UInt8×Int
def qZe:PArgs:=⟨[.agg [.str,.str,.str,.int .i64,.int .i64,.int .i64,.int .i64,.view 2,.bool,.int .i64,.int .i64,.bool,.view 2,.bool,.int .i64,.int .i64,.bool,.view 10,.view 6]],[]⟩
def q1A:List PRes:=[⟨false,.tup [.str,.int .i64],[]⟩]
def qsG(x0 x1 x2:List UInt8)(x3 x4:Int)(x5 x6:Int)(x7:List AV)(x8:Bool)(x9 x10:Int)(x11:Bool)(x12:List AV)(x13:Bool)(x14 x15:Int)(x16:Bool)(x17 x18:List AV):DT qRT:=
 .bi (qtT x0 x1 x2 x3 x4 x5 x6 x7 x8 x9 x10 x11 x12 x13 x14 x15 x16 x17 x18) (fun y0=>
 .br (!y0)
 (.at (([],1)))
 (.bi (qoV x1) (fun y1=>
 .bi (quh x3) (fun y2=>
 .bi (qbo [] 1 [112,114,111,100,117,99,116]) (fun y3=>
 .bi (qja y3.1 y3.2 x0) (fun y4=>
 .bi (qbi y4.1 y4.2 [123]) (fun y5=>
 .bi (qcK y5.1 y5.2 [99,117,114,114,101,110,99,121]) (fun y6=>
 .bi (qja y6.1 y6.2 y1.1) (fun y7=>
 .bi (qbi y7.1 y7.2 [59]) (fun y8=>
 .bi (qcK y8.1 y8.2 [99,97,108,101,110,100,97,114]) (fun y9=>
 .bi (qja y9.1 y9.2 x2) (fun y10=>
 .bi (qbi y10.1 y10.2 [59]) (fun y11=>
 .bi (qcK y11.1 y11.2 [102,114,111,109]) (fun y12=>
 .bi (qhM y12.1 y12.2 y2.1) (fun y13=>
 .bi (qbi y13.1 y13.2 [47]) (fun y14=>
 .bi (qhM y14.1 y14.2 y2.2.1) (fun y15=>
 .bi (qbi y15.1 y15.2 [47]) (fun y16=>
 .bi (qhM y16.1 y16.2 y2.2.2) (fun y17=>
 .bi (qbi y17.1 y17.2 [59]) (fun y18=>
 .bi (qcK y18.1 y18.2 [101,118,101,114,121]) (fun y19=>
 .bi (qhM y19.1 y19.2 x4) (fun y20=>
 .bi (qbi y20.1 y20.2 [59]) (fun y21=>
 .bi (qcK y21.1 y21.2 [111,118,101,114,100,114,97,102,116]) (fun y22=>
 .bi (qbi y22.1 y22.2 [36]) (fun y23=>
 .bi (qhM y23.1 y23.2 x5) (fun y24=>
 .bi (qbi y24.1 y24.2 [59]) (fun y25=>
 .bi (qcK y25.1 y25.2 [116,97,120]) (fun y26=>
 .bi (qo0 y26.1 y26.2 x6) (fun y27=>
 .bi (qbi y27.1 y27.2 [59]) (fun y28=>
 .bi (qoK y28.1 y28.2 [99,114,101,100,105,116] x7 x8 x9 x10 x11) (fun y29=>
 .bi (qoK y29.1 y29.2 [100,101,98,105,116] x12 x13 x14 x15 x16) (fun y30=>
 .bi (pj 0 (qvd (0,x0,x1,x2,x3,x4,x5,x6,x7,x8,x9,x10,x11,x12,x13,x14,x15,x16,x17,x18,y30))) (fun y31=>
 .bi (pj 0
 (qve
 (0,y31.2))) (fun y32=>
 .bi (qbi y32.i.f.1
 (IntKind.i64.wrap (y32.i.f.2+1)) [125]) (fun y33=>
 .bi (qoX y33.1) (fun y34=>
 .at ((y34)))
 (.no))
 (.no))
 (.no))
 (.no))
 (.no))
 (.no))
 (.no))
 (.no))
 (.no))
 (.no))
 (.no))
 (.no))
 (.no))
 (.no))
 (.no))
 (.no))
 (.no))
 (.no))
 (.no))
 (.no))
 (.no))
 (.no))
 (.no))
 (.no))
 (.no))
 (.no))
 (.no))
 (.no))
 (.no))
 (.no))
 (.no))
 (.no))
 (.no))
 (.no)))
 (.no)
def quq(x0 x1 x2:List UInt8)(x3 x4:Int)(x5 x6:Int)(x7:List AV)(x8:Bool)(x9 x10:Int)(x11:Bool)(x12:List AV)(x13:Bool)(x14 x15:Int)(x16:Bool)(x17 x18:List AV):Option qRT:=qax (qsG x0 x1 x2 x3 x4 x5 x6 x7 x8 x9 x10 x11 x12 x13 x14 x15 x16 x17 x18).ev
theorem qO7(x0 x1 x2 x3 x4 x5 x6 x7 x8 x9 x10 x11 x12 x13 x14 x15 x16 x17 x18):quq x0 x1 x2 x3 x4 x5 x6 x7 x8 x9 x10 x11 x12 x13 x14 x15 x16 x17 x18=(qsG x0 x1 x2 x3 x4 x5 x6 x7 x8 x9 x10 x11 x12 x13 x14 x15 x16 x17 x18).ev:=qaa _
theorem zfj:FH IP 10 qZe q1A (k19 quq):=qag (F:=F10) (L:=[(1001000,qMb),(1001001,qMc)]) (t:=(k19 qsG)) qTl (qac (l:=[qad F10 0,qad F10 1]) (by kernel_rfl) ⟨qas (by kernel_rfl) zh2,qas (by kernel_rfl) zh3,trivial⟩) (by kernel_rfl) (fun v=>by kernel_rfl) (fun _=>qaa _)
def zui:Tab:=(10,FE qZe q1A (k19 quq))::zuh
theorem qTm:qao IP zui:=⟨qam zfj,qTl⟩
end
end Go.Proofs.H16
namespace Go.Proofs.H16
open Go Go.Eng
set_option maxRecDepth 100000
noncomputable section
abbrev q8F:Type:=Bool
def qZS:PArgs:=⟨[.agg [.str,.str,.str,.int .i64,.int .i64,.int .i64,.int .i64,.view 2,.bool,.int .i64,.int .i64,.bool,.view 2,.bool,.int .i64,.int .i64,.bool,.view 10,.view 6]],[]⟩
def zci:List PRes:=[⟨false,.bool,[]⟩]
def qCz(x0 x1 x2:List UInt8)(x3 x4:Int)(x5 x6:Int)(x7:List AV)(x8:Bool)(x9 x10:Int)(x11:Bool)(x12:List AV)(x13:Bool)(x14 x15:Int)(x16:Bool)(x17 x18:List AV):DT q8F:=
 .bi (qoU x0 x1 x2 x3 x4 x5 x6 x7 x8 x9 x10 x11 x12 x13 x14 x15 x16 x17 x18) (fun y0=>
 .br (y0)
 (.bi (qb7) (fun y1=>
 .at (y1))
 (.no))
 (.bi (qj6 x0 x1 x2 x3 x4 x5 x6 x7 x8 x9 x10 x11 x12 x13 x14 x15 x16 x17 x18) (fun y1=>
 .bi (quq x0 x1 x2 x3 x4 x5 x6 x7 x8 x9 x10 x11 x12 x13 x14 x15 x16 x17 x18) (fun y2=>
 .bi (br (y1.1==y2.1) (some (y1.2==y2.2)) (some false)) (fun y3=>
 .bi (br y3 (br (sm qb7) (some (gv qb7)) none) (some false)) (fun y4=>
 .at (y4))
 (.no))
 (.no))
 (.no))
 (.no)))
 (.no)
def qKd(x0 x1 x2:List UInt8)(x3 x4:Int)(x5 x6:Int)(x7:List AV)(x8:Bool)(x9 x10:Int)(x11:Bool)(x12:List AV)(x13:Bool)(x14 x15:Int)(x16:Bool)(x17 x18:List AV):Option q8F:=qax (qCz x0 x1 x2 x3 x4 x5 x6 x7 x8 x9 x10 x11 x12 x13 x14 x15 x16 x17 x18).ev
theorem qVD(x0 x1 x2 x3 x4 x5 x6 x7 x8 x9 x10 x11 x12 x13 x14 x15 x16 x17 x18):qKd x0 x1 x2 x3 x4 x5 x6 x7 x8 x9 x10 x11 x12 x13 x14 x15 x16 x17 x18=(qCz x0 x1 x2 x3 x4 x5 x6 x7 x8 x9 x10 x11 x12 x13 x14 x15 x16 x17 x18).ev:=qaa _
theorem zac:FH IP 3 qZS zci (k19 qKd):=fh F3 (k19 qCz) qTm
def zuj:Tab:=(3,FE qZS zci (k19 qKd))::zui
theorem qTn:qao IP zuj:=⟨qam zac,qTm⟩
end
end Go.Proofs.H16
namespace Go.Proofs.H16
open Go Go.Eng
set_option maxRecDepth 100000
noncomputable section
abbrev qRm:Type:=Bool
def qYH:PArgs:=⟨[.agg [.int .i64,.int .i64,.str]],[]⟩
def q03:List PRes:=[⟨false,.bool,[]⟩]
def qsf(x0 x1:Int)(x2:List UInt8):DT qRm:=
 .bi (qj7 x2) (fun y0=>
 .br (y0.2.2==0)
 (.br ((y0.1.length:Int)==1)
 (.br (qaD [.int .i64,.int .i64,.str] y0.1 0)
 (.br (intOf (cellAt y0.1 0 0)==x0)
 (.br (qaD [.int .i64,.int .i64,.str] y0.1 0) (.at (strOf (cellAt y0.1 0 2)==x2)) (.no))
 (.at (false)))
 (.no))
 (.at (false)))
 (.at (false)))
 (.no)
def qAv(x0 x1:Int)(x2:List UInt8):Option qRm:=qax (qsf x0 x1 x2).ev
theorem qOG(x0 x1 x2):qAv x0 x1 x2=(qsf x0 x1 x2).ev:=qaa _
theorem qUs:FH IP 66 qYH q03 (k3 qAv):=fh F66 (k3 qsf) qTn
end
end Go.Proofs.H16

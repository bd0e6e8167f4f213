/- Functions over plain data. Printed by a program of mine. -/
import Derived.Test.YtpoebijgpbaccaaGreatD53z_7
import Derived.KernelRfl
set_option linter.unusedVariables false
set_option linter.unusedSimpArgs false
set_option linter.unnecessarySimpa false
namespace Go.Proofs.H53z
open Go Go.Eng
set_option maxRecDepth 100000
noncomputable section
abbrev qC0:Type:=List UInt8 × List UInt8 × List UInt8 × Int × Int × Int × Int × List AV × Bool × Int × Int × Bool × List AV × Bool × Int × Int × Bool × List AV × List AV × Bool
def qIO:PArgs:=⟨[.view 19,.str,.int .i64],[]⟩
def qJ9:List PRes:=[⟨false,.tup [.agg [.str,.str,.str,.int .i64,.int .i64,.int .i64,.int .i64,.view 2,.bool,.int .i64,.int .i64,.bool,.view 2,.bool,.int .i64,.int .i64,.bool,.view 10,.view 6],.bool],[]⟩]
def qki (x0:List AV) (x1:List UInt8) (x2:Int):DT qC0:=
 .bi (pj 0 (qy6 (x0,x1,x2,-1,x0,(x0.length:Int),0,[],[],[],0,0,0,0,false,0,0,false,false,0,0,false))) (fun y0=>
 .br (decide (y0.2.2.2.1 < 0))
 (.at (([],[],[],0,0,0,0,[],false,0,0,false,[],false,0,0,false,[],[],false)))
 (.br (qaw
 [CS.str,CS.str,CS.str,CS.int IntKind.i64,CS.int IntKind.i64,CS.int IntKind.i64,CS.int IntKind.i64,CS.slice 2,CS.bool,CS.int IntKind.i64,CS.int IntKind.i64,CS.bool,
 CS.slice 2,CS.bool,CS.int IntKind.i64,CS.int IntKind.i64,CS.bool,CS.slice 10,CS.slice 6]
 y0.1 y0.2.2.2.1)
 (.at ((strOf (cellAt y0.1 y0.2.2.2.1 0),strOf (cellAt y0.1 y0.2.2.2.1 1),strOf (cellAt y0.1 y0.2.2.2.1 2),intOf (cellAt y0.1 y0.2.2.2.1 3),intOf (cellAt y0.1 y0.2.2.2.1 4),intOf (cellAt y0.1 y0.2.2.2.1 5),intOf (cellAt y0.1 y0.2.2.2.1 6),qat (cellAt y0.1 y0.2.2.2.1 7),qbg (cellAt y0.1 y0.2.2.2.1 8),intOf (cellAt y0.1 y0.2.2.2.1 9),intOf (cellAt y0.1 y0.2.2.2.1 10),qbg (cellAt y0.1 y0.2.2.2.1 11),qat (cellAt y0.1 y0.2.2.2.1 12),qbg (cellAt y0.1 y0.2.2.2.1 13),intOf (cellAt y0.1 y0.2.2.2.1 14),intOf (cellAt y0.1 y0.2.2.2.1 15),qbg (cellAt y0.1 y0.2.2.2.1 16),qat (cellAt y0.1 y0.2.2.2.1 17),qat (cellAt y0.1 y0.2.2.2.1 18),true)))
 (.no)))
 (.no)
def qlO (x0:List AV) (x1:List UInt8) (x2:Int):Option qC0:=qaC (qki x0 x1 x2).ev
theorem qAE (x0 x1 x2):qlO x0 x1 x2 = (qki x0 x1 x2).ev:=qaa _
theorem qTN:FH IP 94 qIO qJ9 (k3 qlO):=qam (F:=F94) (L:=[(1009400,qHl)]) (t:=(k3 qki)) qEw (qae (l:=[qab F94 0]) (by kernel_rfl) ⟨qal (by kernel_rfl) q0s,trivial⟩) (by kernel_rfl) (fun v=>by kernel_rfl) (fun _=>qaa _)
def T83:Tab:=(94,FE qIO qJ9 (k3 qlO)) :: T82
theorem qRD:qau IP T83:=⟨qay qTN,qEw⟩
abbrev qQB:Type:=List UInt8 × List UInt8 × List UInt8 × Int × Int × Int × Int × List AV × Bool × Int × Int × Bool × List AV × Bool × Int × Int × Bool × List AV × List AV × Bool
def qSn:PArgs:=⟨[.agg [.view 2,.view 3,.view 4,.int .i64,.int .i64,.int .i64,.int .i64,.int .i64,.int .i64,.int .i64,.int .i64,.int .i64,.int .i64,.int .i64,.int .i64,.int .i64,.int .i64,.view 19,.view 7,.view 10,.view 6,.view 7],.int .i64,.int .i64],[]⟩
def qSR:List PRes:=[⟨false,.tup [.agg [.str,.str,.str,.int .i64,.int .i64,.int .i64,.int .i64,.view 2,.bool,.int .i64,.int .i64,.bool,.view 2,.bool,.int .i64,.int .i64,.bool,.view 10,.view 6],.bool],[]⟩]
def qrH (x0 x1 x2:List AV) (x3 x4:Int) (x5 x6:Int) (x7 x8:Int) (x9 x10:Int) (x11 x12:Int) (x13 x14:Int) (x15 x16:Int) (x17 x18:List AV) (x19 x20 x21:List AV) (x22 x23:Int):DT qQB:=
 .bi (qmp x0 x1 x2 x3 x4 x5 x6 x7 x8 x9 x10 x11 x12 x13 x14 x15 x16 x17 x18 x19 x20 x21 x22) (fun y0=>
 .br (!y0.2.2.2.2.2.2.2)
 (.at (([],[],[],0,0,0,0,[],false,0,0,false,[],false,0,0,false,[],[],false)))
 (.bi (qlO x17 y0.2.2.2.2.2.1 x23) (fun y1=>
 .at ((y1.1,y1.2.1,y1.2.2.1,y1.2.2.2.1,y1.2.2.2.2.1,y1.2.2.2.2.2.1,y1.2.2.2.2.2.2.1,y1.2.2.2.2.2.2.2.1,y1.2.2.2.2.2.2.2.2.1,y1.2.2.2.2.2.2.2.2.2.1,y1.2.2.2.2.2.2.2.2.2.2.1,y1.2.2.2.2.2.2.2.2.2.2.2.1,y1.2.2.2.2.2.2.2.2.2.2.2.2.1,y1.2.2.2.2.2.2.2.2.2.2.2.2.2.1,y1.2.2.2.2.2.2.2.2.2.2.2.2.2.2.1,y1.2.2.2.2.2.2.2.2.2.2.2.2.2.2.2.1,y1.2.2.2.2.2.2.2.2.2.2.2.2.2.2.2.2.1,y1.2.2.2.2.2.2.2.2.2.2.2.2.2.2.2.2.2.1,y1.2.2.2.2.2.2.2.2.2.2.2.2.2.2.2.2.2.2.1,y1.2.2.2.2.2.2.2.2.2.2.2.2.2.2.2.2.2.2.2)))
 (.no)))
 (.no)
def qsQ (x0 x1 x2:List AV) (x3 x4:Int) (x5 x6:Int) (x7 x8:Int) (x9 x10:Int) (x11 x12:Int) (x13 x14:Int) (x15 x16:Int) (x17 x18:List AV) (x19 x20 x21:List AV) (x22 x23:Int):Option qQB:=qaC (qrH x0 x1 x2 x3 x4 x5 x6 x7 x8 x9 x10 x11 x12 x13 x14 x15 x16 x17 x18 x19 x20 x21 x22 x23).ev
theorem qFj (x0 x1 x2 x3 x4 x5 x6 x7 x8 x9 x10 x11 x12 x13 x14 x15 x16 x17 x18 x19 x20 x21 x22 x23):qsQ x0 x1 x2 x3 x4 x5 x6 x7 x8 x9 x10 x11 x12 x13 x14 x15 x16 x17 x18 x19 x20 x21 x22 x23 = (qrH x0 x1 x2 x3 x4 x5 x6 x7 x8 x9 x10 x11 x12 x13 x14 x15 x16 x17 x18 x19 x20 x21 x22 x23).ev:=qaa _
theorem qX4:FH IP 66 qSn qSR (k24 qsQ):=fh F66 (k24 qrH) qRD
def T84:Tab:=(66,FE qSn qSR (k24 qsQ)) :: T83
theorem qRE:qau IP T84:=⟨qay qX4,qRD⟩
abbrev qQ0:Type:=Int × Int
def qSM:PArgs:=⟨[.agg [.view 2,.view 3,.view 4,.int .i64,.int .i64,.int .i64,.int .i64,.int .i64,.int .i64,.int .i64,.int .i64,.int .i64,.int .i64,.int .i64,.int .i64,.int .i64,.int .i64,.view 19,.view 7,.view 10,.view 6,.view 7],.int .i64,.int .i64],[]⟩
def qTg:List PRes:=[⟨false,.tup [.int .i64,.int .i64],[]⟩]
def qsb (x0 x1 x2:List AV) (x3 x4:Int) (x5 x6:Int) (x7 x8:Int) (x9 x10:Int) (x11 x12:Int) (x13 x14:Int) (x15 x16:Int) (x17 x18:List AV) (x19 x20 x21:List AV) (x22 x23:Int):DT qQ0:=
 .bi (qmp x0 x1 x2 x3 x4 x5 x6 x7 x8 x9 x10 x11 x12 x13 x14 x15 x16 x17 x18 x19 x20 x21 x22) (fun y0=>
 .bi (qsQ x0 x1 x2 x3 x4 x5 x6 x7 x8 x9 x10 x11 x12 x13 x14 x15 x16 x17 x18 x19 x20 x21 x22 x23) (fun y1=>
 .bi (br (!y0.2.2.2.2.2.2.2) (some true) (some !y1.2.2.2.2.2.2.2.2.2.2.2.2.2.2.2.2.2.2.2)) (fun y2=>
 .br (y2) (.at ((0,11))) (.at ((IntKind.i64.wrap (0 - IntKind.i64.wrap (y1.2.2.2.2.2.1 + y0.2.2.2.1)),0))))
 (.no))
 (.no))
 (.no)
def qsZ (x0 x1 x2:List AV) (x3 x4:Int) (x5 x6:Int) (x7 x8:Int) (x9 x10:Int) (x11 x12:Int) (x13 x14:Int) (x15 x16:Int) (x17 x18:List AV) (x19 x20 x21:List AV) (x22 x23:Int):Option qQ0:=qaC (qsb x0 x1 x2 x3 x4 x5 x6 x7 x8 x9 x10 x11 x12 x13 x14 x15 x16 x17 x18 x19 x20 x21 x22 x23).ev
theorem qFG (x0 x1 x2 x3 x4 x5 x6 x7 x8 x9 x10 x11 x12 x13 x14 x15 x16 x17 x18 x19 x20 x21 x22 x23):qsZ x0 x1 x2 x3 x4 x5 x6 x7 x8 x9 x10 x11 x12 x13 x14 x15 x16 x17 x18 x19 x20 x21 x22 x23 = (qsb x0 x1 x2 x3 x4 x5 x6 x7 x8 x9 x10 x11 x12 x13 x14 x15 x16 x17 x18 x19 x20 x21 x22 x23).ev:=qaa _
theorem qYu:FH IP 69 qSM qTg (k24 qsZ):=fh F69 (k24 qsb) qRE
def T85:Tab:=(69,FE qSM qTg (k24 qsZ)) :: T84
theorem qEx:qau IP T85:=⟨qay qYu,qRE⟩
abbrev qeL:Type:=Int × Int × Int × List AV × Int × Int
def qGa:List PSt:=[⟨[(1007100,.junk),(1,.int .i64),(2,.int .i64),(7,.int .i64),(10,.view 6),(11,.int .i64),(12,.int .i64)],[],0,0⟩]
def qO7 (x0 x1 x2:Int) (x3:List AV) (x4 x5:Int):X × St:=(.exit 0,⟨[(7,.int .i64 x2)],[],0,0⟩)
def q1y:List (qeL -> X × St):=[(k6 qO7)]
def qLx (x0 x1 x2:Int) (x3:List AV) (x4 x5:Int):DT (Rd qeL):=
 .br (decide (x5 < x4))
 (.br (qaw [.int .i64,.int .i64,.int .i64,.int .i64,.int .i64,.str] x3 x5)
 (.bi (br (intOf (cellAt x3 x5 1) == x0) (some (decide (intOf (cellAt x3 x5 3) <= x1))) (some false)) (fun y0=>
 .bi (br y0 (some (decide (x1 <= intOf (cellAt x3 x5 4)))) (some false)) (fun y1=>
 .br (y1)
 (.at (.next ((x0,x1,IntKind.i64.wrap (x2 + intOf (cellAt x3 x5 2)),x3,x4,IntKind.i64.wrap (x5 + 1)))))
 (.at (.next ((x0,x1,x2,x3,x4,IntKind.i64.wrap (x5 + 1))))))
 (.no))
 (.no))
 (.no))
 (.at (.done 0))
def qq6:qeL -> DT (Rd qeL):=(fun v=>qLx v.1 v.2.1 v.2.2.1 v.2.2.2.1 v.2.2.2.2.1 v.2.2.2.2.2)
def qGU (v:qeL):Option (Nat × qeL):=qaC (qah (fun v=>(qq6 v).ev) v)
theorem qty (v):qGU v = qah (fun v=>(qq6 v).ev) v:=qaa _
def qHm:qbi:=LE (τ:=qeL) (hD qGa) (qGU) q1y
theorem q0t:Go.Eng.Told IP (qab F71 0).1 (qab F71 0).2 (qHm):=lp (inferInstance:Inhabited qeL) (hs:=qGa) qq6 qEx qty
abbrev qC1:Type:=Int
def qIP:PArgs:=⟨[.view 6,.int .i64,.int .i64],[]⟩
def qKa:List PRes:=[⟨false,.int .i64,[]⟩]
def qkj (x0:List AV) (x1 x2:Int):DT qC1:=
 .bi (pj 0 (qGU (x1,x2,0,x0,(x0.length:Int),0))) (fun y0=>
 .at (y0.2.2.1))
 (.no)
def qlP (x0:List AV) (x1 x2:Int):Option qC1:=qaC (qkj x0 x1 x2).ev
theorem qAF (x0 x1 x2):qlP x0 x1 x2 = (qkj x0 x1 x2).ev:=qaa _
theorem qTO:FH IP 71 qIP qKa (k3 qlP):=qam (F:=F71) (L:=[(1007100,qHm)]) (t:=(k3 qkj)) qEx (qae (l:=[qab F71 0]) (by kernel_rfl) ⟨qal (by kernel_rfl) q0t,trivial⟩) (by kernel_rfl) (fun v=>by kernel_rfl) (fun _=>qaa _)
def T86:Tab:=(71,FE qIP qKa (k3 qlP)) :: T85
theorem qEy:qau IP T86:=⟨qay qTO,qEx⟩
abbrev qdw:Type:=(Int × Int × List AV × Int × Int) ⊕ (Int × Int × List AV × Int × Int × List AV)
def qFQ:List PSt:=[⟨[(1009700,.junk),(1,.int .i64),(2,.int .i64),(7,.nils 7),(10,.view 7),(11,.int .i64),(12,.int .i64)],[],0,0⟩,⟨[(1009700,.junk),(1,.int .i64),(2,.int .i64),(7,.own 0 0),(10,.view 7),(11,.int .i64),(12,.int .i64)],[(0,.arr 7 false)],1,0⟩]
def qOv (x0 x1:Int) (x2:List AV) (x3 x4:Int):X × St:=(.exit 0,⟨[(7,.nils ⟨7,.nil⟩)],[],0,0⟩)
def qOw (x0 x1:Int) (x2:List AV) (x3 x4:Int) (x5:List AV):X × St:=(.exit 0,⟨[(7,.own 0 0 none)],[(0,.arr 7 x5 false)],1,0⟩)
def q1e:List (qdw -> X × St):=[fun w=>(k5 qOv) ((sl w)),fun w=>(k6 qOw) ((sr w))]
def qLj (x0 x1:Int) (x2:List AV) (x3 x4:Int):DT (Rd qdw):=
 .br (decide (x4 < x3))
 (.br (qaw [.int .i64,.int .i64,.int .i64,.int .i64,.int .i64,.int .i64,.str] x2 x4)
 (.bi (br (intOf (cellAt x2 x4 1) == x0) (some (decide (intOf (cellAt x2 x4 4) <= x1))) (some false)) (fun y0=>
 .bi (br y0 (some (decide (x1 <= intOf (cellAt x2 x4 5)))) (some false)) (fun y1=>
 .br (y1)
 (.at (.next ((.inr (x0,x1,x2,x3,IntKind.i64.wrap (x4 + 1),[AV.agg
 [.int .i64 (intOf (cellAt x2 x4 0)),.int .i64 (intOf (cellAt x2 x4 1)),.int .i64 (intOf (cellAt x2 x4 2)),
 .int .i64 (intOf (cellAt x2 x4 3)),.int .i64 (intOf (cellAt x2 x4 4)),.int .i64 (intOf (cellAt x2 x4 5)),AV.str (strOf (cellAt x2 x4 6))]])))))
 (.at (.next ((.inl (x0,x1,x2,x3,IntKind.i64.wrap (x4 + 1)))))))
 (.no))
 (.no))
 (.no))
 (.at (.done 0))
def qLk (x0 x1:Int) (x2:List AV) (x3 x4:Int) (x5:List AV):DT (Rd qdw):=
 .br (decide (x4 < x3))
 (.br (qaw [.int .i64,.int .i64,.int .i64,.int .i64,.int .i64,.int .i64,.str] x2 x4)
 (.bi (br (intOf (cellAt x2 x4 1) == x0) (some (decide (intOf (cellAt x2 x4 4) <= x1))) (some false)) (fun y0=>
 .bi (br y0 (some (decide (x1 <= intOf (cellAt x2 x4 5)))) (some false)) (fun y1=>
 .br (y1)
 (.br (room (x5.length + 1) 64)
 (.at (.next ((.inr (x0,x1,x2,x3,IntKind.i64.wrap (x4 + 1),x5 ++
 [AV.agg
 [.int .i64 (intOf (cellAt x2 x4 0)),.int .i64 (intOf (cellAt x2 x4 1)),.int .i64 (intOf (cellAt x2 x4 2)),
 .int .i64 (intOf (cellAt x2 x4 3)),.int .i64 (intOf (cellAt x2 x4 4)),.int .i64 (intOf (cellAt x2 x4 5)),AV.str (strOf (cellAt x2 x4 6))]])))))
 (.no))
 (.at (.next ((.inr (x0,x1,x2,x3,IntKind.i64.wrap (x4 + 1),x5))))))
 (.no))
 (.no))
 (.no))
 (.at (.done 1))
def qnC:qdw -> DT (Rd qdw):=(Sum.elim (fun v=>qLj v.1 v.2.1 v.2.2.1 v.2.2.2.1 v.2.2.2.2) (fun v=>qLk v.1 v.2.1 v.2.2.1 v.2.2.2.1 v.2.2.2.2.1 v.2.2.2.2.2))
def qyY (v:qdw):Option (Nat × qdw):=qaC (qah (fun v=>(qnC v).ev) v)
theorem qs9 (v):qyY v = qah (fun v=>(qnC v).ev) v:=qaa _
def qG2:qbi:=LE (τ:=qdw) (hD qFQ) (qyY) q1e
theorem qZ9:Go.Eng.Told IP (qab F97 0).1 (qab F97 0).2 (qG2):=qaj (inferInstance:Inhabited qdw) (hs:=qFQ) (st:=qnC) (L:=[]) qEy (qae (l:=[]) (by kernel_rfl) trivial) (qs9) (fun v=>match v with | (.inl v)=>by kernel_rfl | (.inr v)=>by kernel_rfl) (fun v=>match v with | (.inl v)=>by kernel_rfl | (.inr v)=>by kernel_rfl)
abbrev qQD:Type:=List AV
def qSp:PArgs:=⟨[.view 7,.int .i64,.int .i64],[]⟩
def qST:List PRes:=[⟨false,.view 7,[]⟩]
def qrK (x0:List AV) (x1 x2:Int):DT qQD:=
 .bi (pj 0 (qyY (Sum.inl (x1,x2,x0,(x0.length:Int),0)))) (fun y0=>
 .at ([]))
 (.bi (pj 1 (qyY (Sum.inl (x1,x2,x0,(x0.length:Int),0)))) (fun y0=>
 .at ((sr y0).2.2.2.2.2))
 (.no))
def qsS (x0:List AV) (x1 x2:Int):Option qQD:=qaC (qrK x0 x1 x2).ev
theorem qFl (x0 x1 x2):qsS x0 x1 x2 = (qrK x0 x1 x2).ev:=qaa _
theorem qX6:FH IP 97 qSp qST (k3 qsS):=qam (F:=F97) (L:=[(1009700,qG2)]) (t:=(k3 qrK)) qEy (qae (l:=[qab F97 0]) (by kernel_rfl) ⟨qal (by kernel_rfl) qZ9,trivial⟩) (by kernel_rfl) (fun v=>by kernel_rfl) (fun _=>qaa _)
def T87:Tab:=(97,FE qSp qST (k3 qsS)) :: T86
theorem qRF:qau IP T87:=⟨qay qX6,qEy⟩
abbrev qQI:Type:=(Unit) ⊕ (Unit) ⊕ (Unit) ⊕ (Int) ⊕ (Unit)
def qSu:PArgs:=⟨[.agg [.int .i64,.int .i64,.int .i64,.int .i64,.int .i64,.int .i64,.str]],[]⟩
def qSY:List PRes:=[⟨false,.iface 185 (.agg []),[]⟩,⟨false,.iface 186 (.agg []),[]⟩,⟨false,.iface 187 (.agg []),[]⟩,⟨false,.iface 170 (.agg [.int .i64]),[]⟩,⟨false,.iface 188 (.agg []),[]⟩]
def qrO (x0 x1:Int) (x2 x3:Int) (x4 x5:Int) (x6:List UInt8):DT qQI:=
 .br (x2 == 1)
 (.at ((.inl ())))
 (.br (x2 == 2)
 (.at ((.inr (.inl ()))))
 (.br (x2 == 3)
 (.at ((.inr (.inr (.inl ())))))
 (.br (x2 == 4) (.at ((.inr (.inr (.inr (.inl (x3))))))) (.at ((.inr (.inr (.inr (.inr ())))))))))
def qjw (x0 x1:Int) (x2 x3:Int) (x4 x5:Int) (x6:List UInt8):Option qQI:=qaC (qrO x0 x1 x2 x3 x4 x5 x6).ev
theorem qFo (x0 x1 x2 x3 x4 x5 x6):qjw x0 x1 x2 x3 x4 x5 x6 = (qrO x0 x1 x2 x3 x4 x5 x6).ev:=qaa _
theorem qYb:FH IP 98 qSu qSY (k7 qjw):=fh F98 (k7 qrO) qRF
def T88:Tab:=(98,FE qSu qSY (k7 qjw)) :: T87
theorem qEz:qau IP T88:=⟨qay qYb,qRF⟩
abbrev qhK:Type:=Int × List AV × Int × Int
def qR2:List PSt:=[⟨[(1007200,.junk),(7,.int .i64),(15,.view 7),(16,.int .i64),(17,.int .i64)],[],0,0⟩]
def qWL (x0:Int) (x1:List AV) (x2 x3:Int):X × St:=(.exit 0,⟨[(7,.int .i64 x0)],[],0,0⟩)
def q5H:List (qhK -> X × St):=[(k4 qWL)]
def qOk (x0:Int) (x1:List AV) (x2 x3:Int):DT (Rd qhK):=
 .br (decide (x3 < x2))
 (.br (qaw [.int .i64,.int .i64,.int .i64,.int .i64,.int .i64,.int .i64,.str] x1 x3)
 (.bi (pl
 (qjw (intOf (cellAt x1 x3 0)) (intOf (cellAt x1 x3 1)) (intOf (cellAt x1 x3 2)) (intOf (cellAt x1 x3 3)) (intOf (cellAt x1 x3 4)) (intOf (cellAt x1 x3 5))
 (strOf (cellAt x1 x3 6)))) (fun y0=>
 .at (.next ((x0,x1,x2,IntKind.i64.wrap (x3 + 1)))))
 (.bi (pl
 (pr
 (qjw (intOf (cellAt x1 x3 0)) (intOf (cellAt x1 x3 1)) (intOf (cellAt x1 x3 2)) (intOf (cellAt x1 x3 3)) (intOf (cellAt x1 x3 4)) (intOf (cellAt x1 x3 5))
 (strOf (cellAt x1 x3 6))))) (fun y0=>
 .at (.next ((x0,x1,x2,IntKind.i64.wrap (x3 + 1)))))
 (.bi (pl
 (pr
 (pr
 (qjw (intOf (cellAt x1 x3 0)) (intOf (cellAt x1 x3 1)) (intOf (cellAt x1 x3 2)) (intOf (cellAt x1 x3 3)) (intOf (cellAt x1 x3 4)) (intOf (cellAt x1 x3 5))
 (strOf (cellAt x1 x3 6)))))) (fun y0=>
 .at (.next ((x0,x1,x2,IntKind.i64.wrap (x3 + 1)))))
 (.bi (pl
 (pr
 (pr
 (pr
 (qjw (intOf (cellAt x1 x3 0)) (intOf (cellAt x1 x3 1)) (intOf (cellAt x1 x3 2)) (intOf (cellAt x1 x3 3)) (intOf (cellAt x1 x3 4)) (intOf (cellAt x1 x3 5))
 (strOf (cellAt x1 x3 6))))))) (fun y0=>
 .at (.next ((IntKind.i64.wrap (x0 + y0),x1,x2,IntKind.i64.wrap (x3 + 1)))))
 (.bi (pr
 (pr
 (pr
 (pr
 (qjw (intOf (cellAt x1 x3 0)) (intOf (cellAt x1 x3 1)) (intOf (cellAt x1 x3 2)) (intOf (cellAt x1 x3 3)) (intOf (cellAt x1 x3 4)) (intOf (cellAt x1 x3 5))
 (strOf (cellAt x1 x3 6))))))) (fun y0=>
 .at (.next ((x0,x1,x2,IntKind.i64.wrap (x3 + 1)))))
 (.no))))))
 (.no))
 (.at (.done 0))
def qzW:qhK -> DT (Rd qhK):=(fun v=>qOk v.1 v.2.1 v.2.2.1 v.2.2.2)
def qNQ (v:qhK):Option (Nat × qhK):=qaC (qah (fun v=>(qzW v).ev) v)
theorem qy8 (v):qNQ v = qah (fun v=>(qzW v).ev) v:=qaa _
def qSb:qbi:=LE (τ:=qhK) (hD qR2) (qNQ) q5H
theorem q5w:Go.Eng.Told IP (qab F72 0).1 (qab F72 0).2 (qSb):=lp (inferInstance:Inhabited qhK) (hs:=qR2) qzW qEz qy8
abbrev qQz:Type:=Int
def qSm:PArgs:=⟨[.view 7,.int .i64,.int .i64],[]⟩
def qSP:List PRes:=[⟨false,.int .i64,[]⟩]
def qrD (x0:List AV) (x1 x2:Int):DT qQz:=
 .bi (qsS x0 x1 x2) (fun y0=>
 .bi (pj 0 (qNQ (0,y0,(y0.length:Int),0))) (fun y1=>
 .at (y1.1))
 (.no))
 (.no)
def qsP (x0:List AV) (x1 x2:Int):Option qQz:=qaC (qrD x0 x1 x2).ev
theorem qFh (x0 x1 x2):qsP x0 x1 x2 = (qrD x0 x1 x2).ev:=qaa _
theorem qX3:FH IP 72 qSm qSP (k3 qsP):=qam (F:=F72) (L:=[(1007200,qSb)]) (t:=(k3 qrD)) qEz (qae (l:=[qab F72 0]) (by kernel_rfl) ⟨qal (by kernel_rfl) q5w,trivial⟩) (by kernel_rfl) (fun v=>by kernel_rfl) (fun _=>qaa _)
def T89:Tab:=(72,FE qSm qSP (k3 qsP)) :: T88
theorem qRG:qau IP T89:=⟨qay qX3,qEz⟩
abbrev qQE:Type:=Int × Int
def qSq:PArgs:=⟨[.agg [.view 2,.view 3,.view 4,.int .i64,.int .i64,.int .i64,.int .i64,.int .i64,.int .i64,.int .i64,.int .i64,.int .i64,.int .i64,.int .i64,.int .i64,.int .i64,.int .i64,.view 19,.view 7,.view 10,.view 6,.view 7],.int .i64,.int .i64],[]⟩
def qSU:List PRes:=[⟨false,.tup [.int .i64,.int .i64],[]⟩]
def qrL (x0 x1 x2:List AV) (x3 x4:Int) (x5 x6:Int) (x7 x8:Int) (x9 x10:Int) (x11 x12:Int) (x13 x14:Int) (x15 x16:Int) (x17 x18:List AV) (x19 x20 x21:List AV) (x22 x23:Int):DT qQE:=
 .bi (qsZ x0 x1 x2 x3 x4 x5 x6 x7 x8 x9 x10 x11 x12 x13 x14 x15 x16 x17 x18 x19 x20 x21 x22 x23) (fun y0=>
 .br (y0.2 != 0)
 (.at ((0,y0.2)))
 (.br (Tk.ofB x19)
 (.bi (qlP x20 x22 x23) (fun y1=>
 .bi (qsP x21 x22 x23) (fun y2=>
 .at ((IntKind.i64.wrap (IntKind.i64.wrap (IntKind.i64.wrap (Tk.ofI x19 x22 - y0.1) - y1) - y2),0)))
 (.no))
 (.no))
 (.no)))
 (.no)
def qoA (x0 x1 x2:List AV) (x3 x4:Int) (x5 x6:Int) (x7 x8:Int) (x9 x10:Int) (x11 x12:Int) (x13 x14:Int) (x15 x16:Int) (x17 x18:List AV) (x19 x20 x21:List AV) (x22 x23:Int):Option qQE:=qaC (qrL x0 x1 x2 x3 x4 x5 x6 x7 x8 x9 x10 x11 x12 x13 x14 x15 x16 x17 x18 x19 x20 x21 x22 x23).ev
theorem qFm (x0 x1 x2 x3 x4 x5 x6 x7 x8 x9 x10 x11 x12 x13 x14 x15 x16 x17 x18 x19 x20 x21 x22 x23):qoA x0 x1 x2 x3 x4 x5 x6 x7 x8 x9 x10 x11 x12 x13 x14 x15 x16 x17 x18 x19 x20 x21 x22 x23 = (qrL x0 x1 x2 x3 x4 x5 x6 x7 x8 x9 x10 x11 x12 x13 x14 x15 x16 x17 x18 x19 x20 x21 x22 x23).ev:=qaa _
theorem qX7:FH IP 29 qSq qSU (k24 qoA):=fh F29 (k24 qrL) qRG
def T90:Tab:=(29,FE qSq qSU (k24 qoA)) :: T89
theorem qEA:qau IP T90:=⟨qay qX7,qRG⟩
abbrev qdx:Type:=(Int × List AV × Int × Int × List AV × List AV × List AV × Int × Int × Int × Int × Int × Int × Int × Int × Int × Int × Int × Int × Int × Int × List AV × List AV × List AV × List AV × List AV × Int × Int) ⊕ (Int × List AV × Int × Int × List AV × List AV × List AV × Int × Int × Int × Int × Int × Int × Int × Int × Int × Int × Int × Int × Int × Int × List AV × List AV × List AV × List AV × List AV × Int × Int × List AV)
def qFR:List PSt:=[⟨[(1000800,.junk),(1,.int .i64),(3,.ref 0 0 0),(6,.ref 1 0 0),(7,.ref 2 0 0),(15,.view 7),(16,.int .i64),(17,.int .i64)],[(0,.box [.view 2,.view 3,.view 4,.int .i64,.int .i64,.int .i64,.int .i64,.int .i64,.int .i64,.int .i64,.int .i64,.int .i64,.int .i64,.int .i64,.int .i64,.int .i64,.int .i64,.view 19,.view 7,.view 10,.view 6,.view 7] false),(1,.box [.int .i64,.nils 3,.nils 3] false),(2,.box [.int .i64,.nils 3,.nils 3] false)],3,0⟩,⟨[(1000800,.junk),(1,.int .i64),(3,.ref 0 0 0),(6,.ref 1 0 0),(7,.ref 2 0 0),(15,.view 7),(16,.int .i64),(17,.int .i64)],[(0,.box [.view 2,.view 3,.view 4,.int .i64,.int .i64,.int .i64,.int .i64,.int .i64,.int .i64,.int .i64,.int .i64,.int .i64,.int .i64,.int .i64,.int .i64,.int .i64,.int .i64,.view 19,.view 7,.view 10,.view 6,.view 7] false),(1,.box [.int .i64,.nils 3,.nils 3] false),(2,.box [.int .i64,.own 3 0,.nils 3] false),(3,.arr 3 false)],4,0⟩]
def qOx (x0:Int) (x1:List AV) (x2 x3:Int) (x4 x5 x6:List AV) (x7 x8:Int) (x9 x10:Int) (x11 x12:Int) (x13 x14:Int) (x15 x16:Int) (x17 x18:Int) (x19 x20:Int) (x21 x22:List AV) (x23 x24 x25:List AV) (x26 x27:Int):X × St:=(.exit 0,
 ⟨[(6,.ref 0 0 0),(7,.ref 1 0 0)],[(0,.box [.int .i64 x26,.nils ⟨3,.nil⟩,.nils ⟨3,.nil⟩] false),
 (1,.box [.int .i64 x27,.nils ⟨3,.nil⟩,.nils ⟨3,.nil⟩] false)],2,0⟩)
def qOy (x0:Int) (x1:List AV) (x2 x3:Int) (x4 x5 x6:List AV) (x7 x8:Int) (x9 x10:Int) (x11 x12:Int) (x13 x14:Int) (x15 x16:Int) (x17 x18:Int) (x19 x20:Int) (x21 x22:List AV) (x23 x24 x25:List AV) (x26 x27:Int) (x28:List AV):X × St:=(.exit 0,
 ⟨[(6,.ref 0 0 0),(7,.ref 1 0 0)],[(0,.box [.int .i64 x26,.nils ⟨3,.nil⟩,.nils ⟨3,.nil⟩] false),
 (1,.box [.int .i64 x27,.own 2 0 none,.nils ⟨3,.nil⟩] false),(2,.arr 3 x28 false)],3,0⟩)
def q1f:List (qdx -> X × St):=[fun w=>(k28 qOx) ((sl w)),fun w=>(k29 qOy) ((sr w))]
def qLl (x0:Int) (x1:List AV) (x2 x3:Int) (x4 x5 x6:List AV) (x7 x8:Int) (x9 x10:Int) (x11 x12:Int) (x13 x14:Int) (x15 x16:Int) (x17 x18:Int) (x19 x20:Int) (x21 x22:List AV) (x23 x24 x25:List AV) (x26 x27:Int):DT (Rd qdx):=
 .br (decide (x3 < x2))
 (.br (qaw [.int .i64,.int .i64,.int .i64,.int .i64,.str,.str,.str] x1 x3)
 (.bi (qoC x4 x5 x6 x7 x8 x9 x10 x11 x12 x13 x14 x15 x16 x17 x18 x19 x20 x21 x22 x23 x24 x25 (intOf (cellAt x1 x3 0)) x0) (fun y0=>
 .br (!y0)
 (.at (.next ((.inl (x0,x1,x2,IntKind.i64.wrap (x3 + 1),x4,x5,x6,x7,x8,x9,x10,x11,x12,x13,x14,x15,x16,x17,x18,x19,x20,x21,x22,x23,x24,x25,x26,x27)))))
 (.bi (qoA x4 x5 x6 x7 x8 x9 x10 x11 x12 x13 x14 x15 x16 x17 x18 x19 x20 x21 x22 x23 x24 x25 (intOf (cellAt x1 x3 0)) x0) (fun y1=>
 .br (y1.2 != 0)
 (.at (.next ((.inr (x0,x1,x2,IntKind.i64.wrap (x3 + 1),x4,x5,x6,x7,x8,x9,x10,x11,x12,x13,x14,x15,x16,x17,x18,x19,x20,x21,x22,x23,x24,x25,x26,x27,[AV.agg [.int .i64 (intOf (cellAt x1 x3 0)),.int .i64 (if 0 > 0 then 0 else 0),.int .i64 0]])))))
 (.at (.next ((.inr (x0,x1,x2,IntKind.i64.wrap (x3 + 1),x4,x5,x6,x7,x8,x9,x10,x11,x12,x13,x14,x15,x16,x17,x18,x19,x20,x21,x22,x23,x24,x25,x26,x27,[AV.agg [.int .i64 (intOf (cellAt x1 x3 0)),.int .i64 (if y1.1 > 0 then y1.1 else 0),.int .i64 0]]))))))
 (.no)))
 (.no))
 (.no))
 (.at (.done 0))
def qLm (x0:Int) (x1:List AV) (x2 x3:Int) (x4 x5 x6:List AV) (x7 x8:Int) (x9 x10:Int) (x11 x12:Int) (x13 x14:Int) (x15 x16:Int) (x17 x18:Int) (x19 x20:Int) (x21 x22:List AV) (x23 x24 x25:List AV) (x26 x27:Int) (x28:List AV):DT (Rd qdx):=
 .br (decide (x3 < x2))
 (.br (qaw [.int .i64,.int .i64,.int .i64,.int .i64,.str,.str,.str] x1 x3)
 (.bi (qoC x4 x5 x6 x7 x8 x9 x10 x11 x12 x13 x14 x15 x16 x17 x18 x19 x20 x21 x22 x23 x24 x25 (intOf (cellAt x1 x3 0)) x0) (fun y0=>
 .br (!y0)
 (.at (.next ((.inr (x0,x1,x2,IntKind.i64.wrap (x3 + 1),x4,x5,x6,x7,x8,x9,x10,x11,x12,x13,x14,x15,x16,x17,x18,x19,x20,x21,x22,x23,x24,x25,x26,x27,x28)))))
 (.bi (qoA x4 x5 x6 x7 x8 x9 x10 x11 x12 x13 x14 x15 x16 x17 x18 x19 x20 x21 x22 x23 x24 x25 (intOf (cellAt x1 x3 0)) x0) (fun y1=>
 .br (y1.2 != 0)
 (.br (room (x28.length + 1) 24)
 (.at (.next ((.inr (x0,x1,x2,IntKind.i64.wrap (x3 + 1),x4,x5,x6,x7,x8,x9,x10,x11,x12,x13,x14,x15,x16,x17,x18,x19,x20,x21,x22,x23,x24,x25,x26,x27,x28 ++ [AV.agg [.int .i64 (intOf (cellAt x1 x3 0)),.int .i64 (if 0 > 0 then 0 else 0),.int .i64 0]])))))
 (.no))
 (.br (room (x28.length + 1) 24)
 (.at (.next ((.inr (x0,x1,x2,IntKind.i64.wrap (x3 + 1),x4,x5,x6,x7,x8,x9,x10,x11,x12,x13,x14,x15,x16,x17,x18,x19,x20,x21,x22,x23,x24,x25,x26,x27,x28 ++ [AV.agg [.int .i64 (intOf (cellAt x1 x3 0)),.int .i64 (if y1.1 > 0 then y1.1 else 0),.int .i64 0]])))))
 (.no)))
 (.no)))
 (.no))
 (.no))
 (.at (.done 1))
def qnD:qdx -> DT (Rd qdx):=(Sum.elim (fun v=>qLl v.1 v.2.1 v.2.2.1 v.2.2.2.1 v.2.2.2.2.1 v.2.2.2.2.2.1 v.2.2.2.2.2.2.1 v.2.2.2.2.2.2.2.1 v.2.2.2.2.2.2.2.2.1 v.2.2.2.2.2.2.2.2.2.1 v.2.2.2.2.2.2.2.2.2.2.1 v.2.2.2.2.2.2.2.2.2.2.2.1 v.2.2.2.2.2.2.2.2.2.2.2.2.1 v.2.2.2.2.2.2.2.2.2.2.2.2.2.1 v.2.2.2.2.2.2.2.2.2.2.2.2.2.2.1 v.2.2.2.2.2.2.2.2.2.2.2.2.2.2.2.1 v.2.2.2.2.2.2.2.2.2.2.2.2.2.2.2.2.1 v.2.2.2.2.2.2.2.2.2.2.2.2.2.2.2.2.2.1 v.2.2.2.2.2.2.2.2.2.2.2.2.2.2.2.2.2.2.1 v.2.2.2.2.2.2.2.2.2.2.2.2.2.2.2.2.2.2.2.1 v.2.2.2.2.2.2.2.2.2.2.2.2.2.2.2.2.2.2.2.2.1 v.2.2.2.2.2.2.2.2.2.2.2.2.2.2.2.2.2.2.2.2.2.1 v.2.2.2.2.2.2.2.2.2.2.2.2.2.2.2.2.2.2.2.2.2.2.1 v.2.2.2.2.2.2.2.2.2.2.2.2.2.2.2.2.2.2.2.2.2.2.2.1 v.2.2.2.2.2.2.2.2.2.2.2.2.2.2.2.2.2.2.2.2.2.2.2.2.1 v.2.2.2.2.2.2.2.2.2.2.2.2.2.2.2.2.2.2.2.2.2.2.2.2.2.1 v.2.2.2.2.2.2.2.2.2.2.2.2.2.2.2.2.2.2.2.2.2.2.2.2.2.2.1 v.2.2.2.2.2.2.2.2.2.2.2.2.2.2.2.2.2.2.2.2.2.2.2.2.2.2.2) (fun v=>qLm v.1 v.2.1 v.2.2.1 v.2.2.2.1 v.2.2.2.2.1 v.2.2.2.2.2.1 v.2.2.2.2.2.2.1 v.2.2.2.2.2.2.2.1 v.2.2.2.2.2.2.2.2.1 v.2.2.2.2.2.2.2.2.2.1 v.2.2.2.2.2.2.2.2.2.2.1 v.2.2.2.2.2.2.2.2.2.2.2.1 v.2.2.2.2.2.2.2.2.2.2.2.2.1 v.2.2.2.2.2.2.2.2.2.2.2.2.2.1 v.2.2.2.2.2.2.2.2.2.2.2.2.2.2.1 v.2.2.2.2.2.2.2.2.2.2.2.2.2.2.2.1 v.2.2.2.2.2.2.2.2.2.2.2.2.2.2.2.2.1 v.2.2.2.2.2.2.2.2.2.2.2.2.2.2.2.2.2.1 v.2.2.2.2.2.2.2.2.2.2.2.2.2.2.2.2.2.2.1 v.2.2.2.2.2.2.2.2.2.2.2.2.2.2.2.2.2.2.2.1 v.2.2.2.2.2.2.2.2.2.2.2.2.2.2.2.2.2.2.2.2.1 v.2.2.2.2.2.2.2.2.2.2.2.2.2.2.2.2.2.2.2.2.2.1 v.2.2.2.2.2.2.2.2.2.2.2.2.2.2.2.2.2.2.2.2.2.2.1 v.2.2.2.2.2.2.2.2.2.2.2.2.2.2.2.2.2.2.2.2.2.2.2.1 v.2.2.2.2.2.2.2.2.2.2.2.2.2.2.2.2.2.2.2.2.2.2.2.2.1 v.2.2.2.2.2.2.2.2.2.2.2.2.2.2.2.2.2.2.2.2.2.2.2.2.2.1 v.2.2.2.2.2.2.2.2.2.2.2.2.2.2.2.2.2.2.2.2.2.2.2.2.2.2.1 v.2.2.2.2.2.2.2.2.2.2.2.2.2.2.2.2.2.2.2.2.2.2.2.2.2.2.2.1 v.2.2.2.2.2.2.2.2.2.2.2.2.2.2.2.2.2.2.2.2.2.2.2.2.2.2.2.2))
def qyZ (v:qdx):Option (Nat × qdx):=qaC (qah (fun v=>(qnD v).ev) v)
theorem qta (v):qyZ v = qah (fun v=>(qnD v).ev) v:=qaa _
def qG3:qbi:=LE (τ:=qdx) (hD qFR) (qyZ) q1f
theorem q0a:Go.Eng.Told IP (qab F8 0).1 (qab F8 0).2 (qG3):=qaj (inferInstance:Inhabited qdx) (hs:=qFR) (st:=qnD) (L:=[]) qEA (qae (l:=[]) (by kernel_rfl) trivial) (qta) (fun v=>match v with | (.inl v)=>by kernel_rfl | (.inr v)=>by kernel_rfl) (fun v=>match v with | (.inl v)=>by kernel_rfl | (.inr v)=>by kernel_rfl)
abbrev qQL:Type:=Int × List AV × List AV
def qSx:PArgs:=⟨[.agg [.view 2,.view 3,.view 4,.int .i64,.int .i64,.int .i64,.int .i64,.int .i64,.int .i64,.int .i64,.int .i64,.int .i64,.int .i64,.int .i64,.int .i64,.int .i64,.int .i64,.view 19,.view 7,.view 10,.view 6,.view 7],.int .i64,.int .i64],[]⟩
def qS1:List PRes:=[⟨false,.agg [.int .i64,.view 3,.view 3],[]⟩]
def qrR (x0 x1 x2:List AV) (x3 x4:Int) (x5 x6:Int) (x7 x8:Int) (x9 x10:Int) (x11 x12:Int) (x13 x14:Int) (x15 x16:Int) (x17 x18:List AV) (x19 x20 x21:List AV) (x22 x23:Int):DT qQL:=
 .bi (pj 0 (qyZ (Sum.inl (x22,x18,(x18.length:Int),0,x0,x1,x2,x3,x4,x5,x6,x7,x8,x9,x10,x11,x12,x13,x14,x15,x16,x17,x18,x19,x20,x21,0,x23)))) (fun y0=>
 .at (((sl y0).2.2.2.2.2.2.2.2.2.2.2.2.2.2.2.2.2.2.2.2.2.2.2.2.2.2.2,[],[])))
 (.bi (pj 1 (qyZ (Sum.inl (x22,x18,(x18.length:Int),0,x0,x1,x2,x3,x4,x5,x6,x7,x8,x9,x10,x11,x12,x13,x14,x15,x16,x17,x18,x19,x20,x21,0,x23)))) (fun y0=>
 .at (((sr y0).2.2.2.2.2.2.2.2.2.2.2.2.2.2.2.2.2.2.2.2.2.2.2.2.2.2.2.1,(sr y0).2.2.2.2.2.2.2.2.2.2.2.2.2.2.2.2.2.2.2.2.2.2.2.2.2.2.2.2,[])))
 (.no))
def qoE (x0 x1 x2:List AV) (x3 x4:Int) (x5 x6:Int) (x7 x8:Int) (x9 x10:Int) (x11 x12:Int) (x13 x14:Int) (x15 x16:Int) (x17 x18:List AV) (x19 x20 x21:List AV) (x22 x23:Int):Option qQL:=qaC (qrR x0 x1 x2 x3 x4 x5 x6 x7 x8 x9 x10 x11 x12 x13 x14 x15 x16 x17 x18 x19 x20 x21 x22 x23).ev
theorem qFr (x0 x1 x2 x3 x4 x5 x6 x7 x8 x9 x10 x11 x12 x13 x14 x15 x16 x17 x18 x19 x20 x21 x22 x23):qoE x0 x1 x2 x3 x4 x5 x6 x7 x8 x9 x10 x11 x12 x13 x14 x15 x16 x17 x18 x19 x20 x21 x22 x23 = (qrR x0 x1 x2 x3 x4 x5 x6 x7 x8 x9 x10 x11 x12 x13 x14 x15 x16 x17 x18 x19 x20 x21 x22 x23).ev:=qaa _
theorem qYe:FH IP 8 qSx qS1 (k24 qoE):=qam (F:=F8) (L:=[(1000800,qG3)]) (t:=(k24 qrR)) qEA (qae (l:=[qab F8 0]) (by kernel_rfl) ⟨qal (by kernel_rfl) q0a,trivial⟩) (by kernel_rfl) (fun v=>by kernel_rfl) (fun _=>qaa _)
def T91:Tab:=(8,FE qSx qS1 (k24 qoE)) :: T90
theorem qRH:qau IP T91:=⟨qay qYe,qEA⟩
abbrev qDr:Type:=Int × Int
def qJg:PArgs:=⟨[.agg [.view 2,.view 3,.view 4,.int .i64,.int .i64,.int .i64,.int .i64,.int .i64,.int .i64,.int .i64,.int .i64,.int .i64,.int .i64,.int .i64,.int .i64,.int .i64,.int .i64,.view 19,.view 7,.view 10,.view 6,.view 7],.int .i64,.int .i64],[]⟩
def qKA:List PRes:=[⟨false,.tup [.int .i64,.int .i64],[]⟩]
def qkI (x0 x1 x2:List AV) (x3 x4:Int) (x5 x6:Int) (x7 x8:Int) (x9 x10:Int) (x11 x12:Int) (x13 x14:Int) (x15 x16:Int) (x17 x18:List AV) (x19 x20 x21:List AV) (x22 x23:Int):DT qDr:=
 .bi (qhg x0 x1 x2 x3 x4 x5 x6 x7 x8 x9 x10 x11 x12 x13 x14 x15 x16 x17 x18 x19 x20 x21 x22) (fun y0=>
 .bi (qoI x0 x1 x2 x3 x4 x5 x6 x7 x8 x9 x10 x11 x12 x13 x14 x15 x16 x17 x18 x19 x20 x21 x22 x23) (fun y1=>
 .bi (br (!y0.2.2.2.2.2.2.2) (some true) (some !y1.2.2.2.2.2.2.2.2.2.2.2.2.2.2.2.2.2.2.2)) (fun y2=>
 .br (y2) (.at ((0,11))) (.at ((IntKind.i64.wrap (0 - IntKind.i64.wrap (y1.2.2.2.2.2.1 + y0.2.2.2.1)),0))))
 (.no))
 (.no))
 (.no)
def ql3 (x0 x1 x2:List AV) (x3 x4:Int) (x5 x6:Int) (x7 x8:Int) (x9 x10:Int) (x11 x12:Int) (x13 x14:Int) (x15 x16:Int) (x17 x18:List AV) (x19 x20 x21:List AV) (x22 x23:Int):Option qDr:=qaC (qkI x0 x1 x2 x3 x4 x5 x6 x7 x8 x9 x10 x11 x12 x13 x14 x15 x16 x17 x18 x19 x20 x21 x22 x23).ev
theorem qA7 (x0 x1 x2 x3 x4 x5 x6 x7 x8 x9 x10 x11 x12 x13 x14 x15 x16 x17 x18 x19 x20 x21 x22 x23):ql3 x0 x1 x2 x3 x4 x5 x6 x7 x8 x9 x10 x11 x12 x13 x14 x15 x16 x17 x18 x19 x20 x21 x22 x23 = (qkI x0 x1 x2 x3 x4 x5 x6 x7 x8 x9 x10 x11 x12 x13 x14 x15 x16 x17 x18 x19 x20 x21 x22 x23).ev:=qaa _
theorem qUi:FH IP 73 qJg qKA (k24 ql3):=fh F73 (k24 qkI) qRH
def T92:Tab:=(73,FE qJg qKA (k24 ql3)) :: T91
theorem qEB:qau IP T92:=⟨qay qUi,qRH⟩
abbrev qe8:Type:=Int × Int × Int × Int × Int × Int × Int × Int × Int × List UInt8 × List UInt8 × List AV × Int
def qGA:List PSt:=[⟨[(1009900,.junk),(1,.int .i64),(2,.ref 0 0 0),(5,.int .i64),(6,.int .i64)],[(0,.box [.int .i64,.int .i64,.int .i64,.int .i64,.int .i64,.int .i64,.str,.str,.view 3,.int .u64] false)],1,0⟩]
def qP2 (x0 x1:Int) (x2 x3:Int) (x4 x5:Int) (x6 x7 x8:Int) (x9 x10:List UInt8) (x11:List AV) (x12:Int):X × St:=(.exit 0,⟨[(5,.int .i64 x1)],[],0,0⟩)
def q1Y:List (qe8 -> X × St):=[(k13 qP2)]
def qLz (x0 x1:Int) (x2 x3:Int) (x4 x5:Int) (x6 x7 x8:Int) (x9 x10:List UInt8) (x11:List AV) (x12:Int):DT (Rd qe8):=
 .br (decide (x2 < (x11.length:Int)))
 (.br (qaw [.int .i64,.int .i64,.str] x11 x2)
 (.br (intOf (cellAt x11 x2 0) == x0)
 (.br (qaw [.int .i64,.int .i64,.str] x11 x2)
 (.at (.next ((x0,IntKind.i64.wrap (x1 - intOf (cellAt x11 x2 1)),IntKind.i64.wrap (x2 + 1),x3,x4,x5,x6,x7,x8,x9,x10,x11,x12))))
 (.no))
 (.at (.next ((x0,x1,IntKind.i64.wrap (x2 + 1),x3,x4,x5,x6,x7,x8,x9,x10,x11,x12)))))
 (.no))
 (.at (.done 0))
def qrn:qe8 -> DT (Rd qe8):=(fun v=>qLz v.1 v.2.1 v.2.2.1 v.2.2.2.1 v.2.2.2.2.1 v.2.2.2.2.2.1 v.2.2.2.2.2.2.1 v.2.2.2.2.2.2.2.1 v.2.2.2.2.2.2.2.2.1 v.2.2.2.2.2.2.2.2.2.1 v.2.2.2.2.2.2.2.2.2.2.1 v.2.2.2.2.2.2.2.2.2.2.2.1 v.2.2.2.2.2.2.2.2.2.2.2.2)
def qGV (v:qe8):Option (Nat × qe8):=qaC (qah (fun v=>(qrn v).ev) v)
theorem qub (v):qGV v = qah (fun v=>(qrn v).ev) v:=qaa _
def qHM:qbi:=LE (τ:=qe8) (hD qGA) (qGV) q1Y
theorem q0T:Go.Eng.Told IP (qab F99 0).1 (qab F99 0).2 (qHM):=lp (inferInstance:Inhabited qe8) (hs:=qGA) qrn qEB qub
abbrev qDj:Type:=Int
def qI8:PArgs:=⟨[.agg [.int .i64,.int .i64,.int .i64,.int .i64,.int .i64,.int .i64,.str,.str,.view 3,.int .u64],.int .i64],[]⟩
def qKs:List PRes:=[⟨false,.int .i64,[]⟩]
def qkA (x0 x1:Int) (x2 x3:Int) (x4 x5:Int) (x6 x7:List UInt8) (x8:List AV) (x9 x10:Int):DT qDj:=
 .bi (pj 0 (qGV (x10,0,0,x0,x1,x2,x3,x4,x5,x6,x7,x8,x9))) (fun y0=>
 .at (y0.2.1))
 (.no)
def ql0 (x0 x1:Int) (x2 x3:Int) (x4 x5:Int) (x6 x7:List UInt8) (x8:List AV) (x9 x10:Int):Option qDj:=qaC (qkA x0 x1 x2 x3 x4 x5 x6 x7 x8 x9 x10).ev
theorem qAZ (x0 x1 x2 x3 x4 x5 x6 x7 x8 x9 x10):ql0 x0 x1 x2 x3 x4 x5 x6 x7 x8 x9 x10 = (qkA x0 x1 x2 x3 x4 x5 x6 x7 x8 x9 x10).ev:=qaa _
theorem qUa:FH IP 99 qI8 qKs (k11 ql0):=qam (F:=F99) (L:=[(1009900,qHM)]) (t:=(k11 qkA)) qEB (qae (l:=[qab F99 0]) (by kernel_rfl) ⟨qal (by kernel_rfl) q0T,trivial⟩) (by kernel_rfl) (fun v=>by kernel_rfl) (fun _=>qaa _)
def T93:Tab:=(99,FE qI8 qKs (k11 ql0)) :: T92
theorem qEC:qau IP T93:=⟨qay qUa,qEB⟩
abbrev qdq:Type:=List AV × Int × Int × Int
def qyR:List PSt:=[⟨[(1007400,.junk),(0,.view 10),(1,.int .i64),(5,.int .i64),(6,.int .i64)],[],0,0⟩]
def qMM (x0:List AV) (x1 x2 x3:Int):X × St:=(.exit 0,⟨[(5,.int .i64 x2)],[],0,0⟩)
def qWG:List (qdq -> X × St):=[(k4 qMM)]
def qCw (x0:List AV) (x1 x2 x3:Int):DT (Rd qdq):=
 .br (decide (x3 < (x0.length:Int)))
 (.br (qaw [.int .i64,.int .i64,.int .i64,.int .i64,.int .i64,.int .i64,.str,.str,.slice 3,.int .u64] x0 x3)
 (.bi (ql0 (intOf (cellAt x0 x3 0)) (intOf (cellAt x0 x3 1)) (intOf (cellAt x0 x3 2)) (intOf (cellAt x0 x3 3)) (intOf (cellAt x0 x3 4)) (intOf (cellAt x0 x3 5))
 (strOf (cellAt x0 x3 6)) (strOf (cellAt x0 x3 7)) (qat (cellAt x0 x3 8)) (intOf (cellAt x0 x3 9)) x1) (fun y0=>
 .at (.next ((x0,x1,IntKind.i64.wrap (x2 + y0),IntKind.i64.wrap (x3 + 1)))))
 (.no))
 (.no))
 (.at (.done 0))
def qj7:qdq -> DT (Rd qdq):=(fun v=>qCw v.1 v.2.1 v.2.2.1 v.2.2.2)
def qxc (v:qdq):Option (Nat × qdq):=qaC (qah (fun v=>(qj7 v).ev) v)
theorem qpb (v):qxc v = qah (fun v=>(qj7 v).ev) v:=qaa _
def qzy:qbi:=LE (τ:=qdq) (hD qyR) (qxc) qWG
theorem qWb:Go.Eng.Told IP (qab F74 0).1 (qab F74 0).2 (qzy):=lp (inferInstance:Inhabited qdq) (hs:=qyR) qj7 qEC qpb
abbrev qDX:Type:=Int
def qJO:PArgs:=⟨[.view 10,.int .i64],[]⟩
def qK8:List PRes:=[⟨false,.int .i64,[]⟩]
def qli (x0:List AV) (x1:Int):DT qDX:=
 .bi (pj 0 (qxc (x0,x1,0,0))) (fun y0=>
 .at (y0.2.2.1))
 (.no)
def qmo (x0:List AV) (x1:Int):Option qDX:=qaC (qli x0 x1).ev
theorem qBG (x0 x1):qmo x0 x1 = (qli x0 x1).ev:=qaa _
theorem qUR:FH IP 74 qJO qK8 (k2 qmo):=qam (F:=F74) (L:=[(1007400,qzy)]) (t:=(k2 qli)) qEC (qae (l:=[qab F74 0]) (by kernel_rfl) ⟨qal (by kernel_rfl) qWb,trivial⟩) (by kernel_rfl) (fun v=>by kernel_rfl) (fun _=>qaa _)
def T94:Tab:=(74,FE qJO qK8 (k2 qmo)) :: T93
theorem qED:qau IP T94:=⟨qay qUR,qEC⟩
abbrev qfb:Type:=List AV × Int × Int × Int × Int
def qGD:List PSt:=[⟨[(1007500,.junk),(0,.view 6),(1,.int .i64),(2,.int .i64),(7,.int .i64),(8,.int .i64)],[],0,0⟩]
def qP9 (x0:List AV) (x1 x2:Int) (x3 x4:Int):X × St:=(.exit 0,⟨[(7,.int .i64 x3)],[],0,0⟩)
def q11:List (qfb -> X × St):=[(k5 qP9)]
def qLA (x0:List AV) (x1 x2:Int) (x3 x4:Int):DT (Rd qfb):=
 .br (decide (x4 < (x0.length:Int)))
 (.br (qaw [.int .i64,.int .i64,.int .i64,.int .i64,.int .i64,.str] x0 x4)
 (.bi (br (intOf (cellAt x0 x4 1) == x1)
 (br (qaw [.int .i64,.int .i64,.int .i64,.int .i64,.int .i64,.str] x0 x4) (some (decide (x2 >= intOf (cellAt x0 x4 3)))) none)
 (some false)) (fun y0=>
 .bi (br y0
 (br (qaw [.int .i64,.int .i64,.int .i64,.int .i64,.int .i64,.str] x0 x4) (some (decide (x2 <= intOf (cellAt x0 x4 4)))) none)
 (some false)) (fun y1=>
 .br (y1)
 (.br (qaw [.int .i64,.int .i64,.int .i64,.int .i64,.int .i64,.str] x0 x4)
 (.at (.next ((x0,x1,x2,IntKind.i64.wrap (x3 + intOf (cellAt x0 x4 2)),IntKind.i64.wrap (x4 + 1)))))
 (.no))
 (.at (.next ((x0,x1,x2,x3,IntKind.i64.wrap (x4 + 1))))))
 (.no))
 (.no))
 (.no))
 (.at (.done 0))
def qrq:qfb -> DT (Rd qfb):=(fun v=>qLA v.1 v.2.1 v.2.2.1 v.2.2.2.1 v.2.2.2.2)
def qGW (v:qfb):Option (Nat × qfb):=qaC (qah (fun v=>(qrq v).ev) v)
theorem quf (v):qGW v = qah (fun v=>(qrq v).ev) v:=qaa _
def qHP:qbi:=LE (τ:=qfb) (hD qGD) (qGW) q11
theorem q0W:Go.Eng.Told IP (qab F75 0).1 (qab F75 0).2 (qHP):=lp (inferInstance:Inhabited qfb) (hs:=qGD) qrq qED quf
abbrev qDm:Type:=Int
def qJb:PArgs:=⟨[.view 6,.int .i64,.int .i64],[]⟩
def qKv:List PRes:=[⟨false,.int .i64,[]⟩]
def qkD (x0:List AV) (x1 x2:Int):DT qDm:=
 .bi (pj 0 (qGW (x0,x1,x2,0,0))) (fun y0=>
 .at (y0.2.2.2.1))
 (.no)
def ql1 (x0:List AV) (x1 x2:Int):Option qDm:=qaC (qkD x0 x1 x2).ev
theorem qA2 (x0 x1 x2):ql1 x0 x1 x2 = (qkD x0 x1 x2).ev:=qaa _
theorem qUd:FH IP 75 qJb qKv (k3 ql1):=qam (F:=F75) (L:=[(1007500,qHP)]) (t:=(k3 qkD)) qED (qae (l:=[qab F75 0]) (by kernel_rfl) ⟨qal (by kernel_rfl) q0W,trivial⟩) (by kernel_rfl) (fun v=>by kernel_rfl) (fun _=>qaa _)
def T95:Tab:=(75,FE qJb qKv (k3 ql1)) :: T94
theorem qEE:qau IP T95:=⟨qay qUd,qED⟩
abbrev qdz:Type:=(List AV × Int × Int × Int) ⊕ (List AV × Int × Int × Int × List AV)
def qF7:List PSt:=[⟨[(1010000,.junk),(0,.view 7),(1,.int .i64),(2,.int .i64),(7,.nils ⟨7,.any⟩),(8,.int .i64)],[],0,0⟩,⟨[(1010000,.junk),(0,.view 7),(1,.int .i64),(2,.int .i64),(7,.own 0 0),(8,.int .i64)],[(0,.arr 7 false)],1,0⟩]
def qO3 (x0:List AV) (x1 x2 x3:Int):X × St:=(.exit 0,⟨[(7,.nils ⟨7,.any⟩)],[],0,0⟩)
def qO4 (x0:List AV) (x1 x2 x3:Int) (x4:List AV):X × St:=(.exit 0,⟨[(7,.own 0 0 none)],[(0,.arr 7 x4 false)],1,0⟩)
def q1v:List (qdz -> X × St):=[fun w=>(k4 qO3) ((sl w)),fun w=>(k5 qO4) ((sr w))]
def qLv (x0:List AV) (x1 x2 x3:Int):DT (Rd qdz):=
 .br (decide (x3 < (x0.length:Int)))
 (.br (qaw [.int .i64,.int .i64,.int .i64,.int .i64,.int .i64,.int .i64,.str] x0 x3)
 (.bi (br (intOf (cellAt x0 x3 1) == x1)
 (br (qaw [.int .i64,.int .i64,.int .i64,.int .i64,.int .i64,.int .i64,.str] x0 x3)
 (some (decide (intOf (cellAt x0 x3 4) <= x2))) none)
 (some false)) (fun y0=>
 .bi (br y0
 (br (qaw [.int .i64,.int .i64,.int .i64,.int .i64,.int .i64,.int .i64,.str] x0 x3)
 (some (decide (x2 <= intOf (cellAt x0 x3 5)))) none)
 (some false)) (fun y1=>
 .br (y1)
 (.br (qaw [.int .i64,.int .i64,.int .i64,.int .i64,.int .i64,.int .i64,.str] x0 x3)
 (.at (.next ((.inr (x0,x1,x2,IntKind.i64.wrap (x3 + 1),[AV.agg
 [.int .i64 (intOf (cellAt x0 x3 0)),.int .i64 (intOf (cellAt x0 x3 1)),.int .i64 (intOf (cellAt x0 x3 2)),
 .int .i64 (intOf (cellAt x0 x3 3)),.int .i64 (intOf (cellAt x0 x3 4)),.int .i64 (intOf (cellAt x0 x3 5)),AV.str (strOf (cellAt x0 x3 6))]])))))
 (.no))
 (.at (.next ((.inl (x0,x1,x2,IntKind.i64.wrap (x3 + 1)))))))
 (.no))
 (.no))
 (.no))
 (.at (.done 0))
def qLw (x0:List AV) (x1 x2 x3:Int) (x4:List AV):DT (Rd qdz):=
 .br (decide (x3 < (x0.length:Int)))
 (.br (qaw [.int .i64,.int .i64,.int .i64,.int .i64,.int .i64,.int .i64,.str] x0 x3)
 (.bi (br (intOf (cellAt x0 x3 1) == x1)
 (br (qaw [.int .i64,.int .i64,.int .i64,.int .i64,.int .i64,.int .i64,.str] x0 x3)
 (some (decide (intOf (cellAt x0 x3 4) <= x2))) none)
 (some false)) (fun y0=>
 .bi (br y0
 (br (qaw [.int .i64,.int .i64,.int .i64,.int .i64,.int .i64,.int .i64,.str] x0 x3)
 (some (decide (x2 <= intOf (cellAt x0 x3 5)))) none)
 (some false)) (fun y1=>
 .br (y1)
 (.br (qaw [.int .i64,.int .i64,.int .i64,.int .i64,.int .i64,.int .i64,.str] x0 x3)
 (.br (room (x4.length + 1) 64)
 (.at (.next ((.inr (x0,x1,x2,IntKind.i64.wrap (x3 + 1),x4 ++
 [AV.agg
 [.int .i64 (intOf (cellAt x0 x3 0)),.int .i64 (intOf (cellAt x0 x3 1)),.int .i64 (intOf (cellAt x0 x3 2)),
 .int .i64 (intOf (cellAt x0 x3 3)),.int .i64 (intOf (cellAt x0 x3 4)),.int .i64 (intOf (cellAt x0 x3 5)),AV.str (strOf (cellAt x0 x3 6))]])))))
 (.no))
 (.no))
 (.at (.next ((.inr (x0,x1,x2,IntKind.i64.wrap (x3 + 1),x4))))))
 (.no))
 (.no))
 (.no))
 (.at (.done 1))
def qnJ:qdz -> DT (Rd qdz):=(Sum.elim (fun v=>qLv v.1 v.2.1 v.2.2.1 v.2.2.2) (fun v=>qLw v.1 v.2.1 v.2.2.1 v.2.2.2.1 v.2.2.2.2))
def qy4 (v:qdz):Option (Nat × qdz):=qaC (qah (fun v=>(qnJ v).ev) v)
theorem qtv (v):qy4 v = qah (fun v=>(qnJ v).ev) v:=qaa _
def qHj:qbi:=LE (τ:=qdz) (hD qF7) (qy4) q1v
theorem q0q:Go.Eng.Told IP (qab qWO 0).1 (qab qWO 0).2 (qHj):=qaj (inferInstance:Inhabited qdz) (hs:=qF7) (st:=qnJ) (L:=[]) qEE (qae (l:=[]) (by kernel_rfl) trivial) (qtv) (fun v=>match v with | (.inl v)=>by kernel_rfl | (.inr v)=>by kernel_rfl) (fun v=>match v with | (.inl v)=>by kernel_rfl | (.inr v)=>by kernel_rfl)
end
end Go.Proofs.H53z
namespace Go.Proofs.H53z
open Go Go.Eng
set_option maxRecDepth 100000
noncomputable section
abbrev qCW:Type:=List AV
def qIK:PArgs:=⟨[.view 7,.int .i64,.int .i64],[]⟩
def qJ5:List PRes:=[⟨false,.view 7,[]⟩]
def qke (x0:List AV) (x1 x2:Int):DT qCW:=
 .bi (pj 0 (qy4 (Sum.inl (x0,x1,x2,0)))) (fun y0=>
 .at ([]))
 (.bi (pj 1 (qy4 (Sum.inl (x0,x1,x2,0)))) (fun y0=>
 .at ((sr y0).2.2.2.2))
 (.no))
def qlL (x0:List AV) (x1 x2:Int):Option qCW:=qaC (qke x0 x1 x2).ev
theorem qAA (x0 x1 x2):qlL x0 x1 x2 = (qke x0 x1 x2).ev:=qaa _
theorem qTJ:FH IP 100 qIK qJ5 (k3 qlL):=qam (F:=qWO) (L:=[(1010000,qHj)]) (t:=(k3 qke)) qEE (qae (l:=[qab qWO 0]) (by kernel_rfl) ⟨qal (by kernel_rfl) q0q,trivial⟩) (by kernel_rfl) (fun v=>by kernel_rfl) (fun _=>qaa _)
def T96:Tab:=(100,FE qIK qJ5 (k3 qlL)) :: T95
theorem qEF:qau IP T96:=⟨qay qTJ,qEE⟩
abbrev qeB:Type:=List AV × Int × Int
def qFX:List PSt:=[⟨[(1007600,.junk),(7,.view 7),(8,.int .i64),(9,.int .i64)],[],0,0⟩]
def qOL (x0:List AV) (x1 x2:Int):X × St:=(.exit 0,⟨[(8,.int .i64 x1)],[],0,0⟩)
def q1l:List (qeB -> X × St):=[(k3 qOL)]
def qLr (x0:List AV) (x1 x2:Int):DT (Rd qeB):=
 .br (decide (x2 < (x0.length:Int)))
 (.br (qaw [.int .i64,.int .i64,.int .i64,.int .i64,.int .i64,.int .i64,.str] x0 x2)
 (.br (intOf (cellAt x0 x2 2) == 4)
 (.br (qaw [.int .i64,.int .i64,.int .i64,.int .i64,.int .i64,.int .i64,.str] x0 x2)
 (.at (.next ((x0,IntKind.i64.wrap (x1 + intOf (cellAt x0 x2 3)),IntKind.i64.wrap (x2 + 1)))))
 (.no))
 (.at (.next ((x0,x1,IntKind.i64.wrap (x2 + 1))))))
 (.no))
 (.at (.done 0))
def qqZ:qeB -> DT (Rd qeB):=(fun v=>qLr v.1 v.2.1 v.2.2)
def qy1 (v:qeB):Option (Nat × qeB):=qaC (qah (fun v=>(qqZ v).ev) v)
theorem qti (v):qy1 v = qah (fun v=>(qqZ v).ev) v:=qaa _
def qG9:qbi:=LE (τ:=qeB) (hD qFX) (qy1) q1l
theorem q0g:Go.Eng.Told IP (qab F76 0).1 (qab F76 0).2 (qG9):=lp (inferInstance:Inhabited qeB) (hs:=qFX) qqZ qEF qti
abbrev qQU:Type:=Int
def qSG:PArgs:=⟨[.view 7,.int .i64,.int .i64],[]⟩
def qTa:List PRes:=[⟨false,.int .i64,[]⟩]
def qrZ (x0:List AV) (x1 x2:Int):DT qQU:=
 .bi (qlL x0 x1 x2) (fun y0=>
 .bi (pj 0 (qy1 (y0,0,0))) (fun y1=>
 .at (y1.2.1))
 (.no))
 (.no)
def qsY (x0:List AV) (x1 x2:Int):Option qQU:=qaC (qrZ x0 x1 x2).ev
theorem qFz (x0 x1 x2):qsY x0 x1 x2 = (qrZ x0 x1 x2).ev:=qaa _
theorem qYn:FH IP 76 qSG qTa (k3 qsY):=qam (F:=F76) (L:=[(1007600,qG9)]) (t:=(k3 qrZ)) qEF (qae (l:=[qab F76 0]) (by kernel_rfl) ⟨qal (by kernel_rfl) q0g,trivial⟩) (by kernel_rfl) (fun v=>by kernel_rfl) (fun _=>qaa _)
def T97:Tab:=(76,FE qSG qTa (k3 qsY)) :: T96
theorem qRI:qau IP T97:=⟨qay qYn,qEF⟩
abbrev qQJ:Type:=Int × Int
def qSv:PArgs:=⟨[.agg [.view 2,.view 3,.view 4,.int .i64,.int .i64,.int .i64,.int .i64,.int .i64,.int .i64,.int .i64,.int .i64,.int .i64,.int .i64,.int .i64,.int .i64,.int .i64,.int .i64,.view 19,.view 7,.view 10,.view 6,.view 7],.int .i64,.int .i64],[]⟩
def qSZ:List PRes:=[⟨false,.tup [.int .i64,.int .i64],[]⟩]
def qrP (x0 x1 x2:List AV) (x3 x4:Int) (x5 x6:Int) (x7 x8:Int) (x9 x10:Int) (x11 x12:Int) (x13 x14:Int) (x15 x16:Int) (x17 x18:List AV) (x19 x20 x21:List AV) (x22 x23:Int):DT qQJ:=
 .bi (ql3 x0 x1 x2 x3 x4 x5 x6 x7 x8 x9 x10 x11 x12 x13 x14 x15 x16 x17 x18 x19 x20 x21 x22 x23) (fun y0=>
 .br (y0.2 != 0)
 (.at ((0,y0.2)))
 (.bi (qmo x19 x22) (fun y1=>
 .bi (ql1 x20 x22 x23) (fun y2=>
 .bi (qsY x21 x22 x23) (fun y3=>
 .at ((IntKind.i64.wrap (IntKind.i64.wrap (IntKind.i64.wrap (y1 - y0.1) - y2) - y3),0)))
 (.no))
 (.no))
 (.no)))
 (.no)
def qoD (x0 x1 x2:List AV) (x3 x4:Int) (x5 x6:Int) (x7 x8:Int) (x9 x10:Int) (x11 x12:Int) (x13 x14:Int) (x15 x16:Int) (x17 x18:List AV) (x19 x20 x21:List AV) (x22 x23:Int):Option qQJ:=qaC (qrP x0 x1 x2 x3 x4 x5 x6 x7 x8 x9 x10 x11 x12 x13 x14 x15 x16 x17 x18 x19 x20 x21 x22 x23).ev
theorem qFp (x0 x1 x2 x3 x4 x5 x6 x7 x8 x9 x10 x11 x12 x13 x14 x15 x16 x17 x18 x19 x20 x21 x22 x23):qoD x0 x1 x2 x3 x4 x5 x6 x7 x8 x9 x10 x11 x12 x13 x14 x15 x16 x17 x18 x19 x20 x21 x22 x23 = (qrP x0 x1 x2 x3 x4 x5 x6 x7 x8 x9 x10 x11 x12 x13 x14 x15 x16 x17 x18 x19 x20 x21 x22 x23).ev:=qaa _
theorem qYc:FH IP 30 qSv qSZ (k24 qoD):=fh F30 (k24 qrP) qRI
def T98:Tab:=(30,FE qSv qSZ (k24 qoD)) :: T97
theorem qEG:qau IP T98:=⟨qay qYc,qRI⟩
abbrev qdA:Type:=(Int × Int × List AV × List AV × List AV × Int × Int × Int × Int × Int × Int × Int × Int × Int × Int × Int × Int × Int × Int × List AV × List AV × List AV × List AV × List AV × Int × Int) ⊕ (Int × Int × List AV × List AV × List AV × Int × Int × Int × Int × Int × Int × Int × Int × Int × Int × Int × Int × Int × Int × List AV × List AV × List AV × List AV × List AV × Int × Int × List AV)
def qGM:List PSt:=[⟨[(1001000,.junk),(1,.int .i64),(3,.ref 0 0 0),(6,.ref 1 0 0),(7,.ref 2 0 0),(8,.int .i64)],[(0,.box [.view 2,.view 3,.view 4,.int .i64,.int .i64,.int .i64,.int .i64,.int .i64,.int .i64,.int .i64,.int .i64,.int .i64,.int .i64,.int .i64,.int .i64,.int .i64,.int .i64,.view 19,.view 7,.view 10,.view 6,.view 7] false),(1,.box [.int .i64,.nils 3,.nils 3] false),(2,.box [.int .i64,.nils 3,.nils 3] false)],3,0⟩,⟨[(1001000,.junk),(1,.int .i64),(3,.ref 0 0 0),(6,.ref 1 0 0),(7,.ref 2 0 0),(8,.int .i64)],[(0,.box [.view 2,.view 3,.view 4,.int .i64,.int .i64,.int .i64,.int .i64,.int .i64,.int .i64,.int .i64,.int .i64,.int .i64,.int .i64,.int .i64,.int .i64,.int .i64,.int .i64,.view 19,.view 7,.view 10,.view 6,.view 7] false),(1,.box [.int .i64,.nils 3,.nils 3] false),(2,.box [.int .i64,.own 3 0,.nils 3] false),(3,.arr 3 false)],4,0⟩]
def qQu (x0 x1:Int) (x2 x3 x4:List AV) (x5 x6:Int) (x7 x8:Int) (x9 x10:Int) (x11 x12:Int) (x13 x14:Int) (x15 x16:Int) (x17 x18:Int) (x19 x20:List AV) (x21 x22 x23:List AV) (x24 x25:Int):X × St:=(.exit 0,
 ⟨[(6,.ref 0 0 0),(7,.ref 1 0 0)],[(0,.box [.int .i64 x24,.nils ⟨3,.nil⟩,.nils ⟨3,.nil⟩] false),
 (1,.box [.int .i64 x25,.nils ⟨3,.nil⟩,.nils ⟨3,.nil⟩] false)],2,0⟩)
def qQv (x0 x1:Int) (x2 x3 x4:List AV) (x5 x6:Int) (x7 x8:Int) (x9 x10:Int) (x11 x12:Int) (x13 x14:Int) (x15 x16:Int) (x17 x18:Int) (x19 x20:List AV) (x21 x22 x23:List AV) (x24 x25:Int) (x26:List AV):X × St:=(.exit 0,
 ⟨[(6,.ref 0 0 0),(7,.ref 1 0 0)],[(0,.box [.int .i64 x24,.nils ⟨3,.nil⟩,.nils ⟨3,.nil⟩] false),
 (1,.box [.int .i64 x25,.own 2 0 none,.nils ⟨3,.nil⟩] false),(2,.arr 3 x26 false)],3,0⟩)
def q2c:List (qdA -> X × St):=[fun w=>(k26 qQu) ((sl w)),fun w=>(k27 qQv) ((sr w))]
def qLB (x0 x1:Int) (x2 x3 x4:List AV) (x5 x6:Int) (x7 x8:Int) (x9 x10:Int) (x11 x12:Int) (x13 x14:Int) (x15 x16:Int) (x17 x18:Int) (x19 x20:List AV) (x21 x22 x23:List AV) (x24 x25:Int):DT (Rd qdA):=
 .br (decide (x1 < (x20.length:Int)))
 (.br (qaw [.int .i64,.int .i64,.int .i64,.int .i64,.str,.str,.str] x20 x1)
 (.bi (qd8 x2 x3 x4 x5 x6 x7 x8 x9 x10 x11 x12 x13 x14 x15 x16 x17 x18 x19 x20 x21 x22 x23 (intOf (cellAt x20 x1 0)) x0) (fun y0=>
 .br (!y0)
 (.at (.next ((.inl (x0,IntKind.i64.wrap (x1 + 1),x2,x3,x4,x5,x6,x7,x8,x9,x10,x11,x12,x13,x14,x15,x16,x17,x18,x19,x20,x21,x22,x23,x24,x25)))))
 (.bi (qoD x2 x3 x4 x5 x6 x7 x8 x9 x10 x11 x12 x13 x14 x15 x16 x17 x18 x19 x20 x21 x22 x23 (intOf (cellAt x20 x1 0)) x0) (fun y1=>
 .br (y1.2 != 0)
 (.at (.next ((.inr (x0,IntKind.i64.wrap (x1 + 1),x2,x3,x4,x5,x6,x7,x8,x9,x10,x11,x12,x13,x14,x15,x16,x17,x18,x19,x20,x21,x22,x23,x24,x25,[AV.agg [.int .i64 (intOf (cellAt x20 x1 0)),.int .i64 (if 0 > 0 then 0 else 0),.int .i64 0]])))))
 (.at (.next ((.inr (x0,IntKind.i64.wrap (x1 + 1),x2,x3,x4,x5,x6,x7,x8,x9,x10,x11,x12,x13,x14,x15,x16,x17,x18,x19,x20,x21,x22,x23,x24,x25,[AV.agg [.int .i64 (intOf (cellAt x20 x1 0)),.int .i64 (if y1.1 > 0 then y1.1 else 0),.int .i64 0]]))))))
 (.no)))
 (.no))
 (.no))
 (.at (.done 0))
def qLC (x0 x1:Int) (x2 x3 x4:List AV) (x5 x6:Int) (x7 x8:Int) (x9 x10:Int) (x11 x12:Int) (x13 x14:Int) (x15 x16:Int) (x17 x18:Int) (x19 x20:List AV) (x21 x22 x23:List AV) (x24 x25:Int) (x26:List AV):DT (Rd qdA):=
 .br (decide (x1 < (x20.length:Int)))
 (.br (qaw [.int .i64,.int .i64,.int .i64,.int .i64,.str,.str,.str] x20 x1)
 (.bi (qd8 x2 x3 x4 x5 x6 x7 x8 x9 x10 x11 x12 x13 x14 x15 x16 x17 x18 x19 x20 x21 x22 x23 (intOf (cellAt x20 x1 0)) x0) (fun y0=>
 .br (!y0)
 (.at (.next ((.inr (x0,IntKind.i64.wrap (x1 + 1),x2,x3,x4,x5,x6,x7,x8,x9,x10,x11,x12,x13,x14,x15,x16,x17,x18,x19,x20,x21,x22,x23,x24,x25,x26)))))
 (.bi (qoD x2 x3 x4 x5 x6 x7 x8 x9 x10 x11 x12 x13 x14 x15 x16 x17 x18 x19 x20 x21 x22 x23 (intOf (cellAt x20 x1 0)) x0) (fun y1=>
 .br (y1.2 != 0)
 (.br (room (x26.length + 1) 24)
 (.at (.next ((.inr (x0,IntKind.i64.wrap (x1 + 1),x2,x3,x4,x5,x6,x7,x8,x9,x10,x11,x12,x13,x14,x15,x16,x17,x18,x19,x20,x21,x22,x23,x24,x25,x26 ++ [AV.agg [.int .i64 (intOf (cellAt x20 x1 0)),.int .i64 (if 0 > 0 then 0 else 0),.int .i64 0]])))))
 (.no))
 (.br (room (x26.length + 1) 24)
 (.at (.next ((.inr (x0,IntKind.i64.wrap (x1 + 1),x2,x3,x4,x5,x6,x7,x8,x9,x10,x11,x12,x13,x14,x15,x16,x17,x18,x19,x20,x21,x22,x23,x24,x25,x26 ++ [AV.agg [.int .i64 (intOf (cellAt x20 x1 0)),.int .i64 (if y1.1 > 0 then y1.1 else 0),.int .i64 0]])))))
 (.no)))
 (.no)))
 (.no))
 (.no))
 (.at (.done 1))
def qnV:qdA -> DT (Rd qdA):=(Sum.elim (fun v=>qLB v.1 v.2.1 v.2.2.1 v.2.2.2.1 v.2.2.2.2.1 v.2.2.2.2.2.1 v.2.2.2.2.2.2.1 v.2.2.2.2.2.2.2.1 v.2.2.2.2.2.2.2.2.1 v.2.2.2.2.2.2.2.2.2.1 v.2.2.2.2.2.2.2.2.2.2.1 v.2.2.2.2.2.2.2.2.2.2.2.1 v.2.2.2.2.2.2.2.2.2.2.2.2.1 v.2.2.2.2.2.2.2.2.2.2.2.2.2.1 v.2.2.2.2.2.2.2.2.2.2.2.2.2.2.1 v.2.2.2.2.2.2.2.2.2.2.2.2.2.2.2.1 v.2.2.2.2.2.2.2.2.2.2.2.2.2.2.2.2.1 v.2.2.2.2.2.2.2.2.2.2.2.2.2.2.2.2.2.1 v.2.2.2.2.2.2.2.2.2.2.2.2.2.2.2.2.2.2.1 v.2.2.2.2.2.2.2.2.2.2.2.2.2.2.2.2.2.2.2.1 v.2.2.2.2.2.2.2.2.2.2.2.2.2.2.2.2.2.2.2.2.1 v.2.2.2.2.2.2.2.2.2.2.2.2.2.2.2.2.2.2.2.2.2.1 v.2.2.2.2.2.2.2.2.2.2.2.2.2.2.2.2.2.2.2.2.2.2.1 v.2.2.2.2.2.2.2.2.2.2.2.2.2.2.2.2.2.2.2.2.2.2.2.1 v.2.2.2.2.2.2.2.2.2.2.2.2.2.2.2.2.2.2.2.2.2.2.2.2.1 v.2.2.2.2.2.2.2.2.2.2.2.2.2.2.2.2.2.2.2.2.2.2.2.2.2) (fun v=>qLC v.1 v.2.1 v.2.2.1 v.2.2.2.1 v.2.2.2.2.1 v.2.2.2.2.2.1 v.2.2.2.2.2.2.1 v.2.2.2.2.2.2.2.1 v.2.2.2.2.2.2.2.2.1 v.2.2.2.2.2.2.2.2.2.1 v.2.2.2.2.2.2.2.2.2.2.1 v.2.2.2.2.2.2.2.2.2.2.2.1 v.2.2.2.2.2.2.2.2.2.2.2.2.1 v.2.2.2.2.2.2.2.2.2.2.2.2.2.1 v.2.2.2.2.2.2.2.2.2.2.2.2.2.2.1 v.2.2.2.2.2.2.2.2.2.2.2.2.2.2.2.1 v.2.2.2.2.2.2.2.2.2.2.2.2.2.2.2.2.1 v.2.2.2.2.2.2.2.2.2.2.2.2.2.2.2.2.2.1 v.2.2.2.2.2.2.2.2.2.2.2.2.2.2.2.2.2.2.1 v.2.2.2.2.2.2.2.2.2.2.2.2.2.2.2.2.2.2.2.1 v.2.2.2.2.2.2.2.2.2.2.2.2.2.2.2.2.2.2.2.2.1 v.2.2.2.2.2.2.2.2.2.2.2.2.2.2.2.2.2.2.2.2.2.1 v.2.2.2.2.2.2.2.2.2.2.2.2.2.2.2.2.2.2.2.2.2.2.1 v.2.2.2.2.2.2.2.2.2.2.2.2.2.2.2.2.2.2.2.2.2.2.2.1 v.2.2.2.2.2.2.2.2.2.2.2.2.2.2.2.2.2.2.2.2.2.2.2.2.1 v.2.2.2.2.2.2.2.2.2.2.2.2.2.2.2.2.2.2.2.2.2.2.2.2.2.1 v.2.2.2.2.2.2.2.2.2.2.2.2.2.2.2.2.2.2.2.2.2.2.2.2.2.2))
def qy9 (v:qdA):Option (Nat × qdA):=qaC (qah (fun v=>(qnV v).ev) v)
theorem quv (v):qy9 v = qah (fun v=>(qnV v).ev) v:=qaa _
def qHY:qbi:=LE (τ:=qdA) (hD qGM) (qy9) q2c
theorem q05:Go.Eng.Told IP (qab F10 0).1 (qab F10 0).2 (qHY):=qaj (inferInstance:Inhabited qdA) (hs:=qGM) (st:=qnV) (L:=[]) qEG (qae (l:=[]) (by kernel_rfl) trivial) (quv) (fun v=>match v with | (.inl v)=>by kernel_rfl | (.inr v)=>by kernel_rfl) (fun v=>match v with | (.inl v)=>by kernel_rfl | (.inr v)=>by kernel_rfl)
abbrev qDu:Type:=Int × List AV × List AV
def qJj:PArgs:=⟨[.agg [.view 2,.view 3,.view 4,.int .i64,.int .i64,.int .i64,.int .i64,.int .i64,.int .i64,.int .i64,.int .i64,.int .i64,.int .i64,.int .i64,.int .i64,.int .i64,.int .i64,.view 19,.view 7,.view 10,.view 6,.view 7],.int .i64,.int .i64],[]⟩
def qKD:List PRes:=[⟨false,.agg [.int .i64,.view 3,.view 3],[]⟩]
def qkL (x0 x1 x2:List AV) (x3 x4:Int) (x5 x6:Int) (x7 x8:Int) (x9 x10:Int) (x11 x12:Int) (x13 x14:Int) (x15 x16:Int) (x17 x18:List AV) (x19 x20 x21:List AV) (x22 x23:Int):DT qDu:=
 .bi (pj 0 (qy9 (Sum.inl (x22,0,x0,x1,x2,x3,x4,x5,x6,x7,x8,x9,x10,x11,x12,x13,x14,x15,x16,x17,x18,x19,x20,x21,0,x23)))) (fun y0=>
 .at (((sl y0).2.2.2.2.2.2.2.2.2.2.2.2.2.2.2.2.2.2.2.2.2.2.2.2.2,[],[])))
 (.bi (pj 1 (qy9 (Sum.inl (x22,0,x0,x1,x2,x3,x4,x5,x6,x7,x8,x9,x10,x11,x12,x13,x14,x15,x16,x17,x18,x19,x20,x21,0,x23)))) (fun y0=>
 .at (((sr y0).2.2.2.2.2.2.2.2.2.2.2.2.2.2.2.2.2.2.2.2.2.2.2.2.2.1,(sr y0).2.2.2.2.2.2.2.2.2.2.2.2.2.2.2.2.2.2.2.2.2.2.2.2.2.2,[])))
 (.no))
def ql5 (x0 x1 x2:List AV) (x3 x4:Int) (x5 x6:Int) (x7 x8:Int) (x9 x10:Int) (x11 x12:Int) (x13 x14:Int) (x15 x16:Int) (x17 x18:List AV) (x19 x20 x21:List AV) (x22 x23:Int):Option qDu:=qaC (qkL x0 x1 x2 x3 x4 x5 x6 x7 x8 x9 x10 x11 x12 x13 x14 x15 x16 x17 x18 x19 x20 x21 x22 x23).ev
theorem qBb (x0 x1 x2 x3 x4 x5 x6 x7 x8 x9 x10 x11 x12 x13 x14 x15 x16 x17 x18 x19 x20 x21 x22 x23):ql5 x0 x1 x2 x3 x4 x5 x6 x7 x8 x9 x10 x11 x12 x13 x14 x15 x16 x17 x18 x19 x20 x21 x22 x23 = (qkL x0 x1 x2 x3 x4 x5 x6 x7 x8 x9 x10 x11 x12 x13 x14 x15 x16 x17 x18 x19 x20 x21 x22 x23).ev:=qaa _
theorem qUl:FH IP 10 qJj qKD (k24 ql5):=qam (F:=F10) (L:=[(1001000,qHY)]) (t:=(k24 qkL)) qEG (qae (l:=[qab F10 0]) (by kernel_rfl) ⟨qal (by kernel_rfl) q05,trivial⟩) (by kernel_rfl) (fun v=>by kernel_rfl) (fun _=>qaa _)
def T99:Tab:=(10,FE qJj qKD (k24 ql5)) :: T98
theorem qx6:qau IP T99:=⟨qay qUl,qEG⟩
abbrev qdn:Type:=Int × Int × List AV × List AV × Int × List AV × List AV
def qyM:List PSt:=[⟨[(1000900,.junk),(2,.ref 0 0 0),(3,.ref 1 0 0),(5,.int .i64)],[(0,.box [.int .i64,.view 3,.view 3] false),(1,.box [.int .i64,.view 3,.view 3] false)],2,0⟩]
def qMA (x0 x1:Int) (x2 x3:List AV) (x4:Int) (x5 x6:List AV):X × St:=(.ret,
 ⟨[(2,.ref 0 0 0),(3,.ref 1 0 0),(4,.bool false)],[(0,.box [.int .i64 x1,.view 3 x2,.view 3 x3] false),(1,.box [.int .i64 x4,.view 3 x5,.view 3 x6] false)],2,0⟩)
def qMB (x0 x1:Int) (x2 x3:List AV) (x4:Int) (x5 x6:List AV):X × St:=(.exit 0,
 ⟨[(2,.ref 0 0 0),(3,.ref 1 0 0),(4,.junk)],[(0,.box [.int .i64 x1,.view 3 x2,.view 3 x3] false),(1,.box [.int .i64 x4,.view 3 x5,.view 3 x6] false)],2,0⟩)
def qWB:List (qdn -> X × St):=[(k7 qMA),(k7 qMB)]
def qCu (x0 x1:Int) (x2 x3:List AV) (x4:Int) (x5 x6:List AV):DT (Rd qdn):=
 .br (decide (x0 < (x2.length:Int)))
 (.br (qaw [.int .i64,.int .i64,.int .i64] x2 x0)
 (.br (qaw [.int .i64,.int .i64,.int .i64] x5 x0)
 (.br (if true = true then
 !(intOf (cellAt x2 x0 0) == intOf (cellAt x5 x0 0) && (intOf (cellAt x2 x0 1) == intOf (cellAt x5 x0 1) && (intOf (cellAt x2 x0 2) == intOf (cellAt x5 x0 2) && true)))
 else intOf (cellAt x2 x0 0) == intOf (cellAt x5 x0 0) && (intOf (cellAt x2 x0 1) == intOf (cellAt x5 x0 1) && (intOf (cellAt x2 x0 2) == intOf (cellAt x5 x0 2) && true)))
 (.at (.done 0))
 (.at (.next ((IntKind.i64.wrap (x0 + 1),x1,x2,x3,x4,x5,x6)))))
 (.no))
 (.no))
 (.at (.done 1))
def qj6:qdn -> DT (Rd qdn):=(fun v=>qCu v.1 v.2.1 v.2.2.1 v.2.2.2.1 v.2.2.2.2.1 v.2.2.2.2.2.1 v.2.2.2.2.2.2)
def qmP (v:qdn):Option (Nat × qdn):=qaC (qah (fun v=>(qj6 v).ev) v)
theorem qo8 (v):qmP v = qah (fun v=>(qj6 v).ev) v:=qaa _
def qzt:qbi:=LE (τ:=qdn) (hD qyM) (qmP) qWB
theorem qV6:Go.Eng.Told IP (qab F9 0).1 (qab F9 0).2 (qzt):=lp (inferInstance:Inhabited qdn) (hs:=qyM) qj6 qx6 qo8
abbrev qdo:Type:=Int × Int × List AV × List AV × Int × List AV × List AV
def qyN:List PSt:=[⟨[(1000901,.junk),(2,.ref 0 0 0),(3,.ref 1 0 0),(6,.int .i64)],[(0,.box [.int .i64,.view 3,.view 3] false),(1,.box [.int .i64,.view 3,.view 3] false)],2,0⟩]
def qMC (x0 x1:Int) (x2 x3:List AV) (x4:Int) (x5 x6:List AV):X × St:=(.ret,⟨[(4,.bool false)],[],0,0⟩)
def qMD (x0 x1:Int) (x2 x3:List AV) (x4:Int) (x5 x6:List AV):X × St:=(.exit 2,⟨[(4,.junk)],[],0,0⟩)
def qWC:List (qdo -> X × St):=[(k7 qMC),(k7 qMD)]
def qCv (x0 x1:Int) (x2 x3:List AV) (x4:Int) (x5 x6:List AV):DT (Rd qdo):=
 .br (decide (x0 < (x3.length:Int)))
 (.br (qaw [.int .i64,.int .i64,.str] x3 x0)
 (.br (qaw [.int .i64,.int .i64,.str] x6 x0)
 (.br (if true = true then
 !(intOf (cellAt x3 x0 0) == intOf (cellAt x6 x0 0) && (intOf (cellAt x3 x0 1) == intOf (cellAt x6 x0 1) && (strOf (cellAt x3 x0 2) == strOf (cellAt x6 x0 2) && true)))
 else intOf (cellAt x3 x0 0) == intOf (cellAt x6 x0 0) && (intOf (cellAt x3 x0 1) == intOf (cellAt x6 x0 1) && (strOf (cellAt x3 x0 2) == strOf (cellAt x6 x0 2) && true)))
 (.at (.done 0))
 (.at (.next ((IntKind.i64.wrap (x0 + 1),x1,x2,x3,x4,x5,x6)))))
 (.no))
 (.no))
 (.at (.done 1))
def qqW:qdo -> DT (Rd qdo):=(fun v=>qCv v.1 v.2.1 v.2.2.1 v.2.2.2.1 v.2.2.2.2.1 v.2.2.2.2.2.1 v.2.2.2.2.2.2)
def qmQ (v:qdo):Option (Nat × qdo):=qaC (qah (fun v=>(qqW v).ev) v)
theorem qo9 (v):qmQ v = qah (fun v=>(qqW v).ev) v:=qaa _
def qzu:qbi:=LE (τ:=qdo) (hD qyN) (qmQ) qWC
theorem qV7:Go.Eng.Told IP (qab F9 1).1 (qab F9 1).2 (qzu):=lp (inferInstance:Inhabited qdo) (hs:=qyN) qqW qx6 qo9
abbrev qDQ:Type:=Bool
def qJG:PArgs:=⟨[.agg [.int .i64,.view 3,.view 3],.agg [.int .i64,.view 3,.view 3]],[]⟩
def qK0:List PRes:=[⟨false,.bool,[]⟩]
def qlb (x0:Int) (x1 x2:List AV) (x3:Int) (x4 x5:List AV):DT qDQ:=
 .bi (br (x0 != x3) (some true) (some ((x1.length:Int) != (x4.length:Int)))) (fun y0=>
 .bi (br y0 (some true) (some ((x2.length:Int) != (x5.length:Int)))) (fun y1=>
 .br (y1)
 (.at (false))
 (.bi (pj 0 (qmP (0,x0,x1,x2,x3,x4,x5))) (fun y2=>
 .at (false))
 (.bi (pj 1 (qmP (0,x0,x1,x2,x3,x4,x5))) (fun y2=>
 .bi (pj 0 (qmQ (0,y2.2.1,y2.2.2.1,y2.2.2.2.1,y2.2.2.2.2.1,y2.2.2.2.2.2.1,y2.2.2.2.2.2.2))) (fun y3=>
 .at (false))
 (.bi (pj 1 (qmQ (0,y2.2.1,y2.2.2.1,y2.2.2.2.1,y2.2.2.2.2.1,y2.2.2.2.2.2.1,y2.2.2.2.2.2.2))) (fun y3=>
 .at (true))
 (.no)))
 (.no))))
 (.no))
 (.no)
def qmk (x0:Int) (x1 x2:List AV) (x3:Int) (x4 x5:List AV):Option qDQ:=qaC (qlb x0 x1 x2 x3 x4 x5).ev
theorem qBz (x0 x1 x2 x3 x4 x5):qmk x0 x1 x2 x3 x4 x5 = (qlb x0 x1 x2 x3 x4 x5).ev:=qaa _
theorem qUI:FH IP 9 qJG qK0 (k6 qmk):=qam (F:=F9) (L:=[(1000900,qzt),(1000901,qzu)]) (t:=(k6 qlb)) qx6 (qae (l:=[qab F9 0,qab F9 1]) (by kernel_rfl) ⟨qal (by kernel_rfl) qV6,qal (by kernel_rfl) qV7,trivial⟩) (by kernel_rfl) (fun v=>by kernel_rfl) (fun _=>qaa _)
def q5M:Tab:=(9,FE qJG qK0 (k6 qmk)) :: T99
theorem qwf:qau IP q5M:=⟨qay qUI,qx6⟩
abbrev qey:Type:=List AV × List AV × Int × Int
def qFU:List PSt:=[⟨[(1003100,.junk),(0,.view 3),(5,.view 3),(6,.int .i64),(7,.int .i64)],[],0,0⟩]
def qOC (x0 x1:List AV) (x2 x3:Int):X × St:=(.ret,⟨[(2,.int .i64 1)],[],0,0⟩)
def qOD (x0 x1:List AV) (x2 x3:Int):X × St:=(.ret,⟨[(2,.int .i64 10)],[],0,0⟩)
def qOE (x0 x1:List AV) (x2 x3:Int):X × St:=(.exit 0,⟨[(2,.junk)],[],0,0⟩)
def q1i:List (qey -> X × St):=[(k4 qOC),(k4 qOD),(k4 qOE)]
def qLp (x0 x1:List AV) (x2 x3:Int):DT (Rd qey):=
 .br (decide (x3 < x2))
 (.br (qaw [.int .i64,.int .i64,.int .i64] x1 x3)
 (.bi (br (decide (intOf (cellAt x1 x3 0) < 1000)) (some true) (some (decide (intOf (cellAt x1 x3 1) < 0)))) (fun y0=>
 .bi (br y0 (some true) (some (decide (intOf (cellAt x1 x3 2) < 0)))) (fun y1=>
 .br (y1)
 (.at (.done 0))
 (.br (decide (x3 > 0))
 (.br (qaw [.int .i64,.int .i64,.int .i64] x0 (IntKind.i64.wrap (x3 - 1)))
 (.br (decide (intOf (cellAt x1 x3 0) <= intOf (cellAt x0 (IntKind.i64.wrap (x3 - 1)) 0))) (.at (.done 1)) (.at (.next ((x0,x1,x2,IntKind.i64.wrap (x3 + 1))))))
 (.no))
 (.at (.next ((x0,x1,x2,IntKind.i64.wrap (x3 + 1)))))))
 (.no))
 (.no))
 (.no))
 (.at (.done 2))
def qqY:qey -> DT (Rd qey):=(fun v=>qLp v.1 v.2.1 v.2.2.1 v.2.2.2)
def qpc (v:qey):Option (Nat × qey):=qaC (qah (fun v=>(qqY v).ev) v)
theorem qte (v):qpc v = qah (fun v=>(qqY v).ev) v:=qaa _
def qG6:qbi:=LE (τ:=qey) (hD qFU) (qpc) q1i
theorem q0d:Go.Eng.Told IP (qab F31 0).1 (qab F31 0).2 (qG6):=lp (inferInstance:Inhabited qey) (hs:=qFU) qqY qwf qte
abbrev qQN:Type:=Int
def qSz:PArgs:=⟨[.view 3],[]⟩
def qS3:List PRes:=[⟨false,.int .i64,[]⟩]
def qrT (x0:List AV):DT qQN:=
 .bi (pj 0 (qpc (x0,x0,(x0.length:Int),0))) (fun y0=>
 .at (1))
 (.bi (pj 1 (qpc (x0,x0,(x0.length:Int),0))) (fun y0=>
 .at (10))
 (.bi (pj 2 (qpc (x0,x0,(x0.length:Int),0))) (fun y0=>
 .at (0))
 (.no)))
def qsT (x0:List AV):Option qQN:=qaC (qrT x0).ev
theorem qFt (x0):qsT x0 = (qrT x0).ev:=qaa _
theorem qYg:FH IP 31 qSz qS3 qsT:=qam (F:=F31) (L:=[(1003100,qG6)]) (t:=qrT) qwf (qae (l:=[qab F31 0]) (by kernel_rfl) ⟨qal (by kernel_rfl) q0d,trivial⟩) (by kernel_rfl) (fun v=>by kernel_rfl) (fun _=>qaa _)
def q5N:Tab:=(31,FE qSz qS3 qsT) :: q5M
theorem qDZ:qau IP q5N:=⟨qay qYg,qwf⟩
abbrev qQ1:Type:=Bool
def qSN:PArgs:=⟨[.int .i64],[]⟩
def qTh:List PRes:=[⟨false,.bool,[]⟩]
def qxO (x0:Int):DT qQ1:=
 .bi (br (decide (x0 >= -1000000000000)) (some (decide (x0 <= 1000000000000))) (some false)) (fun y0=>
 .at (y0))
 (.no)
def qs1 (x0:Int):Option qQ1:=qaC (qxO x0).ev
theorem qYv:FH IP 59 qSN qTh qs1:=fh F59 qxO qDZ
def q5O:Tab:=(59,FE qSN qTh qs1) :: q5N
theorem qwg:qau IP q5O:=⟨qay qYv,qDZ⟩
abbrev qeF:Type:=List UInt8 × Int × Int
def qF1:List PSt:=[⟨[(1006000,.junk),(0,.str),(5,.int .i64),(6,.int .i64)],[],0,0⟩]
def qOS (x0:List UInt8) (x1 x2:Int):X × St:=(.ret,⟨[(0,.str x0),(2,.bool false)],[],0,0⟩)
def qOT (x0:List UInt8) (x1 x2:Int):X × St:=(.exit 0,⟨[(0,.str x0),(2,.junk)],[],0,0⟩)
def q1p:List (qeF -> X × St):=[(k3 qOS),(k3 qOT)]
def qLt (x0:List UInt8) (x1 x2:Int):DT (Rd qeF):=
 .br (decide (x2 < x1))
 (.br (inB x0.length x2)
 (.bi (br (decide (qaK x0 x2 < 33)) (some true) (br (inB x0.length x2) (some (decide (qaK x0 x2 > 126))) none)) (fun y0=>
 .br (y0) (.at (.done 0)) (.at (.next ((x0,x1,IntKind.i64.wrap (x2 + 1))))))
 (.no))
 (.no))
 (.at (.done 1))
def qxD:qeF -> DT (Rd qeF):=(fun v=>qLt v.1 v.2.1 v.2.2)
def qy2 (v:qeF):Option (Nat × qeF):=qaC (qah (fun v=>(qxD v).ev) v)
theorem qGT (v):qy2 v = qah (fun v=>(qxD v).ev) v:=qaa _
def qHd:qbi:=LE (τ:=qeF) (hD qF1) (qy2) q1p
theorem q0k:Go.Eng.Told IP (qab F60 0).1 (qab F60 0).2 (qHd):=lp (inferInstance:Inhabited qeF) (hs:=qF1) qxD qwg qGT
abbrev qQ2:Type:=Bool
def qSO:PArgs:=⟨[.str],[]⟩
def qTi:List PRes:=[⟨false,.bool,[]⟩]
def qxP (x0:List UInt8):DT qQ2:=
 .bi (pj 0 (qy2 (x0,(x0.length:Int),0))) (fun y0=>
 .at (false))
 (.bi (pj 1 (qy2 (x0,(x0.length:Int),0))) (fun y0=>
 .bi (br (decide ((y0.1.length:Int) >= 1)) (some (decide ((y0.1.length:Int) <= 48))) (some false)) (fun y1=>
 .at (y1))
 (.no))
 (.no))
def qs2 (x0:List UInt8):Option qQ2:=qaC (qxP x0).ev
theorem qYw:FH IP 60 qSO qTi qs2:=qam (F:=F60) (L:=[(1006000,qHd)]) (t:=qxP) qwg (qae (l:=[qab F60 0]) (by kernel_rfl) ⟨qal (by kernel_rfl) q0k,trivial⟩) (by kernel_rfl) (fun v=>by kernel_rfl) (fun _=>qaa _)
def q5P:Tab:=(60,FE qSO qTi qs2) :: q5O
theorem qD0:qau IP q5P:=⟨qay qYw,qwg⟩
abbrev qQF:Type:=Bool
def qSr:PArgs:=⟨[.agg [.int .i64,.int .i64,.int .i64],.ptr [.int .i64]],[]⟩
def qSV:List PRes:=[⟨false,.bool,[]⟩]
def qxL (x0 x1:Int) (x2 x3:Int):DT qQF:=
 .at (x0 == x3)
def qym (x0 x1:Int) (x2 x3:Int):Option qQF:=qaC (qxL x0 x1 x2 x3).ev
theorem qX8:FH IP 92 qSr qSV (k4 qym):=fh F92 (k4 qxL) qD0
def q5Q:Tab:=(92,FE qSr qSV (k4 qym)) :: q5P
theorem qwh:qau IP q5Q:=⟨qay qX8,qD0⟩
abbrev qhI:Type:=List AV × Int × Int × Int
def qR0:List PSt:=[⟨[(1009100,.junk),(0,.view 3),(1,.fn (.func 92) [.ptr [.int .i64]]),(7,.int .i64),(8,.int .i64)],[],0,0⟩]
def qWH (x0:List AV) (x1 x2 x3:Int):X × St:=(.ret,⟨[(4,.int .i64 x3)],[],0,0⟩)
def qWI (x0:List AV) (x1 x2 x3:Int):X × St:=(.exit 0,⟨[(4,.junk)],[],0,0⟩)
def q5F:List (qhI -> X × St):=[(k4 qWH),(k4 qWI)]
def qOi (x0:List AV) (x1 x2 x3:Int):DT (Rd qhI):=
 .br (decide (x3 < x2))
 (.br (qaw [.int .i64,.int .i64,.int .i64] x0 x3)
 (.bi (qym (intOf (cellAt x0 x3 0)) (intOf (cellAt x0 x3 1)) (intOf (cellAt x0 x3 2)) x1) (fun y0=>
 .br (y0) (.at (.done 0)) (.at (.next ((x0,x1,x2,IntKind.i64.wrap (x3 + 1))))))
 (.no))
 (.no))
 (.at (.done 1))
def qLs:qhI -> DT (Rd qhI):=(fun v=>qOi v.1 v.2.1 v.2.2.1 v.2.2.2)
def qNM (v:qhI):Option (Nat × qhI):=qaC (qah (fun v=>(qLs v).ev) v)
theorem qNN (v):qNM v = qah (fun v=>(qLs v).ev) v:=qaa _
def qR9:qbi:=LE (τ:=qhI) (hD qR0) (qNM) q5F
theorem q5u:Go.Eng.Told IP (qab F91 0).1 (qab F91 0).2 (qR9):=lp (inferInstance:Inhabited qhI) (hs:=qR0) qLs qwh qNN
abbrev qXF:Type:=Int
def qZA:PArgs:=⟨[.view 3,.fn (.func 92) [.ptr [.int .i64]]],[]⟩
def qZR:List PRes:=[⟨false,.int .i64,[]⟩]
def qLQ (x0:List AV) (x1:Int):DT qXF:=
 .bi (pj 0 (qNM (x0,x1,(x0.length:Int),0))) (fun y0=>
 .at (y0.2.2.2))
 (.bi (pj 1 (qNM (x0,x1,(x0.length:Int),0))) (fun y0=>
 .at (-1))
 (.no))
def qNu (x0:List AV) (x1:Int):Option qXF:=qaC (qLQ x0 x1).ev
theorem q3r:FH IP 91 qZA qZR (k2 qNu):=qam (F:=F91) (L:=[(1009100,qR9)]) (t:=(k2 qLQ)) qwh (qae (l:=[qab F91 0]) (by kernel_rfl) ⟨qal (by kernel_rfl) q5u,trivial⟩) (by kernel_rfl) (fun v=>by kernel_rfl) (fun _=>qaa _)
def q5R:Tab:=(91,FE qZA qZR (k2 qNu)) :: q5Q
theorem qD1:qau IP q5R:=⟨qay q3r,qwh⟩
abbrev qQO:Type:=Int
def qSA:PArgs:=⟨[.view 3,.int .i64],[]⟩
def qS4:List PRes:=[⟨false,.int .i64,[]⟩]
def qxN (x0:List AV) (x1:Int):DT qQO:=
 .bi (qNu x0 x1) (fun y0=>
 .at (y0))
 (.no)
def qyp (x0:List AV) (x1:Int):Option qQO:=qaC (qxN x0 x1).ev
theorem qYh:FH IP 58 qSA qS4 (k2 qyp):=fh F58 (k2 qxN) qD1
def q5S:Tab:=(58,FE qSA qS4 (k2 qyp)) :: q5R
theorem qD2:qau IP q5S:=⟨qay qYh,qD1⟩
abbrev qQG:Type:=Bool
def qSs:PArgs:=⟨[.agg [.int .i64,.int .i64,.str],.ptr [.int .i64,.int .i64,.str]],[]⟩
def qSW:List PRes:=[⟨false,.bool,[]⟩]
def qxM (x0 x1:Int) (x2:List UInt8) (x3 x4:Int) (x5:List UInt8):DT qQG:=
 .at (x2 == x5)
def qyn (x0 x1:Int) (x2:List UInt8) (x3 x4:Int) (x5:List UInt8):Option qQG:=qaC (qxM x0 x1 x2 x3 x4 x5).ev
theorem qX9:FH IP 77 qSs qSW (k6 qyn):=fh F77 (k6 qxM) qD2
def q5T:Tab:=(77,FE qSs qSW (k6 qyn)) :: q5S
theorem qwi:qau IP q5T:=⟨qay qX9,qD2⟩
abbrev qhJ:Type:=List AV × Int × Int × List UInt8 × Int × Int
def qR1:List PSt:=[⟨[(1009300,.junk),(0,.view 3),(1,.fn (.func 77) [.ptr [.int .i64,.int .i64,.str]]),(7,.int .i64),(8,.int .i64)],[],0,0⟩]
def qWJ (x0:List AV) (x1 x2:Int) (x3:List UInt8) (x4 x5:Int):X × St:=(.ret,⟨[(4,.int .i64 x5)],[],0,0⟩)
def qWK (x0:List AV) (x1 x2:Int) (x3:List UInt8) (x4 x5:Int):X × St:=(.exit 0,⟨[(4,.junk)],[],0,0⟩)
def q5G:List (qhJ -> X × St):=[(k6 qWJ),(k6 qWK)]
def qOj (x0:List AV) (x1 x2:Int) (x3:List UInt8) (x4 x5:Int):DT (Rd qhJ):=
 .br (decide (x5 < x4))
 (.br (qaw [.int .i64,.int .i64,.str] x0 x5)
 (.bi (qyn (intOf (cellAt x0 x5 0)) (intOf (cellAt x0 x5 1)) (strOf (cellAt x0 x5 2)) x1 x2 x3) (fun y0=>
 .br (y0) (.at (.done 0)) (.at (.next ((x0,x1,x2,x3,x4,IntKind.i64.wrap (x5 + 1))))))
 (.no))
 (.no))
 (.at (.done 1))
def qLy:qhJ -> DT (Rd qhJ):=(fun v=>qOj v.1 v.2.1 v.2.2.1 v.2.2.2.1 v.2.2.2.2.1 v.2.2.2.2.2)
def qNO (v:qhJ):Option (Nat × qhJ):=qaC (qah (fun v=>(qLy v).ev) v)
theorem qNP (v):qNO v = qah (fun v=>(qLy v).ev) v:=qaa _
def qSa:qbi:=LE (τ:=qhJ) (hD qR1) (qNO) q5G
theorem q5v:Go.Eng.Told IP (qab F93 0).1 (qab F93 0).2 (qSa):=lp (inferInstance:Inhabited qhJ) (hs:=qR1) qLy qwi qNP
abbrev qXG:Type:=Int
def qZB:PArgs:=⟨[.view 3,.fn (.func 77) [.ptr [.int .i64,.int .i64,.str]]],[]⟩
def qZS:List PRes:=[⟨false,.int .i64,[]⟩]
def qLR (x0:List AV) (x1 x2:Int) (x3:List UInt8):DT qXG:=
 .bi (pj 0 (qNO (x0,x1,x2,x3,(x0.length:Int),0))) (fun y0=>
 .at (y0.2.2.2.2.2))
 (.bi (pj 1 (qNO (x0,x1,x2,x3,(x0.length:Int),0))) (fun y0=>
 .at (-1))
 (.no))
def qNv (x0:List AV) (x1 x2:Int) (x3:List UInt8):Option qXG:=qaC (qLR x0 x1 x2 x3).ev
theorem q3s:FH IP 93 qZB qZS (k4 qNv):=qam (F:=F93) (L:=[(1009300,qSa)]) (t:=(k4 qLR)) qwi (qae (l:=[qab F93 0]) (by kernel_rfl) ⟨qal (by kernel_rfl) q5v,trivial⟩) (by kernel_rfl) (fun v=>by kernel_rfl) (fun _=>qaa _)
def q5U:Tab:=(93,FE qZB qZS (k4 qNv)) :: q5T
theorem qD3:qau IP q5U:=⟨qay q3s,qwi⟩
abbrev qXE:Type:=Bool
def qZz:PArgs:=⟨[.view 3,.fn (.func 77) [.ptr [.int .i64,.int .i64,.str]]],[]⟩
def qZQ:List PRes:=[⟨false,.bool,[]⟩]
def qLP (x0:List AV) (x1 x2:Int) (x3:List UInt8):DT qXE:=
 .bi (qNv x0 x1 x2 x3) (fun y0=>
 .at (decide (y0 >= 0)))
 (.no)
def qNt (x0:List AV) (x1 x2:Int) (x3:List UInt8):Option qXE:=qaC (qLP x0 x1 x2 x3).ev
theorem q3q:FH IP 61 qZz qZQ (k4 qNt):=fh F61 (k4 qLP) qD3
def q5V:Tab:=(61,FE qZz qZQ (k4 qNt)) :: q5U
theorem qwj:qau IP q5V:=⟨qay q3q,qD3⟩
abbrev qez:Type:=List AV × Int × Int × Int × List AV × List AV
def qFV:List PSt:=[⟨[(1003200,.junk),(1,.ref 0 0 0),(6,.view 3),(7,.int .i64),(8,.int .i64)],[(0,.box [.int .i64,.view 3,.view 3] false)],1,0⟩]
def qOF (x0:List AV) (x1 x2 x3:Int) (x4 x5:List AV):X × St:=(.ret,⟨[(2,.int .i64 1)],[],0,0⟩)
def qOG (x0:List AV) (x1 x2 x3:Int) (x4 x5:List AV):X × St:=(.ret,⟨[(2,.int .i64 11)],[],0,0⟩)
def qOH (x0:List AV) (x1 x2 x3:Int) (x4 x5:List AV):X × St:=(.ret,⟨[(2,.int .i64 12)],[],0,0⟩)
def qOI (x0:List AV) (x1 x2 x3:Int) (x4 x5:List AV):X × St:=(.exit 0,⟨[(2,.junk)],[],0,0⟩)
def q1j:List (qez -> X × St):=[(k6 qOF),(k6 qOG),(k6 qOH),(k6 qOI)]
def qLq (x0:List AV) (x1 x2 x3:Int) (x4 x5:List AV):DT (Rd qez):=
 .br (decide (x2 < x1))
 (.br (qaw [.int .i64,.int .i64,.str] x0 x2)
 (.bi (br (intOf (cellAt x0 x2 1) == 0) (some true) (br (sm (qs1 (intOf (cellAt x0 x2 1)))) (some !gv (qs1 (intOf (cellAt x0 x2 1)))) none)) (fun y0=>
 .bi (br y0 (some true) (br (sm (qs2 (strOf (cellAt x0 x2 2)))) (some !gv (qs2 (strOf (cellAt x0 x2 2)))) none)) (fun y1=>
 .br (y1)
 (.at (.done 0))
 (.bi (qyp x4 (intOf (cellAt x0 x2 0))) (fun y2=>
 .br (decide (y2 < 0))
 (.at (.done 1))
 (.br (leB x2 x5.length && true)
 (.bi (qNt (List.take x2.toNat x5) (intOf (cellAt x0 x2 0)) (intOf (cellAt x0 x2 1)) (strOf (cellAt x0 x2 2))) (fun y3=>
 .br (y3) (.at (.done 2)) (.at (.next ((x0,x1,IntKind.i64.wrap (x2 + 1),x3,x4,x5)))))
 (.no))
 (.no)))
 (.no)))
 (.no))
 (.no))
 (.no))
 (.at (.done 3))
def qxC:qez -> DT (Rd qez):=(fun v=>qLq v.1 v.2.1 v.2.2.1 v.2.2.2.1 v.2.2.2.2.1 v.2.2.2.2.2)
def qmS (v:qez):Option (Nat × qez):=qaC (qah (fun v=>(qxC v).ev) v)
theorem qtf (v):qmS v = qah (fun v=>(qxC v).ev) v:=qaa _
def qG7:qbi:=LE (τ:=qez) (hD qFV) (qmS) q1j
theorem q0e:Go.Eng.Told IP (qab F32 0).1 (qab F32 0).2 (qG7):=lp (inferInstance:Inhabited qez) (hs:=qFV) qxC qwj qtf
abbrev qQP:Type:=Int
def qSB:PArgs:=⟨[.agg [.int .i64,.view 3,.view 3]],[]⟩
def qS5:List PRes:=[⟨false,.int .i64,[]⟩]
def qrU (x0:Int) (x1 x2:List AV):DT qQP:=
 .bi (pj 0 (qmS (x2,(x2.length:Int),0,x0,x1,x2))) (fun y0=>
 .at (1))
 (.bi (pj 1 (qmS (x2,(x2.length:Int),0,x0,x1,x2))) (fun y0=>
 .at (11))
 (.bi (pj 2 (qmS (x2,(x2.length:Int),0,x0,x1,x2))) (fun y0=>
 .at (12))
 (.bi (pj 3 (qmS (x2,(x2.length:Int),0,x0,x1,x2))) (fun y0=>
 .at (0))
 (.no))))
def qsU (x0:Int) (x1 x2:List AV):Option qQP:=qaC (qrU x0 x1 x2).ev
theorem qFu (x0 x1 x2):qsU x0 x1 x2 = (qrU x0 x1 x2).ev:=qaa _
theorem qYi:FH IP 32 qSB qS5 (k3 qsU):=qam (F:=F32) (L:=[(1003200,qG7)]) (t:=(k3 qrU)) qwj (qae (l:=[qab F32 0]) (by kernel_rfl) ⟨qal (by kernel_rfl) q0e,trivial⟩) (by kernel_rfl) (fun v=>by kernel_rfl) (fun _=>qaa _)
def q5W:Tab:=(32,FE qSB qS5 (k3 qsU)) :: q5V
theorem qp8:qau IP q5W:=⟨qay qYi,qwj⟩
abbrev qex:Type:=Int × List AV × Int × Int × List AV × Int × Int × Int × List AV × List AV × Int × Int × Int
def qFT:List PSt:=[⟨[(1001101,.junk),(1,.ref 0 0 0),(6,.ref 1 0 0),(7,.int .i64),(42,.view 3),(43,.int .i64),(44,.int .i64),(49,.view 3),(50,.int .i64),(51,.int .i64)],[(0,.box [.int .i64,.view 3,.view 3] false),(1,.box [.int .i64,.int .i64,.int .i64] false)],2,0⟩]
def qOB (x0:Int) (x1:List AV) (x2 x3:Int) (x4:List AV) (x5 x6 x7:Int) (x8 x9:List AV) (x10 x11 x12:Int):X × St:=(.exit 3,
 ⟨[(1,.ref 0 0 0),(6,.ref 1 0 0),(7,.int .i64 x0),(42,.view 3 x1),(43,.int .i64 x2),(44,.int .i64 x3)],[(0,.box [.int .i64 x7,.view 3 x8,.view 3 x9] false),(1,.box [.int .i64 x10,.int .i64 x11,.int .i64 x12] false)],2,0⟩)
def q1h:List (qex -> X × St):=[(k13 qOB)]
def qLo (x0:Int) (x1:List AV) (x2 x3:Int) (x4:List AV) (x5 x6 x7:Int) (x8 x9:List AV) (x10 x11 x12:Int):DT (Rd qex):=
 .br (decide (x6 < x5))
 (.br (qaw [.int .i64,.int .i64,.str] x4 x6)
 (.br (intOf (cellAt x4 x6 0) == x10)
 (.at (.next ((IntKind.i64.wrap (x0 + if IntKind.i64.wrap (0 - intOf (cellAt x4 x6 1)) > 0 then IntKind.i64.wrap (0 - intOf (cellAt x4 x6 1)) else 0),x1,x2,x3,x4,x5,IntKind.i64.wrap (x6 + 1),x7,x8,x9,x10,x11,x12))))
 (.at (.next ((x0,x1,x2,x3,x4,x5,IntKind.i64.wrap (x6 + 1),x7,x8,x9,x10,x11,x12)))))
 (.no))
 (.at (.done 0))
def qxB:qex -> DT (Rd qex):=(fun v=>qLo v.1 v.2.1 v.2.2.1 v.2.2.2.1 v.2.2.2.2.1 v.2.2.2.2.2.1 v.2.2.2.2.2.2.1 v.2.2.2.2.2.2.2.1 v.2.2.2.2.2.2.2.2.1 v.2.2.2.2.2.2.2.2.2.1 v.2.2.2.2.2.2.2.2.2.2.1 v.2.2.2.2.2.2.2.2.2.2.2.1 v.2.2.2.2.2.2.2.2.2.2.2.2)
def qy0 (v:qex):Option (Nat × qex):=qaC (qah (fun v=>(qxB v).ev) v)
theorem qtd (v):qy0 v = qah (fun v=>(qxB v).ev) v:=qaa _
def qG5:qbi:=LE (τ:=qex) (hD qFT) (qy0) q1h
theorem q0c:Go.Eng.Told IP (qab F11 1).1 (qab F11 1).2 (qG5):=lp (inferInstance:Inhabited qex) (hs:=qFT) qxB qp8 qtd
abbrev qew:Type:=List AV × Int × Int × Int × List AV × List AV
def qFS:List PSt:=[⟨[(1001100,.junk),(1,.ref 0 0 0),(42,.view 3),(43,.int .i64),(44,.int .i64)],[(0,.box [.int .i64,.view 3,.view 3] false)],1,0⟩]
def qOz (x0:List AV) (x1 x2 x3:Int) (x4 x5:List AV):X × St:=(.ret,⟨[(2,.int .i64 25)],[],0,0⟩)
def qOA (x0:List AV) (x1 x2 x3:Int) (x4 x5:List AV):X × St:=(.exit 1,⟨[(2,.junk)],[],0,0⟩)
def q1g:List (qew -> X × St):=[(k6 qOz),(k6 qOA)]
def qLn (x0:List AV) (x1 x2 x3:Int) (x4 x5:List AV):DT (Rd qew):=
 .br (decide (x2 < x1))
 (.br (qaw [.int .i64,.int .i64,.int .i64] x0 x2)
 (.bi (pj 0 (qy0 (0,x0,x1,x2,x5,(x5.length:Int),0,x3,x4,x5,intOf (cellAt x0 x2 0),intOf (cellAt x0 x2 1),intOf (cellAt x0 x2 2)))) (fun y0=>
 .bi (br (y0.2.2.2.2.2.2.2.2.2.2.2.2 != y0.1) (some true) (some (decide (y0.1 > y0.2.2.2.2.2.2.2.2.2.2.2.1)))) (fun y1=>
 .bi (br y1 (some true) (some (decide (y0.1 > y0.2.2.2.2.2.2.2.1)))) (fun y2=>
 .br (y2)
 (.at (.done 0))
 (.at (.next ((y0.2.1,y0.2.2.1,IntKind.i64.wrap (y0.2.2.2.1 + 1),y0.2.2.2.2.2.2.2.1,y0.2.2.2.2.2.2.2.2.1,y0.2.2.2.2.2.2.2.2.2.1)))))
 (.no))
 (.no))
 (.no))
 (.no))
 (.at (.done 1))
def qqX:qew -> DT (Rd qew):=(fun v=>qLn v.1 v.2.1 v.2.2.1 v.2.2.2.1 v.2.2.2.2.1 v.2.2.2.2.2)
def qtb (v:qew):Option (Nat × qew):=qaC (qah (fun v=>(qqX v).ev) v)
theorem qtc (v):qtb v = qah (fun v=>(qqX v).ev) v:=qaa _
def qG4:qbi:=LE (τ:=qew) (hD qFS) (qtb) q1g
theorem q0b:Go.Eng.Told IP (qab F11 0).1 (qab F11 0).2 (qG4):=qaj (inferInstance:Inhabited qew) (hs:=qFS) (st:=qqX) (L:=[(1001101,qG5)]) qp8 (qae (l:=[qab F11 1]) (by kernel_rfl) ⟨qal (by kernel_rfl) q0c,trivial⟩) (qtc) (fun v=>by kernel_rfl) (fun v=>by kernel_rfl)
end
end Go.Proofs.H53z
namespace Go.Proofs.H53z
open Go Go.Eng
set_option maxRecDepth 100000
noncomputable section
abbrev qQM:Type:=Int
def qSy:PArgs:=⟨[.agg [.int .i64,.view 3,.view 3]],[]⟩
def qS2:List PRes:=[⟨false,.int .i64,[]⟩]
def qrS (x0:Int) (x1 x2:List AV):DT qQM:=
 .bi (br (decide ((x1.length:Int) > 64)) (some true) (some (decide ((x2.length:Int) > 64)))) (fun y0=>
 .br (y0)
 (.at (5))
 (.bi (br (decide (x0 < 0)) (some true) (some (decide (x0 > 1000000000000)))) (fun y1=>
 .br (y1)
 (.at (1))
 (.bi (qsT x1) (fun y2=>
 .br (y2 != 0)
 (.at (y2))
 (.bi (qsU x0 x1 x2) (fun y3=>
 .br (y3 != 0)
 (.at (y3))
 (.bi (pj 0 (qtb (x1,(x1.length:Int),0,x0,x1,x2))) (fun y4=>
 .at (25))
 (.bi (pj 1 (qtb (x1,(x1.length:Int),0,x0,x1,x2))) (fun y4=>
 .at (0))
 (.no))))
 (.no)))
 (.no)))
 (.no)))
 (.no)
def qjx (x0:Int) (x1 x2:List AV):Option qQM:=qaC (qrS x0 x1 x2).ev
theorem qFs (x0 x1 x2):qjx x0 x1 x2 = (qrS x0 x1 x2).ev:=qaa _
theorem qYf:FH IP 11 qSy qS2 (k3 qjx):=qam (F:=F11) (L:=[(1001100,qG4)]) (t:=(k3 qrS)) qp8 (qae (l:=[qab F11 0,qab F11 1]) (by kernel_rfl) ⟨qal (by kernel_rfl) q0b,qu9 (by kernel_rfl),trivial⟩) (by kernel_rfl) (fun v=>by kernel_rfl) (fun _=>qaa _)
def q5X:Tab:=(11,FE qSy qS2 (k3 qjx)) :: q5W
theorem qD5:qau IP q5X:=⟨qay qYf,qp8⟩
abbrev qXH:Type:=Bool
def qVx:PArgs:=⟨[.agg [.view 2,.view 3,.view 4,.int .i64,.int .i64,.int .i64,.int .i64,.int .i64,.int .i64,.int .i64,.int .i64,.int .i64,.int .i64,.int .i64,.int .i64,.int .i64,.int .i64,.view 19,.view 7,.view 10,.view 6,.view 7],.int .i64,.int .i64],[]⟩
def qZT:List PRes:=[⟨false,.bool,[]⟩]
def qz1 (x0 x1 x2:List AV) (x3 x4:Int) (x5 x6:Int) (x7 x8:Int) (x9 x10:Int) (x11 x12:Int) (x13 x14:Int) (x15 x16:Int) (x17 x18:List AV) (x19 x20 x21:List AV) (x22 x23:Int):DT qXH:=
 .bi (qg8 x0 x1 x2 x3 x4 x5 x6 x7 x8 x9 x10 x11 x12 x13 x14 x15 x16 x17 x18 x19 x20 x21) (fun y0=>
 .bi (br (!y0) (some true)
 (br (sm (qd9 x0 x1 x2 x3 x4 x5 x6 x7 x8 x9 x10 x11 x12 x13 x14 x15 x16 x17 x18 x19 x20 x21))
 (some !gv (qd9 x0 x1 x2 x3 x4 x5 x6 x7 x8 x9 x10 x11 x12 x13 x14 x15 x16 x17 x18 x19 x20 x21)) none)) (fun y1=>
 .br (y1)
 (.at (true))
 (.bi (qoE x0 x1 x2 x3 x4 x5 x6 x7 x8 x9 x10 x11 x12 x13 x14 x15 x16 x17 x18 x19 x20 x21 x22 x23) (fun y2=>
 .bi (ql5 x0 x1 x2 x3 x4 x5 x6 x7 x8 x9 x10 x11 x12 x13 x14 x15 x16 x17 x18 x19 x20 x21 x22 x23) (fun y3=>
 .bi (qmk y2.1 y2.2.1 y2.2.2 y3.1 y3.2.1 y3.2.2) (fun y4=>
 .br (!y4)
 (.at (false))
 (.bi (br (decide (x23 < 0)) (some true) (some (decide (x23 > 1000000000000)))) (fun y5=>
 .bi (br y5 (some true) (br (sm (qjx y2.1 y2.2.1 y2.2.2)) (some (gv (qjx y2.1 y2.2.1 y2.2.2) == 0)) none)) (fun y6=>
 .bi (br y6 (some true) (some false)) (fun y7=>
 .at (y7))
 (.no))
 (.no))
 (.no)))
 (.no))
 (.no))
 (.no)))
 (.no))
 (.no)
def qNw (x0 x1 x2:List AV) (x3 x4:Int) (x5 x6:Int) (x7 x8:Int) (x9 x10:Int) (x11 x12:Int) (x13 x14:Int) (x15 x16:Int) (x17 x18:List AV) (x19 x20 x21:List AV) (x22 x23:Int):Option qXH:=qaC (qz1 x0 x1 x2 x3 x4 x5 x6 x7 x8 x9 x10 x11 x12 x13 x14 x15 x16 x17 x18 x19 x20 x21 x22 x23).ev
theorem qNx (x0 x1 x2 x3 x4 x5 x6 x7 x8 x9 x10 x11 x12 x13 x14 x15 x16 x17 x18 x19 x20 x21 x22 x23):qNw x0 x1 x2 x3 x4 x5 x6 x7 x8 x9 x10 x11 x12 x13 x14 x15 x16 x17 x18 x19 x20 x21 x22 x23 = (qz1 x0 x1 x2 x3 x4 x5 x6 x7 x8 x9 x10 x11 x12 x13 x14 x15 x16 x17 x18 x19 x20 x21 x22 x23).ev:=qaa _
theorem qYs:FH IP 3 qVx qZT (k24 qNw):=fh F3 (k24 qz1) qD5
def q5Y:Tab:=(3,FE qVx qZT (k24 qNw)) :: q5X
theorem qwk:qau IP q5Y:=⟨qay qYs,qD5⟩
abbrev qhL:Type:=Int × Int × Int × List AV × List AV × List AV × Int × Int × Int × Int × Int × Int × Int × Int × Int × Int × Int × Int × Int × Int × List AV × List AV × List AV × List AV × List AV × Int × List AV × List AV
def qR3:List PSt:=[⟨[(1000400,.junk),(1,.int .i64),(3,.ref 0 0 0),(7,.ref 1 0 0),(8,.int .i64),(9,.int .i64)],[(0,.box [.view 2,.view 3,.view 4,.int .i64,.int .i64,.int .i64,.int .i64,.int .i64,.int .i64,.int .i64,.int .i64,.int .i64,.int .i64,.int .i64,.int .i64,.int .i64,.int .i64,.view 19,.view 7,.view 10,.view 6,.view 7] false),(1,.box [.int .i64,.view 3,.view 3] false)],2,0⟩]
def qWM (x0 x1 x2:Int) (x3 x4 x5:List AV) (x6 x7:Int) (x8 x9:Int) (x10 x11:Int) (x12 x13:Int) (x14 x15:Int) (x16 x17:Int) (x18 x19:Int) (x20 x21:List AV) (x22 x23 x24:List AV) (x25:Int) (x26 x27:List AV):X × St:=(.ret,
 ⟨[(6,.bool false),(7,.ref 0 0 0),(8,.int .i64 x1)],[(0,.box [.int .i64 x25,.view 3 x26,.view 3 x27] false)],1,0⟩)
def qWN (x0 x1 x2:Int) (x3 x4 x5:List AV) (x6 x7:Int) (x8 x9:Int) (x10 x11:Int) (x12 x13:Int) (x14 x15:Int) (x16 x17:Int) (x18 x19:Int) (x20 x21:List AV) (x22 x23 x24:List AV) (x25:Int) (x26 x27:List AV):X × St:=(.exit 0,
 ⟨[(6,.junk),(7,.ref 0 0 0),(8,.int .i64 x1)],[(0,.box [.int .i64 x25,.view 3 x26,.view 3 x27] false)],1,0⟩)
def q5I:List (qhL -> X × St):=[(k28 qWM),(k28 qWN)]
def qOl (x0 x1 x2:Int) (x3 x4 x5:List AV) (x6 x7:Int) (x8 x9:Int) (x10 x11:Int) (x12 x13:Int) (x14 x15:Int) (x16 x17:Int) (x18 x19:Int) (x20 x21:List AV) (x22 x23 x24:List AV) (x25:Int) (x26 x27:List AV):DT (Rd qhL):=
 .br (decide (x2 < (x21.length:Int)))
 (.br (qaw [.int .i64,.int .i64,.int .i64,.int .i64,.str,.str,.str] x21 x2)
 (.bi (qd8 x3 x4 x5 x6 x7 x8 x9 x10 x11 x12 x13 x14 x15 x16 x17 x18 x19 x20 x21 x22 x23 x24 (intOf (cellAt x21 x2 0)) x0) (fun y0=>
 .br (y0)
 (.br (decide (x1 >= (x26.length:Int)))
 (.at (.done 0))
 (.br (qaw [.int .i64,.int .i64,.int .i64] x26 x1)
 (.br (qaw [.int .i64,.int .i64,.int .i64,.int .i64,.str,.str,.str] x21 x2)
 (.br (intOf (cellAt x26 x1 0) != intOf (cellAt x21 x2 0))
 (.at (.done 0))
 (.br (qaw [.int .i64,.int .i64,.int .i64] x26 x1)
 (.br (intOf (cellAt x26 x1 2) != 0)
 (.at (.done 0))
 (.br (qaw [.int .i64,.int .i64,.int .i64] x26 x1)
 (.br (decide (intOf (cellAt x26 x1 1) < 0))
 (.at (.done 0))
 (.at (.next ((x0,IntKind.i64.wrap (x1 + 1),IntKind.i64.wrap (x2 + 1),x3,x4,x5,x6,x7,x8,x9,x10,x11,x12,x13,x14,x15,x16,x17,x18,x19,x20,x21,x22,x23,x24,x25,x26,x27)))))
 (.no)))
 (.no)))
 (.no))
 (.no)))
 (.at (.next ((x0,x1,IntKind.i64.wrap (x2 + 1),x3,x4,x5,x6,x7,x8,x9,x10,x11,x12,x13,x14,x15,x16,x17,x18,x19,x20,x21,x22,x23,x24,x25,x26,x27)))))
 (.no))
 (.no))
 (.at (.done 1))
def qzX:qhL -> DT (Rd qhL):=(fun v=>qOl v.1 v.2.1 v.2.2.1 v.2.2.2.1 v.2.2.2.2.1 v.2.2.2.2.2.1 v.2.2.2.2.2.2.1 v.2.2.2.2.2.2.2.1 v.2.2.2.2.2.2.2.2.1 v.2.2.2.2.2.2.2.2.2.1 v.2.2.2.2.2.2.2.2.2.2.1 v.2.2.2.2.2.2.2.2.2.2.2.1 v.2.2.2.2.2.2.2.2.2.2.2.2.1 v.2.2.2.2.2.2.2.2.2.2.2.2.2.1 v.2.2.2.2.2.2.2.2.2.2.2.2.2.2.1 v.2.2.2.2.2.2.2.2.2.2.2.2.2.2.2.1 v.2.2.2.2.2.2.2.2.2.2.2.2.2.2.2.2.1 v.2.2.2.2.2.2.2.2.2.2.2.2.2.2.2.2.2.1 v.2.2.2.2.2.2.2.2.2.2.2.2.2.2.2.2.2.2.1 v.2.2.2.2.2.2.2.2.2.2.2.2.2.2.2.2.2.2.2.1 v.2.2.2.2.2.2.2.2.2.2.2.2.2.2.2.2.2.2.2.2.1 v.2.2.2.2.2.2.2.2.2.2.2.2.2.2.2.2.2.2.2.2.2.1 v.2.2.2.2.2.2.2.2.2.2.2.2.2.2.2.2.2.2.2.2.2.2.1 v.2.2.2.2.2.2.2.2.2.2.2.2.2.2.2.2.2.2.2.2.2.2.2.1 v.2.2.2.2.2.2.2.2.2.2.2.2.2.2.2.2.2.2.2.2.2.2.2.2.1 v.2.2.2.2.2.2.2.2.2.2.2.2.2.2.2.2.2.2.2.2.2.2.2.2.2.1 v.2.2.2.2.2.2.2.2.2.2.2.2.2.2.2.2.2.2.2.2.2.2.2.2.2.2.1 v.2.2.2.2.2.2.2.2.2.2.2.2.2.2.2.2.2.2.2.2.2.2.2.2.2.2.2)
def qGX (v:qhL):Option (Nat × qhL):=qaC (qah (fun v=>(qzX v).ev) v)
theorem qza (v):qGX v = qah (fun v=>(qzX v).ev) v:=qaa _
def qSc:qbi:=LE (τ:=qhL) (hD qR3) (qGX) q5I
theorem q5x:Go.Eng.Told IP (qab F4 0).1 (qab F4 0).2 (qSc):=lp (inferInstance:Inhabited qhL) (hs:=qR3) qzX qwk qza
abbrev qQA:Type:=Bool
def qIQ:PArgs:=⟨[.agg [.view 2,.view 3,.view 4,.int .i64,.int .i64,.int .i64,.int .i64,.int .i64,.int .i64,.int .i64,.int .i64,.int .i64,.int .i64,.int .i64,.int .i64,.int .i64,.int .i64,.view 19,.view 7,.view 10,.view 6,.view 7],.int .i64,.int .i64],[]⟩
def qSQ:List PRes:=[⟨false,.bool,[]⟩]
def qrE (x0 x1 x2:List AV) (x3 x4:Int) (x5 x6:Int) (x7 x8:Int) (x9 x10:Int) (x11 x12:Int) (x13 x14:Int) (x15 x16:Int) (x17 x18:List AV) (x19 x20 x21:List AV) (x22 x23:Int):DT qQA:=
 .bi (qg8 x0 x1 x2 x3 x4 x5 x6 x7 x8 x9 x10 x11 x12 x13 x14 x15 x16 x17 x18 x19 x20 x21) (fun y0=>
 .bi (br (!y0) (some true)
 (br (sm (qd9 x0 x1 x2 x3 x4 x5 x6 x7 x8 x9 x10 x11 x12 x13 x14 x15 x16 x17 x18 x19 x20 x21))
 (some !gv (qd9 x0 x1 x2 x3 x4 x5 x6 x7 x8 x9 x10 x11 x12 x13 x14 x15 x16 x17 x18 x19 x20 x21)) none)) (fun y1=>
 .br (y1)
 (.at (true))
 (.bi (qoE x0 x1 x2 x3 x4 x5 x6 x7 x8 x9 x10 x11 x12 x13 x14 x15 x16 x17 x18 x19 x20 x21 x22 x23) (fun y2=>
 .bi (pj 0 (qGX (x22,0,0,x0,x1,x2,x3,x4,x5,x6,x7,x8,x9,x10,x11,x12,x13,x14,x15,x16,x17,x18,x19,x20,x21,y2.1,y2.2.1,y2.2.2))) (fun y3=>
 .at (false))
 (.bi (pj 1 (qGX (x22,0,0,x0,x1,x2,x3,x4,x5,x6,x7,x8,x9,x10,x11,x12,x13,x14,x15,x16,x17,x18,x19,x20,x21,y2.1,y2.2.1,y2.2.2))) (fun y3=>
 .bi (br (y3.2.1 == (y3.2.2.2.2.2.2.2.2.2.2.2.2.2.2.2.2.2.2.2.2.2.2.2.2.2.2.1.length:Int))
 (some ((y3.2.2.2.2.2.2.2.2.2.2.2.2.2.2.2.2.2.2.2.2.2.2.2.2.2.2.2.length:Int) == 0)) (some false)) (fun y4=>
 .bi (br y4 (some true) (some false)) (fun y5=>
 .at (y5))
 (.no))
 (.no))
 (.no)))
 (.no)))
 (.no))
 (.no)
def qyl (x0 x1 x2:List AV) (x3 x4:Int) (x5 x6:Int) (x7 x8:Int) (x9 x10:Int) (x11 x12:Int) (x13 x14:Int) (x15 x16:Int) (x17 x18:List AV) (x19 x20 x21:List AV) (x22 x23:Int):Option qQA:=qaC (qrE x0 x1 x2 x3 x4 x5 x6 x7 x8 x9 x10 x11 x12 x13 x14 x15 x16 x17 x18 x19 x20 x21 x22 x23).ev
theorem qFi (x0 x1 x2 x3 x4 x5 x6 x7 x8 x9 x10 x11 x12 x13 x14 x15 x16 x17 x18 x19 x20 x21 x22 x23):qyl x0 x1 x2 x3 x4 x5 x6 x7 x8 x9 x10 x11 x12 x13 x14 x15 x16 x17 x18 x19 x20 x21 x22 x23 = (qrE x0 x1 x2 x3 x4 x5 x6 x7 x8 x9 x10 x11 x12 x13 x14 x15 x16 x17 x18 x19 x20 x21 x22 x23).ev:=qaa _
theorem qRN:FH IP 4 qIQ qSQ (k24 qyl):=qam (F:=F4) (L:=[(1000400,qSc)]) (t:=(k24 qrE)) qwk (qae (l:=[qab F4 0]) (by kernel_rfl) ⟨qal (by kernel_rfl) q5x,trivial⟩) (by kernel_rfl) (fun v=>by kernel_rfl) (fun _=>qaa _)
end
end Go.Proofs.H53z

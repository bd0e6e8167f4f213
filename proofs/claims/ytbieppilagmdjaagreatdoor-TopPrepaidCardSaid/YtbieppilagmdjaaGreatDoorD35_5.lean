/- Functions over plain data. Printed by a program of mine. -/
import Derived.Test.YtbieppilagmdjaaGreatDoorD35_3
import Derived.KernelRfl
set_option linter.unusedVariables false
set_option linter.unusedSimpArgs false
set_option linter.unnecessarySimpa false
namespace Go.Proofs.H35
open Go Go.Eng
set_option maxRecDepth 100000
noncomputable section
abbrev qPB:Type:=Bool
def qS6:PArgs:=⟨[.view 4,.fn (.func 90) []],[]⟩
def qTm:List PRes:=[⟨false,.bool,[]⟩]
def qv4 (x0:List AV):DT qPB:=
 .bi (quJ x0) (fun y0=>
 .at (decide (y0 >= 0)))
 (.no)
def qAR (x0:List AV):Option qPB:=qaK (qv4 x0).ev
theorem qFF (x0):qAR x0 = (qv4 x0).ev:=qaa _
theorem qWc:FH IP 89 qS6 qTm qAR:=fh F89 qv4 qJj
def T69:Tab:=(89,FE qS6 qTm qAR) :: T68
theorem qJk:qap IP T69:=⟨qas qWc,qJj⟩
abbrev qID:Type:=Bool
def qLo:PArgs:=⟨[.agg [.int .i64,.int .i64,.int .i64,.int .i64,.int .i64,.int .i64,.int .i64,.int .i64,.int .i64,.int .i64,.int .i64,.int .i64,.int .i64,.int .i64,.int .i64,.int .i64,.int .i64,.int .i64,.int .i64,.int .i64,.int .i64,.str,.str,.view 4,.view 14]],[]⟩
def qMr:List PRes:=[⟨false,.bool,[]⟩]
def qpc (x0 x1:Int) (x2 x3:Int) (x4 x5:Int) (x6 x7:Int) (x8 x9:Int) (x10 x11:Int) (x12 x13:Int) (x14 x15:Int) (x16 x17:Int) (x18 x19 x20:Int) (x21 x22:List UInt8) (x23 x24:List AV):DT qID:=
 .bi (br (decide (x0 < 1)) (some true) (some (decide (x1 < 1000)))) (fun y0=>
 .bi (br y0 (some true) (some (decide (x2 < 1)))) (fun y1=>
 .bi (br y1 (some true) (some (decide (x2 > 3)))) (fun y2=>
 .br (y2)
 (.at (false))
 (.bi (br (decide (x3 < 0)) (some true) (some (decide (x4 < 0)))) (fun y3=>
 .bi (br y3 (some true) (some (decide (x10 < 0)))) (fun y4=>
 .bi (br y4 (some true) (br (sm (qgs x7)) (some !gv (qgs x7)) none)) (fun y5=>
 .br (y5)
 (.at (false))
 (.bi (qgr x19) (fun y6=>
 .bi (br (!y6) (some true) (br (sm (qgr x20)) (some !gv (qgr x20)) none)) (fun y7=>
 .br (y7)
 (.at (false))
 (.bi (br (decide ((x23.length:Int) < 1)) (some true) (some (decide ((x23.length:Int) > 240)))) (fun y8=>
 .bi (br y8 (some true) (some (decide ((x24.length:Int) > 64)))) (fun y9=>
 .br (y9)
 (.at (false))
 (.bi (pj 0 (qks (x5,x6,x8,x9,0,x0,x1,x2,x3,x4,x5,x6,x7,x8,x9,x10,x11,x12,x13,x14,x15,x16,x17,x18,x19,x20,x21,x22,x23,x24))) (fun y10=>
 .at (false))
 (.bi (pj 1 (qks (x5,x6,x8,x9,0,x0,x1,x2,x3,x4,x5,x6,x7,x8,x9,x10,x11,x12,x13,x14,x15,x16,x17,x18,x19,x20,x21,x22,x23,x24))) (fun y10=>
 .bi (qAR y10.2.2.2.2.2.2.2.2.2.2.2.2.2.2.2.2.2.2.2.2.2.2.2.2.2.2.2.2.1) (fun y11=>
 .at (!y11))
 (.no))
 (.no))))
 (.no))
 (.no)))
 (.no))
 (.no)))
 (.no))
 (.no))
 (.no)))
 (.no))
 (.no))
 (.no)
def qqe (x0 x1:Int) (x2 x3:Int) (x4 x5:Int) (x6 x7:Int) (x8 x9:Int) (x10 x11:Int) (x12 x13:Int) (x14 x15:Int) (x16 x17:Int) (x18 x19 x20:Int) (x21 x22:List UInt8) (x23 x24:List AV):Option qID:=qaK (qpc x0 x1 x2 x3 x4 x5 x6 x7 x8 x9 x10 x11 x12 x13 x14 x15 x16 x17 x18 x19 x20 x21 x22 x23 x24).ev
theorem qAU (x0 x1 x2 x3 x4 x5 x6 x7 x8 x9 x10 x11 x12 x13 x14 x15 x16 x17 x18 x19 x20 x21 x22 x23 x24):qqe x0 x1 x2 x3 x4 x5 x6 x7 x8 x9 x10 x11 x12 x13 x14 x15 x16 x17 x18 x19 x20 x21 x22 x23 x24 = (qpc x0 x1 x2 x3 x4 x5 x6 x7 x8 x9 x10 x11 x12 x13 x14 x15 x16 x17 x18 x19 x20 x21 x22 x23 x24).ev:=qaa _
theorem qRP:FH IP 54 qLo qMr (k25 qqe):=qaj (F:=F54) (L:=[(1005400,qB2)]) (t:=(k25 qpc)) qJk (qaf (l:=[qai F54 0]) (by kernel_rfl) ⟨qaG (by kernel_rfl) qTX,trivial⟩) (by kernel_rfl) (fun v=>by kernel_rfl) (fun _=>qaa _)
def T70:Tab:=(54,FE qLo qMr (k25 qqe)) :: T69
theorem qy2:qap IP T70:=⟨qas qRP,qJk⟩
abbrev qet:Type:=List AV × List AV × Int × Int
def qBv:List PSt:=[⟨[(1005500,.junk),(0,.view 4),(5,.view 4),(6,.int .i64),(7,.int .i64)],[],0,0⟩]
def qHz (x0 x1:List AV) (x2 x3:Int):X × St:=(.ret,⟨[(2,.bool false)],[],0,0⟩)
def qHA (x0 x1:List AV) (x2 x3:Int):X × St:=(.exit 0,⟨[(2,.junk)],[],0,0⟩)
def qUB:List (qet -> X × St):=[(k4 qHz),(k4 qHA)]
def qrO (x0 x1:List AV) (x2 x3:Int):DT (Rd qet):=
 .br (decide (x3 < x2))
 (.br (qcO [.int .i64,.int .i64,.int .i64,.int .i64] x1 x3)
 (.br (intOf (cellAt x1 x3 0) != IntKind.i64.wrap (x3 + 1))
 (.at (.done 0))
 (.br (decide (x3 > 0))
 (.br (qcO [.int .i64,.int .i64,.int .i64,.int .i64] x0 (IntKind.i64.wrap (x3 - 1)))
 (.br (decide (intOf (cellAt x1 x3 1) < intOf (cellAt x0 (IntKind.i64.wrap (x3 - 1)) 1))) (.at (.done 0)) (.at (.next ((x0,x1,x2,IntKind.i64.wrap (x3 + 1))))))
 (.no))
 (.at (.next ((x0,x1,x2,IntKind.i64.wrap (x3 + 1)))))))
 (.no))
 (.at (.done 1))
def qog:qet -> DT (Rd qet):=(fun v=>qrO v.1 v.2.1 v.2.2.1 v.2.2.2)
def qqV (v:qet):Option (Nat × qet):=qaK (qat (fun v=>(qog v).ev) v)
theorem qqW (v):qqV v = qat (fun v=>(qog v).ev) v:=qaa _
def qB3:qdC:=LE (τ:=qet) (hD qBv) (qqV) qUB
theorem qTY:Go.Eng.Told IP (qai F55 0).1 (qai F55 0).2 (qB3):=lp (inferInstance:Inhabited qet) (hs:=qBv) qog qy2 qqW
abbrev qIE:Type:=Bool
def qLp:PArgs:=⟨[.view 4],[]⟩
def qMs:List PRes:=[⟨false,.bool,[]⟩]
def qpd (x0:List AV):DT qIE:=
 .bi (pj 0 (qqV (x0,x0,(x0.length:Int),0))) (fun y0=>
 .at (false))
 (.bi (pj 1 (qqV (x0,x0,(x0.length:Int),0))) (fun y0=>
 .at (true))
 (.no))
def qqf (x0:List AV):Option qIE:=qaK (qpd x0).ev
theorem qAV (x0):qqf x0 = (qpd x0).ev:=qaa _
theorem qRQ:FH IP 55 qLp qMs qqf:=qaj (F:=F55) (L:=[(1005500,qB3)]) (t:=qpd) qy2 (qaf (l:=[qai F55 0]) (by kernel_rfl) ⟨qaG (by kernel_rfl) qTY,trivial⟩) (by kernel_rfl) (fun v=>by kernel_rfl) (fun _=>qaa _)
def T71:Tab:=(55,FE qLp qMs qqf) :: T70
theorem qy3:qap IP T71:=⟨qas qRQ,qy2⟩
abbrev qcS:Type:=Int × Int × List AV × Int × Int
def quV:List PSt:=[⟨[(1003100,.junk),(4,.int .i64),(5,.int .i64),(8,.view 4),(9,.int .i64),(10,.int .i64)],[],0,0⟩]
def qEU (x0 x1:Int) (x2:List AV) (x3 x4:Int):X × St:=(.exit 0,⟨[(4,.int .i64 x0),(5,.int .i64 x1)],[],0,0⟩)
def qOX:List (qcS -> X × St):=[(k5 qEU)]
def qec (x0 x1:Int) (x2:List AV) (x3 x4:Int):DT (Rd qcS):=
 .br (decide (x4 < x3))
 (.br (qcO [.int .i64,.int .i64,.int .i64,.int .i64] x2 x4)
 (.at (.next ((IntKind.i64.wrap (x0 + intOf (cellAt x2 x4 2)),IntKind.i64.wrap (x1 + intOf (cellAt x2 x4 3)),x2,x3,IntKind.i64.wrap (x4 + 1)))))
 (.no))
 (.at (.done 0))
def qi3:qcS -> DT (Rd qcS):=(fun v=>qec v.1 v.2.1 v.2.2.1 v.2.2.2.1 v.2.2.2.2)
def qnv (v:qcS):Option (Nat × qcS):=qaK (qat (fun v=>(qi3 v).ev) v)
theorem qmu (v):qnv v = qat (fun v=>(qi3 v).ev) v:=qaa _
def qvp:qdC:=LE (τ:=qcS) (hD quV) (qnv) qOX
theorem qOF:Go.Eng.Told IP (qai F31 0).1 (qai F31 0).2 (qvp):=lp (inferInstance:Inhabited qcS) (hs:=quV) qi3 qy3 qmu
abbrev qx5:Type:=Int × Int
def qC4:PArgs:=⟨[.view 4],[]⟩
def qDP:List PRes:=[⟨false,.tup [.int .i64,.int .i64],[]⟩]
def qjo (x0:List AV):DT qx5:=
 .bi (pj 0 (qnv (0,0,x0,(x0.length:Int),0))) (fun y0=>
 .at ((y0.1,y0.2.1)))
 (.no)
def qfd (x0:List AV):Option qx5:=qaK (qjo x0).ev
theorem qwM (x0):qfd x0 = (qjo x0).ev:=qaa _
theorem qNa:FH IP 31 qC4 qDP qfd:=qaj (F:=F31) (L:=[(1003100,qvp)]) (t:=qjo) qy3 (qaf (l:=[qai F31 0]) (by kernel_rfl) ⟨qaG (by kernel_rfl) qOF,trivial⟩) (by kernel_rfl) (fun v=>by kernel_rfl) (fun _=>qaa _)
def T72:Tab:=(31,FE qC4 qDP qfd) :: T71
theorem qJl:qap IP T72:=⟨qas qNa,qy3⟩
abbrev qxZ:Type:=Bool
def qnJ:PArgs:=⟨[.agg [.int .i64,.int .i64,.int .i64,.int .i64,.int .i64,.int .i64,.int .i64,.int .i64,.int .i64,.int .i64,.int .i64,.int .i64,.int .i64,.int .i64,.int .i64,.int .i64,.int .i64,.int .i64,.int .i64,.int .i64,.int .i64,.str,.str,.view 4,.view 14]],[]⟩
def qs5:List PRes:=[⟨false,.bool,[]⟩]
def qjm (x0 x1:Int) (x2 x3:Int) (x4 x5:Int) (x6 x7:Int) (x8 x9:Int) (x10 x11:Int) (x12 x13:Int) (x14 x15:Int) (x16 x17:Int) (x18 x19 x20:Int) (x21 x22:List UInt8) (x23 x24:List AV):DT qxZ:=
 .bi (qfd x23) (fun y0=>
 .bi (br (x3 != y0.1) (some true) (some (x4 != y0.2))) (fun y1=>
 .bi (br y1 (some true) (some (x5 != 0))) (fun y2=>
 .bi (br y2 (some true) (some (x6 != 0))) (fun y3=>
 .at (y3))
 (.no))
 (.no))
 (.no))
 (.no)
def qfc (x0 x1:Int) (x2 x3:Int) (x4 x5:Int) (x6 x7:Int) (x8 x9:Int) (x10 x11:Int) (x12 x13:Int) (x14 x15:Int) (x16 x17:Int) (x18 x19 x20:Int) (x21 x22:List UInt8) (x23 x24:List AV):Option qxZ:=qaK (qjm x0 x1 x2 x3 x4 x5 x6 x7 x8 x9 x10 x11 x12 x13 x14 x15 x16 x17 x18 x19 x20 x21 x22 x23 x24).ev
theorem qwK (x0 x1 x2 x3 x4 x5 x6 x7 x8 x9 x10 x11 x12 x13 x14 x15 x16 x17 x18 x19 x20 x21 x22 x23 x24):qfc x0 x1 x2 x3 x4 x5 x6 x7 x8 x9 x10 x11 x12 x13 x14 x15 x16 x17 x18 x19 x20 x21 x22 x23 x24 = (qjm x0 x1 x2 x3 x4 x5 x6 x7 x8 x9 x10 x11 x12 x13 x14 x15 x16 x17 x18 x19 x20 x21 x22 x23 x24).ev:=qaa _
theorem qzq:FH IP 22 qnJ qs5 (k25 qfc):=fh F22 (k25 qjm) qJl
def T73:Tab:=(22,FE qnJ qs5 (k25 qfc)) :: T72
theorem qJm:qap IP T73:=⟨qas qzq,qJl⟩
abbrev qxR:Type:=Int
def qnI:PArgs:=⟨[.agg [.int .i64,.int .i64,.int .i64,.int .i64,.int .i64,.int .i64,.int .i64,.int .i64,.int .i64,.int .i64,.int .i64,.int .i64,.int .i64,.int .i64,.int .i64,.int .i64,.int .i64,.int .i64,.int .i64,.int .i64,.int .i64,.str,.str,.view 4,.view 14]],[]⟩
def qs4:List PRes:=[⟨false,.int .i64,[]⟩]
def qjf (x0 x1:Int) (x2 x3:Int) (x4 x5:Int) (x6 x7:Int) (x8 x9:Int) (x10 x11:Int) (x12 x13:Int) (x14 x15:Int) (x16 x17:Int) (x18 x19 x20:Int) (x21 x22:List UInt8) (x23 x24:List AV):DT qxR:=
 .bi (qqe x0 x1 x2 x3 x4 x5 x6 x7 x8 x9 x10 x11 x12 x13 x14 x15 x16 x17 x18 x19 x20 x21 x22 x23 x24) (fun y0=>
 .br (!y0)
 (.at (1))
 (.bi (qqf x23) (fun y1=>
 .br (!y1)
 (.at (10))
 (.bi (qfd x23) (fun y2=>
 .bi (br (decide (x3 > y2.1)) (some true) (some (decide (x4 > y2.2)))) (fun y3=>
 .bi (br y3 (some true) (some (decide (x10 > x9)))) (fun y4=>
 .br (y4)
 (.at (25))
 (.bi (br ((x24.length:Int) == 0) (some (y2.1 != x12)) (some false)) (fun y5=>
 .br (y5)
 (.at (25))
 (.bi (br (x2 == 2)
 (br (sm (qfc x0 x1 x2 x3 x4 x5 x6 x7 x8 x9 x10 x11 x12 x13 x14 x15 x16 x17 x18 x19 x20 x21 x22 x23 x24))
 (some (gv (qfc x0 x1 x2 x3 x4 x5 x6 x7 x8 x9 x10 x11 x12 x13 x14 x15 x16 x17 x18 x19 x20 x21 x22 x23 x24))) none)
 (some false)) (fun y6=>
 .bi (br y6 (some true)
 (br (x2 == 1)
 (br (sm (qfc x0 x1 x2 x3 x4 x5 x6 x7 x8 x9 x10 x11 x12 x13 x14 x15 x16 x17 x18 x19 x20 x21 x22 x23 x24))
 (some !gv (qfc x0 x1 x2 x3 x4 x5 x6 x7 x8 x9 x10 x11 x12 x13 x14 x15 x16 x17 x18 x19 x20 x21 x22 x23 x24)) none)
 (some false))) (fun y7=>
 .br (y7)
 (.at (25))
 (.bi (br (x2 != 3) (br (x9 != 0) (some true) (some (x10 != 0))) (some false)) (fun y8=>
 .br (y8) (.at (25)) (.at (0)))
 (.no)))
 (.no))
 (.no)))
 (.no)))
 (.no))
 (.no))
 (.no)))
 (.no)))
 (.no)
def qjT (x0 x1:Int) (x2 x3:Int) (x4 x5:Int) (x6 x7:Int) (x8 x9:Int) (x10 x11:Int) (x12 x13:Int) (x14 x15:Int) (x16 x17:Int) (x18 x19 x20:Int) (x21 x22:List UInt8) (x23 x24:List AV):Option qxR:=qaK (qjf x0 x1 x2 x3 x4 x5 x6 x7 x8 x9 x10 x11 x12 x13 x14 x15 x16 x17 x18 x19 x20 x21 x22 x23 x24).ev
theorem qwD (x0 x1 x2 x3 x4 x5 x6 x7 x8 x9 x10 x11 x12 x13 x14 x15 x16 x17 x18 x19 x20 x21 x22 x23 x24):qjT x0 x1 x2 x3 x4 x5 x6 x7 x8 x9 x10 x11 x12 x13 x14 x15 x16 x17 x18 x19 x20 x21 x22 x23 x24 = (qjf x0 x1 x2 x3 x4 x5 x6 x7 x8 x9 x10 x11 x12 x13 x14 x15 x16 x17 x18 x19 x20 x21 x22 x23 x24).ev:=qaa _
theorem qzp:FH IP 18 qnI qs4 (k25 qjT):=fh F18 (k25 qjf) qJm
def T74:Tab:=(18,FE qnI qs4 (k25 qjT)) :: T73
theorem qy4:qap IP T74:=⟨qas qzp,qJm⟩
abbrev qdJ:Type:=(Int × List AV × Int × Int) ⊕ (Int × List AV × Int × Int × List AV)
def qBq:List PSt:=[⟨[(1009200,.junk),(1,.int .i64),(5,.nils 4),(8,.view 4),(9,.int .i64),(10,.int .i64)],[],0,0⟩,⟨[(1009200,.junk),(1,.int .i64),(5,.own 0 0),(8,.view 4),(9,.int .i64),(10,.int .i64)],[(0,.arr 4 false)],1,0⟩]
def qHm (x0:Int) (x1:List AV) (x2 x3:Int):X × St:=(.exit 0,⟨[(5,.nils ⟨4,.nil⟩)],[],0,0⟩)
def qHn (x0:Int) (x1:List AV) (x2 x3:Int) (x4:List AV):X × St:=(.exit 0,⟨[(5,.own 0 0 none)],[(0,.arr 4 x4 false)],1,0⟩)
def qUw:List (qdJ -> X × St):=[fun w=>(k4 qHm) ((sl w)),fun w=>(k5 qHn) ((sr w))]
def qkX (x0:Int) (x1:List AV) (x2 x3:Int):DT (Rd qdJ):=
 .br (decide (x3 < x2))
 (.br (qcO [.int .i64,.int .i64,.int .i64,.int .i64] x1 x3)
 (.br (decide (intOf (cellAt x1 x3 1) <= x0))
 (.at (.next ((.inr (x0,x1,x2,IntKind.i64.wrap (x3 + 1),[AV.agg
 [.int .i64 (intOf (cellAt x1 x3 0)),.int .i64 (intOf (cellAt x1 x3 1)),.int .i64 (intOf (cellAt x1 x3 2)),
 .int .i64 (intOf (cellAt x1 x3 3))]])))))
 (.at (.next ((.inl (x0,x1,x2,IntKind.i64.wrap (x3 + 1)))))))
 (.no))
 (.at (.done 0))
def qkY (x0:Int) (x1:List AV) (x2 x3:Int) (x4:List AV):DT (Rd qdJ):=
 .br (decide (x3 < x2))
 (.br (qcO [.int .i64,.int .i64,.int .i64,.int .i64] x1 x3)
 (.br (decide (intOf (cellAt x1 x3 1) <= x0))
 (.br (room (x4.length + 1) 32)
 (.at (.next ((.inr (x0,x1,x2,IntKind.i64.wrap (x3 + 1),x4 ++
 [AV.agg
 [.int .i64 (intOf (cellAt x1 x3 0)),.int .i64 (intOf (cellAt x1 x3 1)),.int .i64 (intOf (cellAt x1 x3 2)),
 .int .i64 (intOf (cellAt x1 x3 3))]])))))
 (.no))
 (.at (.next ((.inr (x0,x1,x2,IntKind.i64.wrap (x3 + 1),x4))))))
 (.no))
 (.at (.done 1))
def qtd:qdJ -> DT (Rd qdJ):=(Sum.elim (fun v=>qkX v.1 v.2.1 v.2.2.1 v.2.2.2) (fun v=>qkY v.1 v.2.1 v.2.2.1 v.2.2.2.1 v.2.2.2.2))
def qqO (v:qdJ):Option (Nat × qdJ):=qaK (qat (fun v=>(qtd v).ev) v)
theorem qqP (v):qqO v = qat (fun v=>(qtd v).ev) v:=qaa _
def qBY:qdC:=LE (τ:=qdJ) (hD qBq) (qqO) qUw
theorem qTT:Go.Eng.Told IP (qai F92 0).1 (qai F92 0).2 (qBY):=qaF (inferInstance:Inhabited qdJ) (hs:=qBq) (st:=qtd) (L:=[]) qy4 (qaf (l:=[]) (by kernel_rfl) trivial) (qqP) (fun v=>match v with | (.inl v)=>by kernel_rfl | (.inr v)=>by kernel_rfl) (fun v=>match v with | (.inl v)=>by kernel_rfl | (.inr v)=>by kernel_rfl)
abbrev qIs:Type:=List AV
def qLd:PArgs:=⟨[.view 4,.int .i64],[]⟩
def qMg:List PRes:=[⟨false,.view 4,[]⟩]
def qo3 (x0:List AV) (x1:Int):DT qIs:=
 .bi (pj 0 (qqO (Sum.inl (x1,x0,(x0.length:Int),0)))) (fun y0=>
 .at ([]))
 (.bi (pj 1 (qqO (Sum.inl (x1,x0,(x0.length:Int),0)))) (fun y0=>
 .at ((sr y0).2.2.2.2))
 (.no))
def qp7 (x0:List AV) (x1:Int):Option qIs:=qaK (qo3 x0 x1).ev
theorem qAK (x0 x1):qp7 x0 x1 = (qo3 x0 x1).ev:=qaa _
theorem qRE:FH IP 92 qLd qMg (k2 qp7):=qaj (F:=F92) (L:=[(1009200,qBY)]) (t:=(k2 qo3)) qy4 (qaf (l:=[qai F92 0]) (by kernel_rfl) ⟨qaG (by kernel_rfl) qTT,trivial⟩) (by kernel_rfl) (fun v=>by kernel_rfl) (fun _=>qaa _)
def T75:Tab:=(92,FE qLd qMg (k2 qp7)) :: T74
theorem qJn:qap IP T75:=⟨qas qRE,qy4⟩
abbrev qsa:Type:=Int × Int × Int × Int × Int × Int × Int × Int × Int × Int × Int × Int × Int × Int × Int × Int × Int × Int × Int × Int × Int × List UInt8 × List UInt8 × List AV × List AV × List AV × List AV × Int
def qCR:PArgs:=⟨[.agg [.int .i64,.int .i64,.int .i64,.int .i64,.int .i64,.int .i64,.int .i64,.int .i64,.int .i64,.int .i64,.int .i64,.int .i64,.int .i64,.int .i64,.int .i64,.int .i64,.int .i64,.int .i64,.int .i64,.int .i64,.int .i64,.str,.str,.view 4,.view 14],.int .i64],[]⟩
def qDC:List PRes:=[⟨false,.tup [.agg [.int .i64,.int .i64,.int .i64,.int .i64,.int .i64,.int .i64,.int .i64,.int .i64,.int .i64,.int .i64,.int .i64,.int .i64,.int .i64,.int .i64,.int .i64,.int .i64,.int .i64,.int .i64,.int .i64,.int .i64,.int .i64,.str,.str,.view 4,.view 14,.view 4,.view 4],.int .i64],[]⟩]
def qjb (x0 x1:Int) (x2 x3:Int) (x4 x5:Int) (x6 x7:Int) (x8 x9:Int) (x10 x11:Int) (x12 x13:Int) (x14 x15:Int) (x16 x17:Int) (x18 x19 x20:Int) (x21 x22:List UInt8) (x23 x24:List AV) (x25:Int):DT qsa:=
 .bi (qjT x0 x1 x2 x3 x4 x5 x6 x7 x8 x9 x10 x11 x12 x13 x14 x15 x16 x17 x18 x19 x20 x21 x22 x23 x24) (fun y0=>
 .bi (br (y0 != 0) (some true) (br (sm (qbj x25)) (some !gv (qbj x25)) none)) (fun y1=>
 .br (y1)
 (.at ((0,0,0,0,0,0,0,0,0,0,0,0,0,0,0,0,0,0,0,0,0,[],[],[],[],[],[],1)))
 (.bi (qp7 x23 x25) (fun y2=>
 .br (leB (y2.length:Int) x23.length && true)
 (.br (leB (y2.length:Int) x23.length)
 (.at ((x0,x1,x2,x3,x4,x5,x6,x7,x8,x9,x10,x11,x12,x13,x14,x15,x16,x17,x18,x19,x20,x21,x22,x23,x24,List.take (y2.length:Int).toNat x23,List.drop (y2.length:Int).toNat x23,0)))
 (.no))
 (.no))
 (.no)))
 (.no))
 (.no)
def qjS (x0 x1:Int) (x2 x3:Int) (x4 x5:Int) (x6 x7:Int) (x8 x9:Int) (x10 x11:Int) (x12 x13:Int) (x14 x15:Int) (x16 x17:Int) (x18 x19 x20:Int) (x21 x22:List UInt8) (x23 x24:List AV) (x25:Int):Option qsa:=qaK (qjb x0 x1 x2 x3 x4 x5 x6 x7 x8 x9 x10 x11 x12 x13 x14 x15 x16 x17 x18 x19 x20 x21 x22 x23 x24 x25).ev
theorem qwz (x0 x1 x2 x3 x4 x5 x6 x7 x8 x9 x10 x11 x12 x13 x14 x15 x16 x17 x18 x19 x20 x21 x22 x23 x24 x25):qjS x0 x1 x2 x3 x4 x5 x6 x7 x8 x9 x10 x11 x12 x13 x14 x15 x16 x17 x18 x19 x20 x21 x22 x23 x24 x25 = (qjb x0 x1 x2 x3 x4 x5 x6 x7 x8 x9 x10 x11 x12 x13 x14 x15 x16 x17 x18 x19 x20 x21 x22 x23 x24 x25).ev:=qaa _
theorem qMX:FH IP 58 qCR qDC (k26 qjS):=fh F58 (k26 qjb) qJn
def T76:Tab:=(58,FE qCR qDC (k26 qjS)) :: T75
theorem qy5:qap IP T76:=⟨qas qMX,qJn⟩
abbrev qeq:Type:=Int × Int × List AV × Int × Int
def qBp:List PSt:=[⟨[(1002800,.junk),(4,.int .i64),(5,.int .i64),(8,.view 4),(9,.int .i64),(10,.int .i64)],[],0,0⟩]
def qHl (x0 x1:Int) (x2:List AV) (x3 x4:Int):X × St:=(.exit 0,⟨[(4,.int .i64 x0),(5,.int .i64 x1)],[],0,0⟩)
def qUv:List (qeq -> X × St):=[(k5 qHl)]
def qfx (x0 x1:Int) (x2:List AV) (x3 x4:Int):DT (Rd qeq):=
 .br (decide (x4 < x3))
 (.br (qcO [.int .i64,.int .i64,.int .i64,.int .i64] x2 x4)
 (.at (.next ((IntKind.i64.wrap (x0 + intOf (cellAt x2 x4 2)),IntKind.i64.wrap (x1 + intOf (cellAt x2 x4 3)),x2,x3,IntKind.i64.wrap (x4 + 1)))))
 (.no))
 (.at (.done 0))
def qoe:qeq -> DT (Rd qeq):=(fun v=>qfx v.1 v.2.1 v.2.2.1 v.2.2.2.1 v.2.2.2.2)
def qvd (v:qeq):Option (Nat × qeq):=qaK (qat (fun v=>(qoe v).ev) v)
theorem qqN (v):qvd v = qat (fun v=>(qoe v).ev) v:=qaa _
def qBX:qdC:=LE (τ:=qeq) (hD qBp) (qvd) qUv
theorem qTS:Go.Eng.Told IP (qai F28 0).1 (qai F28 0).2 (qBX):=lp (inferInstance:Inhabited qeq) (hs:=qBp) qoe qy5 qqN
abbrev qIr:Type:=Int × Int
def qLc:PArgs:=⟨[.view 4],[]⟩
def qMf:List PRes:=[⟨false,.tup [.int .i64,.int .i64],[]⟩]
def qo2 (x0:List AV):DT qIr:=
 .bi (pj 0 (qvd (0,0,x0,(x0.length:Int),0))) (fun y0=>
 .at ((y0.1,y0.2.1)))
 (.no)
def qbI (x0:List AV):Option qIr:=qaK (qo2 x0).ev
theorem qAJ (x0):qbI x0 = (qo2 x0).ev:=qaa _
theorem qRD:FH IP 28 qLc qMf qbI:=qaj (F:=F28) (L:=[(1002800,qBX)]) (t:=qo2) qy5 (qaf (l:=[qai F28 0]) (by kernel_rfl) ⟨qaG (by kernel_rfl) qTS,trivial⟩) (by kernel_rfl) (fun v=>by kernel_rfl) (fun _=>qaa _)
def T77:Tab:=(28,FE qLc qMf qbI) :: T76
theorem qJo:qap IP T77:=⟨qas qRD,qy5⟩
abbrev qH5:Type:=Int
def qKP:PArgs:=⟨[.agg [.int .i64,.int .i64,.int .i64,.int .i64,.int .i64,.int .i64,.int .i64,.int .i64,.int .i64,.int .i64,.int .i64,.int .i64,.int .i64,.int .i64,.int .i64,.int .i64,.int .i64,.int .i64,.int .i64,.int .i64,.int .i64,.str,.str,.view 4,.view 14]],[]⟩
def qLS:List PRes:=[⟨false,.int .i64,[]⟩]
def qoK (x0 x1:Int) (x2 x3:Int) (x4 x5:Int) (x6 x7:Int) (x8 x9:Int) (x10 x11:Int) (x12 x13:Int) (x14 x15:Int) (x16 x17:Int) (x18 x19 x20:Int) (x21 x22:List UInt8) (x23 x24:List AV):DT qH5:=
 .bi (qfd x23) (fun y0=>
 .at (IntKind.i64.wrap (y0.1 - x3)))
 (.no)
def qis (x0 x1:Int) (x2 x3:Int) (x4 x5:Int) (x6 x7:Int) (x8 x9:Int) (x10 x11:Int) (x12 x13:Int) (x14 x15:Int) (x16 x17:Int) (x18 x19 x20:Int) (x21 x22:List UInt8) (x23 x24:List AV):Option qH5:=qaK (qoK x0 x1 x2 x3 x4 x5 x6 x7 x8 x9 x10 x11 x12 x13 x14 x15 x16 x17 x18 x19 x20 x21 x22 x23 x24).ev
theorem qAr (x0 x1 x2 x3 x4 x5 x6 x7 x8 x9 x10 x11 x12 x13 x14 x15 x16 x17 x18 x19 x20 x21 x22 x23 x24):qis x0 x1 x2 x3 x4 x5 x6 x7 x8 x9 x10 x11 x12 x13 x14 x15 x16 x17 x18 x19 x20 x21 x22 x23 x24 = (qoK x0 x1 x2 x3 x4 x5 x6 x7 x8 x9 x10 x11 x12 x13 x14 x15 x16 x17 x18 x19 x20 x21 x22 x23 x24).ev:=qaa _
theorem qRg:FH IP 11 qKP qLS (k25 qis):=fh F11 (k25 qoK) qJo
def T78:Tab:=(11,FE qKP qLS (k25 qis)) :: T77
theorem qJp:qap IP T78:=⟨qas qRg,qJo⟩
abbrev qH0:Type:=Int
def qKK:PArgs:=⟨[.agg [.int .i64,.int .i64,.int .i64,.int .i64,.int .i64,.int .i64,.int .i64,.int .i64,.int .i64,.int .i64,.int .i64,.int .i64,.int .i64,.int .i64,.int .i64,.int .i64,.int .i64,.int .i64,.int .i64,.int .i64,.int .i64,.str,.str,.view 4,.view 14,.view 4,.view 4]],[]⟩
def qLN:List PRes:=[⟨false,.int .i64,[]⟩]
def qoF (x0 x1:Int) (x2 x3:Int) (x4 x5:Int) (x6 x7:Int) (x8 x9:Int) (x10 x11:Int) (x12 x13:Int) (x14 x15:Int) (x16 x17:Int) (x18 x19 x20:Int) (x21 x22:List UInt8) (x23 x24:List AV) (x25 x26:List AV):DT qH0:=
 .bi (qbI x25) (fun y0=>
 .bi (qis x0 x1 x2 x3 x4 x5 x6 x7 x8 x9 x10 x11 x12 x13 x14 x15 x16 x17 x18 x19 x20 x21 x22 x23 x24) (fun y1=>
 .at (IntKind.i64.wrap (y1 - if IntKind.i64.wrap (y0.1 - x3) > 0 then IntKind.i64.wrap (y0.1 - x3) else 0)))
 (.no))
 (.no)
def ql7 (x0 x1:Int) (x2 x3:Int) (x4 x5:Int) (x6 x7:Int) (x8 x9:Int) (x10 x11:Int) (x12 x13:Int) (x14 x15:Int) (x16 x17:Int) (x18 x19 x20:Int) (x21 x22:List UInt8) (x23 x24:List AV) (x25 x26:List AV):Option qH0:=qaK (qoF x0 x1 x2 x3 x4 x5 x6 x7 x8 x9 x10 x11 x12 x13 x14 x15 x16 x17 x18 x19 x20 x21 x22 x23 x24 x25 x26).ev
theorem qAm (x0 x1 x2 x3 x4 x5 x6 x7 x8 x9 x10 x11 x12 x13 x14 x15 x16 x17 x18 x19 x20 x21 x22 x23 x24 x25 x26):ql7 x0 x1 x2 x3 x4 x5 x6 x7 x8 x9 x10 x11 x12 x13 x14 x15 x16 x17 x18 x19 x20 x21 x22 x23 x24 x25 x26 = (qoF x0 x1 x2 x3 x4 x5 x6 x7 x8 x9 x10 x11 x12 x13 x14 x15 x16 x17 x18 x19 x20 x21 x22 x23 x24 x25 x26).ev:=qaa _
theorem qRb:FH IP 59 qKK qLN (k27 ql7):=fh F59 (k27 qoF) qJp
def T79:Tab:=(59,FE qKK qLN (k27 ql7)) :: T78
theorem qJq:qap IP T79:=⟨qas qRb,qJp⟩
abbrev qxM:Type:=Bool
def qCP:PArgs:=⟨[.int .i64],[]⟩
def qDA:List PRes:=[⟨false,.bool,[]⟩]
def qja (x0:Int):DT qxM:=
 .bi (br (decide (x0 >= -1000000000000)) (some (decide (x0 <= 1000000000000))) (some false)) (fun y0=>
 .at (y0))
 (.no)
def qbL (x0:Int):Option qxM:=qaK (qja x0).ev
theorem qwy (x0):qbL x0 = (qja x0).ev:=qaa _
theorem qMV:FH IP 30 qCP qDA qbL:=fh F30 qja qJq
def T80:Tab:=(30,FE qCP qDA qbL) :: T79
theorem qJr:qap IP T80:=⟨qas qMV,qJq⟩
abbrev qIp:Type:=Bool
def qK9:PArgs:=⟨[.int .i64],[]⟩
def qMc:List PRes:=[⟨false,.bool,[]⟩]
def qoZ (x0:Int):DT qIp:=
 .bi (br (decide (x0 >= -1000000000000)) (some (decide (x0 <= 1000000000000))) (some false)) (fun y0=>
 .at (y0))
 (.no)
def qp4 (x0:Int):Option qIp:=qaK (qoZ x0).ev
theorem qAG (x0):qp4 x0 = (qoZ x0).ev:=qaa _
theorem qRA:FH IP 114 qK9 qMc qp4:=fh qVg qoZ qJr
def T81:Tab:=(114,FE qK9 qMc qp4) :: T80
theorem qJs:qap IP T81:=⟨qas qRA,qJr⟩
abbrev qH7:Type:=Int × Int
def qKR:PArgs:=⟨[.int .i64,.int .i64,.int .i64],[]⟩
def qLU:List PRes:=[⟨false,.tup [.int .i64,.int .i64],[]⟩]
def qoM (x0 x1 x2:Int):DT qH7:=
 .bi (qp4 x0) (fun y0=>
 .bi (br (!y0) (some true) (some (decide (x1 < 0)))) (fun y1=>
 .bi (br y1 (some true) (some (decide (x1 > 1000000)))) (fun y2=>
 .bi (br y2 (some true) (br (sm (qd0 x2)) (some !gv (qd0 x2)) none)) (fun y3=>
 .br (y3)
 (.at ((0,1)))
 (.bi (qhQ x0 x1) (fun y4=>
 .bi (qj7 y4.1 y4.2 1000000 x2) (fun y5=>
 .at ((y5.1,y5.2)))
 (.no))
 (.no)))
 (.no))
 (.no))
 (.no))
 (.no)
def qpR (x0 x1 x2:Int):Option qH7:=qaK (qoM x0 x1 x2).ev
theorem qAt (x0 x1 x2):qpR x0 x1 x2 = (qoM x0 x1 x2).ev:=qaa _
theorem qRi:FH IP 78 qKR qLU (k3 qpR):=fh F78 (k3 qoM) qJs
def T82:Tab:=(78,FE qKR qLU (k3 qpR)) :: T81
theorem qJt:qap IP T82:=⟨qas qRi,qJs⟩
abbrev qxS:Type:=Int × Int
def qCW:PArgs:=⟨[.agg [.int .i64,.int .i64,.int .i64,.int .i64,.int .i64,.int .i64,.int .i64,.int .i64,.int .i64,.int .i64,.int .i64,.int .i64,.int .i64,.int .i64,.int .i64,.int .i64,.int .i64,.int .i64,.int .i64,.int .i64,.int .i64,.str,.str,.view 4,.view 14],.int .i64],[]⟩
def qDH:List PRes:=[⟨false,.tup [.int .i64,.int .i64],[]⟩]
def qjg (x0 x1:Int) (x2 x3:Int) (x4 x5:Int) (x6 x7:Int) (x8 x9:Int) (x10 x11:Int) (x12 x13:Int) (x14 x15:Int) (x16 x17:Int) (x18 x19 x20:Int) (x21 x22:List UInt8) (x23 x24:List AV) (x25:Int):DT qxS:=
 .br (decide (x25 < 0))
 (.at ((0,1)))
 (.bi (qpR x25 x20 6) (fun y0=>
 .at ((y0.1,y0.2)))
 (.no))
def qjU (x0 x1:Int) (x2 x3:Int) (x4 x5:Int) (x6 x7:Int) (x8 x9:Int) (x10 x11:Int) (x12 x13:Int) (x14 x15:Int) (x16 x17:Int) (x18 x19 x20:Int) (x21 x22:List UInt8) (x23 x24:List AV) (x25:Int):Option qxS:=qaK (qjg x0 x1 x2 x3 x4 x5 x6 x7 x8 x9 x10 x11 x12 x13 x14 x15 x16 x17 x18 x19 x20 x21 x22 x23 x24 x25).ev
theorem qwE (x0 x1 x2 x3 x4 x5 x6 x7 x8 x9 x10 x11 x12 x13 x14 x15 x16 x17 x18 x19 x20 x21 x22 x23 x24 x25):qjU x0 x1 x2 x3 x4 x5 x6 x7 x8 x9 x10 x11 x12 x13 x14 x15 x16 x17 x18 x19 x20 x21 x22 x23 x24 x25 = (qjg x0 x1 x2 x3 x4 x5 x6 x7 x8 x9 x10 x11 x12 x13 x14 x15 x16 x17 x18 x19 x20 x21 x22 x23 x24 x25).ev:=qaa _
theorem qM2:FH IP 49 qCW qDH (k26 qjU):=fh F49 (k26 qjg) qJt
def T83:Tab:=(49,FE qCW qDH (k26 qjU)) :: T82
theorem qJu:qap IP T83:=⟨qas qM2,qJt⟩
abbrev qH6:Type:=Int × Int × Int × Int
def qKQ:PArgs:=⟨[.agg [.int .i64,.int .i64,.int .i64,.int .i64,.int .i64,.int .i64,.int .i64,.int .i64,.int .i64,.int .i64,.int .i64,.int .i64,.int .i64,.int .i64,.int .i64,.int .i64,.int .i64,.int .i64,.int .i64,.int .i64,.int .i64,.str,.str,.view 4,.view 14,.view 4,.view 4]],[]⟩
def qLT:List PRes:=[⟨false,.agg [.int .i64,.int .i64,.int .i64,.int .i64],[]⟩]
def qoL (x0 x1:Int) (x2 x3:Int) (x4 x5:Int) (x6 x7:Int) (x8 x9:Int) (x10 x11:Int) (x12 x13:Int) (x14 x15:Int) (x16 x17:Int) (x18 x19 x20:Int) (x21 x22:List UInt8) (x23 x24:List AV) (x25 x26:List AV):DT qH6:=
 .br ((x26.length:Int) == 0)
 (.at ((0,0,0,0)))
 (.br (qcO [.int .i64,.int .i64,.int .i64,.int .i64] x26 0)
 (.at ((intOf (cellAt x26 0 0),intOf (cellAt x26 0 1),intOf (cellAt x26 0 2),intOf (cellAt x26 0 3))))
 (.no))
def qj5 (x0 x1:Int) (x2 x3:Int) (x4 x5:Int) (x6 x7:Int) (x8 x9:Int) (x10 x11:Int) (x12 x13:Int) (x14 x15:Int) (x16 x17:Int) (x18 x19 x20:Int) (x21 x22:List UInt8) (x23 x24:List AV) (x25 x26:List AV):Option qH6:=qaK (qoL x0 x1 x2 x3 x4 x5 x6 x7 x8 x9 x10 x11 x12 x13 x14 x15 x16 x17 x18 x19 x20 x21 x22 x23 x24 x25 x26).ev
theorem qAs (x0 x1 x2 x3 x4 x5 x6 x7 x8 x9 x10 x11 x12 x13 x14 x15 x16 x17 x18 x19 x20 x21 x22 x23 x24 x25 x26):qj5 x0 x1 x2 x3 x4 x5 x6 x7 x8 x9 x10 x11 x12 x13 x14 x15 x16 x17 x18 x19 x20 x21 x22 x23 x24 x25 x26 = (qoL x0 x1 x2 x3 x4 x5 x6 x7 x8 x9 x10 x11 x12 x13 x14 x15 x16 x17 x18 x19 x20 x21 x22 x23 x24 x25 x26).ev:=qaa _
theorem qRh:FH IP 29 qKQ qLT (k27 qj5):=fh F29 (k27 qoL) qJu
def T84:Tab:=(29,FE qKQ qLT (k27 qj5)) :: T83
theorem qJv:qap IP T84:=⟨qas qRh,qJu⟩
abbrev qHP:Type:=Int
def qKz:PArgs:=⟨[.agg [.int .i64,.int .i64,.int .i64,.int .i64,.int .i64,.int .i64,.int .i64,.int .i64,.int .i64,.int .i64,.int .i64,.int .i64,.int .i64,.int .i64,.int .i64,.int .i64,.int .i64,.int .i64,.int .i64,.int .i64,.int .i64,.str,.str,.view 4,.view 14,.view 4,.view 4]],[]⟩
def qLC:List PRes:=[⟨false,.int .i64,[]⟩]
def qow (x0 x1:Int) (x2 x3:Int) (x4 x5:Int) (x6 x7:Int) (x8 x9:Int) (x10 x11:Int) (x12 x13:Int) (x14 x15:Int) (x16 x17:Int) (x18 x19 x20:Int) (x21 x22:List UInt8) (x23 x24:List AV) (x25 x26:List AV):DT qHP:=
 .bi (qbI x25) (fun y0=>
 .bi (qj5 x0 x1 x2 x3 x4 x5 x6 x7 x8 x9 x10 x11 x12 x13 x14 x15 x16 x17 x18 x19 x20 x21 x22 x23 x24 x25 x26) (fun y1=>
 .at (if IntKind.i64.wrap (IntKind.i64.wrap (y0.2 + y1.2.2.2) - x4) > 0 then IntKind.i64.wrap (IntKind.i64.wrap (y0.2 + y1.2.2.2) - x4) else 0))
 (.no))
 (.no)
def ql4 (x0 x1:Int) (x2 x3:Int) (x4 x5:Int) (x6 x7:Int) (x8 x9:Int) (x10 x11:Int) (x12 x13:Int) (x14 x15:Int) (x16 x17:Int) (x18 x19 x20:Int) (x21 x22:List UInt8) (x23 x24:List AV) (x25 x26:List AV):Option qHP:=qaK (qow x0 x1 x2 x3 x4 x5 x6 x7 x8 x9 x10 x11 x12 x13 x14 x15 x16 x17 x18 x19 x20 x21 x22 x23 x24 x25 x26).ev
theorem qAd (x0 x1 x2 x3 x4 x5 x6 x7 x8 x9 x10 x11 x12 x13 x14 x15 x16 x17 x18 x19 x20 x21 x22 x23 x24 x25 x26):ql4 x0 x1 x2 x3 x4 x5 x6 x7 x8 x9 x10 x11 x12 x13 x14 x15 x16 x17 x18 x19 x20 x21 x22 x23 x24 x25 x26 = (qow x0 x1 x2 x3 x4 x5 x6 x7 x8 x9 x10 x11 x12 x13 x14 x15 x16 x17 x18 x19 x20 x21 x22 x23 x24 x25 x26).ev:=qaa _
theorem qQ3:FH IP 27 qKz qLC (k27 ql4):=fh F27 (k27 qow) qJv
def T85:Tab:=(27,FE qKz qLC (k27 ql4)) :: T84
theorem qJw:qap IP T85:=⟨qas qQ3,qJv⟩
end
end Go.Proofs.H35
namespace Go.Proofs.H35
open Go Go.Eng
set_option maxRecDepth 100000
noncomputable section
abbrev qr9:Type:=Int × Int × Int × Int × Int × Int × Int × Int × Int × Int × Int × Int × Int × Int × Int × Int × Int × Int × Int × Int × Int × List UInt8 × List UInt8 × List AV × List AV × List AV × List AV × Int × Int × Int
def qCM:PArgs:=⟨[.agg [.int .i64,.int .i64,.int .i64,.int .i64,.int .i64,.int .i64,.int .i64,.int .i64,.int .i64,.int .i64,.int .i64,.int .i64,.int .i64,.int .i64,.int .i64,.int .i64,.int .i64,.int .i64,.int .i64,.int .i64,.int .i64,.str,.str,.view 4,.view 14],.int .i64],[]⟩
def qDx:List PRes:=[⟨false,.tup [.agg [.int .i64,.int .i64,.int .i64,.int .i64,.int .i64,.int .i64,.int .i64,.int .i64,.int .i64,.int .i64,.int .i64,.int .i64,.int .i64,.int .i64,.int .i64,.int .i64,.int .i64,.int .i64,.int .i64,.int .i64,.int .i64,.str,.str,.view 4,.view 14,.view 4,.view 4],.int .i64,.int .i64,.int .i64],[]⟩]
def qi7 (x0 x1:Int) (x2 x3:Int) (x4 x5:Int) (x6 x7:Int) (x8 x9:Int) (x10 x11:Int) (x12 x13:Int) (x14 x15:Int) (x16 x17:Int) (x18 x19 x20:Int) (x21 x22:List UInt8) (x23 x24:List AV) (x25:Int):DT qr9:=
 .bi (qjS x0 x1 x2 x3 x4 x5 x6 x7 x8 x9 x10 x11 x12 x13 x14 x15 x16 x17 x18 x19 x20 x21 x22 x23 x24 x25) (fun y0=>
 .br (y0.2.2.2.2.2.2.2.2.2.2.2.2.2.2.2.2.2.2.2.2.2.2.2.2.2.2.2 != 0)
 (.at ((y0.1,y0.2.1,y0.2.2.1,y0.2.2.2.1,y0.2.2.2.2.1,y0.2.2.2.2.2.1,y0.2.2.2.2.2.2.1,y0.2.2.2.2.2.2.2.1,y0.2.2.2.2.2.2.2.2.1,y0.2.2.2.2.2.2.2.2.2.1,y0.2.2.2.2.2.2.2.2.2.2.1,y0.2.2.2.2.2.2.2.2.2.2.2.1,y0.2.2.2.2.2.2.2.2.2.2.2.2.1,y0.2.2.2.2.2.2.2.2.2.2.2.2.2.1,y0.2.2.2.2.2.2.2.2.2.2.2.2.2.2.1,y0.2.2.2.2.2.2.2.2.2.2.2.2.2.2.2.1,y0.2.2.2.2.2.2.2.2.2.2.2.2.2.2.2.2.1,y0.2.2.2.2.2.2.2.2.2.2.2.2.2.2.2.2.2.1,y0.2.2.2.2.2.2.2.2.2.2.2.2.2.2.2.2.2.2.1,y0.2.2.2.2.2.2.2.2.2.2.2.2.2.2.2.2.2.2.2.1,y0.2.2.2.2.2.2.2.2.2.2.2.2.2.2.2.2.2.2.2.2.1,y0.2.2.2.2.2.2.2.2.2.2.2.2.2.2.2.2.2.2.2.2.2.1,y0.2.2.2.2.2.2.2.2.2.2.2.2.2.2.2.2.2.2.2.2.2.2.1,y0.2.2.2.2.2.2.2.2.2.2.2.2.2.2.2.2.2.2.2.2.2.2.2.1,y0.2.2.2.2.2.2.2.2.2.2.2.2.2.2.2.2.2.2.2.2.2.2.2.2.1,y0.2.2.2.2.2.2.2.2.2.2.2.2.2.2.2.2.2.2.2.2.2.2.2.2.2.1,y0.2.2.2.2.2.2.2.2.2.2.2.2.2.2.2.2.2.2.2.2.2.2.2.2.2.2.1,0,0,y0.2.2.2.2.2.2.2.2.2.2.2.2.2.2.2.2.2.2.2.2.2.2.2.2.2.2.2)))
 (.br (x2 != 1)
 (.at ((y0.1,y0.2.1,y0.2.2.1,y0.2.2.2.1,y0.2.2.2.2.1,y0.2.2.2.2.2.1,y0.2.2.2.2.2.2.1,y0.2.2.2.2.2.2.2.1,y0.2.2.2.2.2.2.2.2.1,y0.2.2.2.2.2.2.2.2.2.1,y0.2.2.2.2.2.2.2.2.2.2.1,y0.2.2.2.2.2.2.2.2.2.2.2.1,y0.2.2.2.2.2.2.2.2.2.2.2.2.1,y0.2.2.2.2.2.2.2.2.2.2.2.2.2.1,y0.2.2.2.2.2.2.2.2.2.2.2.2.2.2.1,y0.2.2.2.2.2.2.2.2.2.2.2.2.2.2.2.1,y0.2.2.2.2.2.2.2.2.2.2.2.2.2.2.2.2.1,y0.2.2.2.2.2.2.2.2.2.2.2.2.2.2.2.2.2.1,y0.2.2.2.2.2.2.2.2.2.2.2.2.2.2.2.2.2.2.1,y0.2.2.2.2.2.2.2.2.2.2.2.2.2.2.2.2.2.2.2.1,y0.2.2.2.2.2.2.2.2.2.2.2.2.2.2.2.2.2.2.2.2.1,y0.2.2.2.2.2.2.2.2.2.2.2.2.2.2.2.2.2.2.2.2.2.1,y0.2.2.2.2.2.2.2.2.2.2.2.2.2.2.2.2.2.2.2.2.2.2.1,y0.2.2.2.2.2.2.2.2.2.2.2.2.2.2.2.2.2.2.2.2.2.2.2.1,y0.2.2.2.2.2.2.2.2.2.2.2.2.2.2.2.2.2.2.2.2.2.2.2.2.1,y0.2.2.2.2.2.2.2.2.2.2.2.2.2.2.2.2.2.2.2.2.2.2.2.2.2.1,y0.2.2.2.2.2.2.2.2.2.2.2.2.2.2.2.2.2.2.2.2.2.2.2.2.2.2.1,0,0,17)))
 (.bi (ql7 y0.1 y0.2.1 y0.2.2.1 y0.2.2.2.1 y0.2.2.2.2.1 y0.2.2.2.2.2.1 y0.2.2.2.2.2.2.1
 y0.2.2.2.2.2.2.2.1 y0.2.2.2.2.2.2.2.2.1 y0.2.2.2.2.2.2.2.2.2.1 y0.2.2.2.2.2.2.2.2.2.2.1
 y0.2.2.2.2.2.2.2.2.2.2.2.1 y0.2.2.2.2.2.2.2.2.2.2.2.2.1 y0.2.2.2.2.2.2.2.2.2.2.2.2.2.1
 y0.2.2.2.2.2.2.2.2.2.2.2.2.2.2.1 y0.2.2.2.2.2.2.2.2.2.2.2.2.2.2.2.1
 y0.2.2.2.2.2.2.2.2.2.2.2.2.2.2.2.2.1 y0.2.2.2.2.2.2.2.2.2.2.2.2.2.2.2.2.2.1
 y0.2.2.2.2.2.2.2.2.2.2.2.2.2.2.2.2.2.2.1 y0.2.2.2.2.2.2.2.2.2.2.2.2.2.2.2.2.2.2.2.1
 y0.2.2.2.2.2.2.2.2.2.2.2.2.2.2.2.2.2.2.2.2.1 y0.2.2.2.2.2.2.2.2.2.2.2.2.2.2.2.2.2.2.2.2.2.1
 y0.2.2.2.2.2.2.2.2.2.2.2.2.2.2.2.2.2.2.2.2.2.2.1
 y0.2.2.2.2.2.2.2.2.2.2.2.2.2.2.2.2.2.2.2.2.2.2.2.1
 y0.2.2.2.2.2.2.2.2.2.2.2.2.2.2.2.2.2.2.2.2.2.2.2.2.1
 y0.2.2.2.2.2.2.2.2.2.2.2.2.2.2.2.2.2.2.2.2.2.2.2.2.2.1
 y0.2.2.2.2.2.2.2.2.2.2.2.2.2.2.2.2.2.2.2.2.2.2.2.2.2.2.1) (fun y1=>
 .bi (qbL y1) (fun y2=>
 .br (!y2)
 (.at ((y0.1,y0.2.1,y0.2.2.1,y0.2.2.2.1,y0.2.2.2.2.1,y0.2.2.2.2.2.1,y0.2.2.2.2.2.2.1,y0.2.2.2.2.2.2.2.1,y0.2.2.2.2.2.2.2.2.1,y0.2.2.2.2.2.2.2.2.2.1,y0.2.2.2.2.2.2.2.2.2.2.1,y0.2.2.2.2.2.2.2.2.2.2.2.1,y0.2.2.2.2.2.2.2.2.2.2.2.2.1,y0.2.2.2.2.2.2.2.2.2.2.2.2.2.1,y0.2.2.2.2.2.2.2.2.2.2.2.2.2.2.1,y0.2.2.2.2.2.2.2.2.2.2.2.2.2.2.2.1,y0.2.2.2.2.2.2.2.2.2.2.2.2.2.2.2.2.1,y0.2.2.2.2.2.2.2.2.2.2.2.2.2.2.2.2.2.1,y0.2.2.2.2.2.2.2.2.2.2.2.2.2.2.2.2.2.2.1,y0.2.2.2.2.2.2.2.2.2.2.2.2.2.2.2.2.2.2.2.1,y0.2.2.2.2.2.2.2.2.2.2.2.2.2.2.2.2.2.2.2.2.1,y0.2.2.2.2.2.2.2.2.2.2.2.2.2.2.2.2.2.2.2.2.2.1,y0.2.2.2.2.2.2.2.2.2.2.2.2.2.2.2.2.2.2.2.2.2.2.1,y0.2.2.2.2.2.2.2.2.2.2.2.2.2.2.2.2.2.2.2.2.2.2.2.1,y0.2.2.2.2.2.2.2.2.2.2.2.2.2.2.2.2.2.2.2.2.2.2.2.2.1,y0.2.2.2.2.2.2.2.2.2.2.2.2.2.2.2.2.2.2.2.2.2.2.2.2.2.1,y0.2.2.2.2.2.2.2.2.2.2.2.2.2.2.2.2.2.2.2.2.2.2.2.2.2.2.1,0,0,6)))
 (.bi (ql7 y0.1 y0.2.1 y0.2.2.1 y0.2.2.2.1 y0.2.2.2.2.1 y0.2.2.2.2.2.1 y0.2.2.2.2.2.2.1
 y0.2.2.2.2.2.2.2.1 y0.2.2.2.2.2.2.2.2.1 y0.2.2.2.2.2.2.2.2.2.1 y0.2.2.2.2.2.2.2.2.2.2.1
 y0.2.2.2.2.2.2.2.2.2.2.2.1 y0.2.2.2.2.2.2.2.2.2.2.2.2.1 y0.2.2.2.2.2.2.2.2.2.2.2.2.2.1
 y0.2.2.2.2.2.2.2.2.2.2.2.2.2.2.1 y0.2.2.2.2.2.2.2.2.2.2.2.2.2.2.2.1
 y0.2.2.2.2.2.2.2.2.2.2.2.2.2.2.2.2.1 y0.2.2.2.2.2.2.2.2.2.2.2.2.2.2.2.2.2.1
 y0.2.2.2.2.2.2.2.2.2.2.2.2.2.2.2.2.2.2.1 y0.2.2.2.2.2.2.2.2.2.2.2.2.2.2.2.2.2.2.2.1
 y0.2.2.2.2.2.2.2.2.2.2.2.2.2.2.2.2.2.2.2.2.1 y0.2.2.2.2.2.2.2.2.2.2.2.2.2.2.2.2.2.2.2.2.2.1
 y0.2.2.2.2.2.2.2.2.2.2.2.2.2.2.2.2.2.2.2.2.2.2.1
 y0.2.2.2.2.2.2.2.2.2.2.2.2.2.2.2.2.2.2.2.2.2.2.2.1
 y0.2.2.2.2.2.2.2.2.2.2.2.2.2.2.2.2.2.2.2.2.2.2.2.2.1
 y0.2.2.2.2.2.2.2.2.2.2.2.2.2.2.2.2.2.2.2.2.2.2.2.2.2.1
 y0.2.2.2.2.2.2.2.2.2.2.2.2.2.2.2.2.2.2.2.2.2.2.2.2.2.2.1) (fun y3=>
 .bi (qjU x0 x1 x2 x3 x4 x5 x6 x7 x8 x9 x10 x11 x12 x13 x14 x15 x16 x17 x18 x19 x20 x21 x22 x23 x24 y3) (fun y4=>
 .br (y4.2 != 0)
 (.at ((y0.1,y0.2.1,y0.2.2.1,y0.2.2.2.1,y0.2.2.2.2.1,y0.2.2.2.2.2.1,y0.2.2.2.2.2.2.1,y0.2.2.2.2.2.2.2.1,y0.2.2.2.2.2.2.2.2.1,y0.2.2.2.2.2.2.2.2.2.1,y0.2.2.2.2.2.2.2.2.2.2.1,y0.2.2.2.2.2.2.2.2.2.2.2.1,y0.2.2.2.2.2.2.2.2.2.2.2.2.1,y0.2.2.2.2.2.2.2.2.2.2.2.2.2.1,y0.2.2.2.2.2.2.2.2.2.2.2.2.2.2.1,y0.2.2.2.2.2.2.2.2.2.2.2.2.2.2.2.1,y0.2.2.2.2.2.2.2.2.2.2.2.2.2.2.2.2.1,y0.2.2.2.2.2.2.2.2.2.2.2.2.2.2.2.2.2.1,y0.2.2.2.2.2.2.2.2.2.2.2.2.2.2.2.2.2.2.1,y0.2.2.2.2.2.2.2.2.2.2.2.2.2.2.2.2.2.2.2.1,y0.2.2.2.2.2.2.2.2.2.2.2.2.2.2.2.2.2.2.2.2.1,y0.2.2.2.2.2.2.2.2.2.2.2.2.2.2.2.2.2.2.2.2.2.1,y0.2.2.2.2.2.2.2.2.2.2.2.2.2.2.2.2.2.2.2.2.2.2.1,y0.2.2.2.2.2.2.2.2.2.2.2.2.2.2.2.2.2.2.2.2.2.2.2.1,y0.2.2.2.2.2.2.2.2.2.2.2.2.2.2.2.2.2.2.2.2.2.2.2.2.1,y0.2.2.2.2.2.2.2.2.2.2.2.2.2.2.2.2.2.2.2.2.2.2.2.2.2.1,y0.2.2.2.2.2.2.2.2.2.2.2.2.2.2.2.2.2.2.2.2.2.2.2.2.2.2.1,0,0,y4.2)))
 (.bi (ql4 y0.1 y0.2.1 y0.2.2.1 y0.2.2.2.1 y0.2.2.2.2.1 y0.2.2.2.2.2.1 y0.2.2.2.2.2.2.1
 y0.2.2.2.2.2.2.2.1 y0.2.2.2.2.2.2.2.2.1 y0.2.2.2.2.2.2.2.2.2.1 y0.2.2.2.2.2.2.2.2.2.2.1
 y0.2.2.2.2.2.2.2.2.2.2.2.1 y0.2.2.2.2.2.2.2.2.2.2.2.2.1 y0.2.2.2.2.2.2.2.2.2.2.2.2.2.1
 y0.2.2.2.2.2.2.2.2.2.2.2.2.2.2.1 y0.2.2.2.2.2.2.2.2.2.2.2.2.2.2.2.1
 y0.2.2.2.2.2.2.2.2.2.2.2.2.2.2.2.2.1 y0.2.2.2.2.2.2.2.2.2.2.2.2.2.2.2.2.2.1
 y0.2.2.2.2.2.2.2.2.2.2.2.2.2.2.2.2.2.2.1 y0.2.2.2.2.2.2.2.2.2.2.2.2.2.2.2.2.2.2.2.1
 y0.2.2.2.2.2.2.2.2.2.2.2.2.2.2.2.2.2.2.2.2.1 y0.2.2.2.2.2.2.2.2.2.2.2.2.2.2.2.2.2.2.2.2.2.1
 y0.2.2.2.2.2.2.2.2.2.2.2.2.2.2.2.2.2.2.2.2.2.2.1
 y0.2.2.2.2.2.2.2.2.2.2.2.2.2.2.2.2.2.2.2.2.2.2.2.1
 y0.2.2.2.2.2.2.2.2.2.2.2.2.2.2.2.2.2.2.2.2.2.2.2.2.1
 y0.2.2.2.2.2.2.2.2.2.2.2.2.2.2.2.2.2.2.2.2.2.2.2.2.2.1
 y0.2.2.2.2.2.2.2.2.2.2.2.2.2.2.2.2.2.2.2.2.2.2.2.2.2.2.1) (fun y5=>
 .bi (qis x0 x1 x2 x3 x4 x5 x6 x7 x8 x9 x10 x11 x12 x13 x14 x15 x16 x17 x18 x19 x20 x21 x22 x23 x24) (fun y6=>
 .bi (qbL (IntKind.i64.wrap (IntKind.i64.wrap (IntKind.i64.wrap (IntKind.i64.wrap (x5 + x6) + y5) + y6) + y4.1))) (fun y7=>
 .br (!y7)
 (.at ((y0.1,y0.2.1,y0.2.2.1,y0.2.2.2.1,y0.2.2.2.2.1,y0.2.2.2.2.2.1,y0.2.2.2.2.2.2.1,y0.2.2.2.2.2.2.2.1,y0.2.2.2.2.2.2.2.2.1,y0.2.2.2.2.2.2.2.2.2.1,y0.2.2.2.2.2.2.2.2.2.2.1,y0.2.2.2.2.2.2.2.2.2.2.2.1,y0.2.2.2.2.2.2.2.2.2.2.2.2.1,y0.2.2.2.2.2.2.2.2.2.2.2.2.2.1,y0.2.2.2.2.2.2.2.2.2.2.2.2.2.2.1,y0.2.2.2.2.2.2.2.2.2.2.2.2.2.2.2.1,y0.2.2.2.2.2.2.2.2.2.2.2.2.2.2.2.2.1,y0.2.2.2.2.2.2.2.2.2.2.2.2.2.2.2.2.2.1,y0.2.2.2.2.2.2.2.2.2.2.2.2.2.2.2.2.2.2.1,y0.2.2.2.2.2.2.2.2.2.2.2.2.2.2.2.2.2.2.2.1,y0.2.2.2.2.2.2.2.2.2.2.2.2.2.2.2.2.2.2.2.2.1,y0.2.2.2.2.2.2.2.2.2.2.2.2.2.2.2.2.2.2.2.2.2.1,y0.2.2.2.2.2.2.2.2.2.2.2.2.2.2.2.2.2.2.2.2.2.2.1,y0.2.2.2.2.2.2.2.2.2.2.2.2.2.2.2.2.2.2.2.2.2.2.2.1,y0.2.2.2.2.2.2.2.2.2.2.2.2.2.2.2.2.2.2.2.2.2.2.2.2.1,y0.2.2.2.2.2.2.2.2.2.2.2.2.2.2.2.2.2.2.2.2.2.2.2.2.2.1,y0.2.2.2.2.2.2.2.2.2.2.2.2.2.2.2.2.2.2.2.2.2.2.2.2.2.2.1,0,0,6)))
 (.at ((y0.1,y0.2.1,y0.2.2.1,y0.2.2.2.1,y0.2.2.2.2.1,y0.2.2.2.2.2.1,y0.2.2.2.2.2.2.1,y0.2.2.2.2.2.2.2.1,y0.2.2.2.2.2.2.2.2.1,y0.2.2.2.2.2.2.2.2.2.1,y0.2.2.2.2.2.2.2.2.2.2.1,y0.2.2.2.2.2.2.2.2.2.2.2.1,y0.2.2.2.2.2.2.2.2.2.2.2.2.1,y0.2.2.2.2.2.2.2.2.2.2.2.2.2.1,y0.2.2.2.2.2.2.2.2.2.2.2.2.2.2.1,y0.2.2.2.2.2.2.2.2.2.2.2.2.2.2.2.1,y0.2.2.2.2.2.2.2.2.2.2.2.2.2.2.2.2.1,y0.2.2.2.2.2.2.2.2.2.2.2.2.2.2.2.2.2.1,y0.2.2.2.2.2.2.2.2.2.2.2.2.2.2.2.2.2.2.1,y0.2.2.2.2.2.2.2.2.2.2.2.2.2.2.2.2.2.2.2.1,y0.2.2.2.2.2.2.2.2.2.2.2.2.2.2.2.2.2.2.2.2.1,y0.2.2.2.2.2.2.2.2.2.2.2.2.2.2.2.2.2.2.2.2.2.1,y0.2.2.2.2.2.2.2.2.2.2.2.2.2.2.2.2.2.2.2.2.2.2.1,y0.2.2.2.2.2.2.2.2.2.2.2.2.2.2.2.2.2.2.2.2.2.2.2.1,y0.2.2.2.2.2.2.2.2.2.2.2.2.2.2.2.2.2.2.2.2.2.2.2.2.1,y0.2.2.2.2.2.2.2.2.2.2.2.2.2.2.2.2.2.2.2.2.2.2.2.2.2.1,y0.2.2.2.2.2.2.2.2.2.2.2.2.2.2.2.2.2.2.2.2.2.2.2.2.2.2.1,IntKind.i64.wrap (IntKind.i64.wrap (IntKind.i64.wrap (IntKind.i64.wrap (x5 + x6) + y5) + y6) + y4.1),y4.1,0))))
 (.no))
 (.no))
 (.no)))
 (.no))
 (.no)))
 (.no))
 (.no))))
 (.no)
def qgk (x0 x1:Int) (x2 x3:Int) (x4 x5:Int) (x6 x7:Int) (x8 x9:Int) (x10 x11:Int) (x12 x13:Int) (x14 x15:Int) (x16 x17:Int) (x18 x19 x20:Int) (x21 x22:List UInt8) (x23 x24:List AV) (x25:Int):Option qr9:=qaK (qi7 x0 x1 x2 x3 x4 x5 x6 x7 x8 x9 x10 x11 x12 x13 x14 x15 x16 x17 x18 x19 x20 x21 x22 x23 x24 x25).ev
theorem qwv (x0 x1 x2 x3 x4 x5 x6 x7 x8 x9 x10 x11 x12 x13 x14 x15 x16 x17 x18 x19 x20 x21 x22 x23 x24 x25):qgk x0 x1 x2 x3 x4 x5 x6 x7 x8 x9 x10 x11 x12 x13 x14 x15 x16 x17 x18 x19 x20 x21 x22 x23 x24 x25 = (qi7 x0 x1 x2 x3 x4 x5 x6 x7 x8 x9 x10 x11 x12 x13 x14 x15 x16 x17 x18 x19 x20 x21 x22 x23 x24 x25).ev:=qaa _
theorem qMS:FH IP 25 qCM qDx (k26 qgk):=fh F25 (k26 qi7) qJw
def T86:Tab:=(25,FE qCM qDx (k26 qgk)) :: T85
theorem qJx:qap IP T86:=⟨qas qMS,qJw⟩
abbrev qyh:Type:=Int × Int
def qLq:PArgs:=⟨[.agg [.int .i64,.int .i64,.int .i64,.int .i64,.int .i64,.int .i64,.int .i64,.int .i64,.int .i64,.int .i64,.int .i64,.int .i64,.int .i64,.int .i64,.int .i64,.int .i64,.int .i64,.int .i64,.int .i64,.int .i64,.int .i64,.str,.str,.view 4,.view 14],.int .i64],[]⟩
def qMt:List PRes:=[⟨false,.tup [.int .i64,.int .i64],[]⟩]
def qpe (x0 x1:Int) (x2 x3:Int) (x4 x5:Int) (x6 x7:Int) (x8 x9:Int) (x10 x11:Int) (x12 x13:Int) (x14 x15:Int) (x16 x17:Int) (x18 x19 x20:Int) (x21 x22:List UInt8) (x23 x24:List AV) (x25:Int):DT qyh:=
 .bi (qgk x0 x1 x2 x3 x4 x5 x6 x7 x8 x9 x10 x11 x12 x13 x14 x15 x16 x17 x18 x19 x20 x21 x22 x23 x24 x25) (fun y0=>
 .at ((y0.2.2.2.2.2.2.2.2.2.2.2.2.2.2.2.2.2.2.2.2.2.2.2.2.2.2.2.1,y0.2.2.2.2.2.2.2.2.2.2.2.2.2.2.2.2.2.2.2.2.2.2.2.2.2.2.2.2.2)))
 (.no)
def qmi (x0 x1:Int) (x2 x3:Int) (x4 x5:Int) (x6 x7:Int) (x8 x9:Int) (x10 x11:Int) (x12 x13:Int) (x14 x15:Int) (x16 x17:Int) (x18 x19 x20:Int) (x21 x22:List UInt8) (x23 x24:List AV) (x25:Int):Option qyh:=qaK (qpe x0 x1 x2 x3 x4 x5 x6 x7 x8 x9 x10 x11 x12 x13 x14 x15 x16 x17 x18 x19 x20 x21 x22 x23 x24 x25).ev
theorem qAW (x0 x1 x2 x3 x4 x5 x6 x7 x8 x9 x10 x11 x12 x13 x14 x15 x16 x17 x18 x19 x20 x21 x22 x23 x24 x25):qmi x0 x1 x2 x3 x4 x5 x6 x7 x8 x9 x10 x11 x12 x13 x14 x15 x16 x17 x18 x19 x20 x21 x22 x23 x24 x25 = (qpe x0 x1 x2 x3 x4 x5 x6 x7 x8 x9 x10 x11 x12 x13 x14 x15 x16 x17 x18 x19 x20 x21 x22 x23 x24 x25).ev:=qaa _
theorem qRR:FH IP 9 qLq qMt (k26 qmi):=fh F9 (k26 qpe) qJx
def T87:Tab:=(9,FE qLq qMt (k26 qmi)) :: T86
theorem qJy:qap IP T87:=⟨qas qRR,qJx⟩
abbrev qIn:Type:=Bool
def qK7:PArgs:=⟨[.agg [.int .i64,.int .i64]],[]⟩
def qMa:List PRes:=[⟨false,.bool,[]⟩]
def qoY (x0 x1:Int):DT qIn:=
 .at (x1 == 0)
def qmb (x0 x1:Int):Option qIn:=qaK (qoY x0 x1).ev
theorem qAF (x0 x1):qmb x0 x1 = (qoY x0 x1).ev:=qaa _
theorem qRy:FH IP 61 qK7 qMa (k2 qmb):=fh F61 (k2 qoY) qJy
def T88:Tab:=(61,FE qK7 qMa (k2 qmb)) :: T87
theorem qy6:qap IP T88:=⟨qas qRy,qJy⟩
abbrev qgW:Type:=List AV × Int × Int
def qJ8:List PSt:=[⟨[(1005600,.junk),(0,.view 2),(1,.fn (.func 61) []),(7,.int .i64),(8,.int .i64)],[],0,0⟩]
def qO7 (x0:List AV) (x1 x2:Int):X × St:=(.ret,⟨[(4,.int .i64 x2)],[],0,0⟩)
def qO8 (x0:List AV) (x1 x2:Int):X × St:=(.exit 0,⟨[(4,.junk)],[],0,0⟩)
def qZ6:List (qgW -> X × St):=[(k3 qO7),(k3 qO8)]
def qvZ (x0:List AV) (x1 x2:Int):DT (Rd qgW):=
 .br (decide (x2 < x1))
 (.br (qcO [.int .i64,.int .i64] x0 x2)
 (.bi (qmb (intOf (cellAt x0 x2 0)) (intOf (cellAt x0 x2 1))) (fun y0=>
 .br (y0) (.at (.done 0)) (.at (.next ((x0,x1,IntKind.i64.wrap (x2 + 1))))))
 (.no))
 (.no))
 (.at (.done 1))
def qvY:qgW -> DT (Rd qgW):=(fun v=>qvZ v.1 v.2.1 v.2.2)
def qBB (v:qgW):Option (Nat × qgW):=qaK (qat (fun v=>(qvY v).ev) v)
theorem qvf (v):qBB v = qat (fun v=>(qvY v).ev) v:=qaa _
def qKj:qdC:=LE (τ:=qgW) (hD qJ8) (qBB) qZ6
theorem qZN:Go.Eng.Told IP (qai F56 0).1 (qai F56 0).2 (qKj):=lp (inferInstance:Inhabited qgW) (hs:=qJ8) qvY qy6 qvf
abbrev qHG:Type:=Int
def qKr:PArgs:=⟨[.view 2,.fn (.func 61) []],[]⟩
def qLu:List PRes:=[⟨false,.int .i64,[]⟩]
def qon (x0:List AV):DT qHG:=
 .bi (pj 0 (qBB (x0,(x0.length:Int),0))) (fun y0=>
 .at (y0.2.2))
 (.bi (pj 1 (qBB (x0,(x0.length:Int),0))) (fun y0=>
 .at (-1))
 (.no))
def qlY (x0:List AV):Option qHG:=qaK (qon x0).ev
theorem qz4 (x0):qlY x0 = (qon x0).ev:=qaa _
theorem qQV:FH IP 56 qKr qLu qlY:=qaj (F:=F56) (L:=[(1005600,qKj)]) (t:=qon) qy6 (qaf (l:=[qai F56 0]) (by kernel_rfl) ⟨qaG (by kernel_rfl) qZN,trivial⟩) (by kernel_rfl) (fun v=>by kernel_rfl) (fun _=>qaa _)
def T89:Tab:=(56,FE qKr qLu qlY) :: T88
theorem qy7:qap IP T89:=⟨qas qQV,qy6⟩
abbrev qgT:Type:=Int × Int
def qJ5:List PSt:=[⟨[(1003300,.junk),(0,.nils ⟨2,.any⟩),(1,.fn (.func 61) []),(5,.int .i64),(6,.int .i64)],[],0,0⟩]
def qO2 (x0 x1:Int):X × St:=(.exit 0,⟨[(0,.nils ⟨2,.any⟩),(5,.int .i64 x0)],[],0,0⟩)
def qZ3:List (qgT -> X × St):=[(k2 qO2)]
def qGF (x0 x1:Int):DT (Rd qgT):=
 .br (decide (x1 < 0)) (.no) (.at (.done 0))
def qEh:qgT -> DT (Rd qgT):=(fun v=>qGF v.1 v.2)
def qNV (v:qgT):Option (Nat × qgT):=qaK (qat (fun v=>(qEh v).ev) v)
theorem qF0 (v):qNV v = qat (fun v=>(qEh v).ev) v:=qaa _
def qKg:qdC:=LE (τ:=qgT) (hD qJ5) (qNV) qZ3
theorem qZK:Go.Eng.Told IP (qai F33 0).1 (qai F33 0).2 (qKg):=lp (inferInstance:Inhabited qgT) (hs:=qJ5) qEh qy7 qF0
abbrev qPC:Type:=Unit
def qS7:PArgs:=⟨[.nils ⟨2,.any⟩,.fn (.func 61) []],[]⟩
def qTn:List PRes:=[⟨false,.nils ⟨2,.any⟩,[]⟩]
def qEy:DT qPC:=
 .bi (qlY []) (fun y0=>
 .br (y0 == -1)
 (.at (()))
 (.bi (pj 0 (qNV (y0,IntKind.i64.wrap (y0 + 1)))) (fun y1=>
 .br (leB y1.1 0)
 (.br (Bool.rec ((fun _=>false) ()) ((fun _=>decide (y1.1 <= (0:Int))) ()) (decide (0 <= y1.1)) && true) (.at (())) (.no))
 (.no))
 (.no)))
 (.no)
def qFG:Option qPC:=qaK (qEy).ev
theorem qWd:FH IP 33 qS7 qTn (fun _=>qFG):=qaj (F:=F33) (L:=[(1003300,qKg)]) (t:=(fun _=>qEy)) qy7 (qaf (l:=[qai F33 0]) (by kernel_rfl) ⟨qaG (by kernel_rfl) qZK,trivial⟩) (by kernel_rfl) (fun v=>by kernel_rfl) (fun _=>qaa _)
def T90:Tab:=(33,FE qS7 qTn (fun _=>qFG)) :: T89
theorem qy8:qap IP T90:=⟨qas qWd,qy7⟩
abbrev qgR:Type:=Int × Int × List AV
def qJ3:List PSt:=[⟨[(1003300,.junk),(0,.own 0 0),(1,.fn (.func 61) []),(5,.int .i64),(6,.int .i64)],[(0,.arr 2 false)],1,1⟩]
def qOT (x0 x1:Int) (x2:List AV):X × St:=(.exit 0,⟨[(0,.own 0 0 none),(5,.int .i64 x0)],[(0,.arr 2 x2 false)],1,1⟩)
def qZ1:List (qgR -> X × St):=[(k3 qOT)]
def qn1 (x0 x1:Int) (x2:List AV):DT (Rd qgR):=
 .br (decide (x1 < (x2.length:Int)))
 (.br (inB x2.length x1)
 (.br (okP [.int .i64,.int .i64] x2 x1.toNat 0)
 (.bi (qmb (intOf (qca x2 x1.toNat 0)) (intOf (qca x2 x1.toNat 1))) (fun y0=>
 .br (!y0)
 (.br (inB x2.length x0)
 (.br (okS x2 x0.toNat 0 2)
 (.at (.next ((IntKind.i64.wrap (x0 + 1),IntKind.i64.wrap (x1 + 1),qxu x2 x0.toNat 0 [.int .i64 (intOf (qca x2 x1.toNat 0)),.int .i64 (intOf (qca x2 x1.toNat 1))]))))
 (.no))
 (.no))
 (.at (.next ((x0,IntKind.i64.wrap (x1 + 1),x2)))))
 (.no))
 (.no))
 (.no))
 (.at (.done 0))
def qEf:qgR -> DT (Rd qgR):=(fun v=>qn1 v.1 v.2.1 v.2.2)
def qFY (v:qgR):Option (Nat × qgR):=qaK (qat (fun v=>(qEf v).ev) v)
theorem qu8 (v):qFY v = qat (fun v=>(qEf v).ev) v:=qaa _
def qKe:qdC:=LE (τ:=qgR) (hD qJ3) (qFY) qZ1
theorem qZI:Go.Eng.Told IP (qai F33 0).1 (qai F33 0).2 (qKe):=lp (inferInstance:Inhabited qgR) (hs:=qJ3) qEf qy8 qu8
abbrev qPz:Type:=(List AV) ⊕ (Nat × List AV)
def qS4:PArgs:=⟨[.own 0 0,.fn (.func 61) []],[(0,.arr 2 false)]⟩
def qTk:List PRes:=[⟨false,.own 0 0,[(0,.arr 2 false)]⟩,⟨false,.ownn 0 0,[(0,.arr 2 false)]⟩]
def qv2 (x0:List AV):DT qPz:=
 .bi (qlY x0) (fun y0=>
 .br (y0 == -1)
 (.at ((.inl (x0))))
 (.bi (pj 0 (qFY (y0,IntKind.i64.wrap (y0 + 1),x0))) (fun y1=>
 .br (leB y1.1 y1.2.2.length && true)
 (.br (decide (0 + y1.1.toNat + qa9 y1.2.2.length (0 + y1.1.toNat) none <= y1.2.2.length))
 (.br (leB y1.1
 (List.take (0 + y1.1.toNat) y1.2.2 ++ List.replicate (qa9 y1.2.2.length (0 + y1.1.toNat) none) (AV.agg [.int .i64 0,.int .i64 0]) ++
 List.drop (0 + y1.1.toNat + qa9 y1.2.2.length (0 + y1.1.toNat) none) y1.2.2).length &&
 true &&
 decide
 (0 + y1.1.toNat <=
 (List.take (0 + y1.1.toNat) y1.2.2 ++ List.replicate (qa9 y1.2.2.length (0 + y1.1.toNat) none) (AV.agg [.int .i64 0,.int .i64 0]) ++
 List.drop (0 + y1.1.toNat + qa9 y1.2.2.length (0 + y1.1.toNat) none) y1.2.2).length))
 (.at ((.inr (y1.1.toNat - 0,List.take (0 + y1.1.toNat) y1.2.2 ++ List.replicate (qa9 y1.2.2.length (0 + y1.1.toNat) none) (AV.agg [.int .i64 0,.int .i64 0]) ++
 List.drop (0 + y1.1.toNat + qa9 y1.2.2.length (0 + y1.1.toNat) none) y1.2.2))))
 (.no))
 (.no))
 (.no))
 (.no)))
 (.no)
def qwT (x0:List AV):Option qPz:=qaK (qv2 x0).ev
theorem qFD (x0):qwT x0 = (qv2 x0).ev:=qaa _
theorem qWa:FH IP 33 qS4 qTk qwT:=qaj (F:=F33) (L:=[(1003300,qKe)]) (t:=qv2) qy8 (qaf (l:=[qai F33 0]) (by kernel_rfl) ⟨qaG (by kernel_rfl) qZI,trivial⟩) (by kernel_rfl) (fun v=>by kernel_rfl) (fun _=>qaa _)
def T91:Tab:=(33,FE qS4 qTk qwT) :: T90
theorem qJz:qap IP T91:=⟨qas qWa,qy8⟩
abbrev qyi:Type:=List AV
def qLr:PArgs:=⟨[.view 2],[]⟩
def qMu:List PRes:=[⟨false,.view 2,[]⟩]
def qpf (x0:List AV):DT qyi:=
 .br (decide (x0.length = 0))
 (.bi (qFG) (fun y0=>
 .at ([]))
 (.no))
 (.br (decide (x0.length ≠ 0) && decide (x0.length * 16 <= lim))
 (.bi (pl (qwT x0)) (fun y0=>
 .at (y0))
 (.bi (pr (qwT x0)) (fun y0=>
 .br (qcF [(32,Blk.arr 2 y0.2 false)] qbl (AV.own 32 0 (some y0.1))) (.at (List.take y0.1 y0.2)) (.no))
 (.no)))
 (.no))
def qqg (x0:List AV):Option qyi:=qaK (qpf x0).ev
theorem qAX (x0):qqg x0 = (qpf x0).ev:=qaa _
theorem qRS:FH IP 26 qLr qMu qqg:=fh F26 qpf qJz
def T92:Tab:=(26,FE qLr qMu qqg) :: T91
theorem qJA:qap IP T92:=⟨qas qRS,qJz⟩
abbrev qjx:Type:=Int × Int × Int × Int × Int × Int × Int × Int × Int × Int × Int × Int × Int × Int × Int × Int × Int × Int × Int × Int × Int × List UInt8 × List UInt8 × List AV × List AV × List AV × Int
def qCQ:PArgs:=⟨[.agg [.int .i64,.int .i64,.int .i64,.int .i64,.int .i64,.int .i64,.int .i64,.int .i64,.int .i64,.int .i64,.int .i64,.int .i64,.int .i64,.int .i64,.int .i64,.int .i64,.int .i64,.int .i64,.int .i64,.int .i64,.int .i64,.str,.str,.view 4,.view 14],.int .i64],[]⟩
def qDB:List PRes:=[⟨false,.tup [.agg [.int .i64,.int .i64,.int .i64,.int .i64,.int .i64,.int .i64,.int .i64,.int .i64,.int .i64,.int .i64,.int .i64,.int .i64,.int .i64,.int .i64,.int .i64,.int .i64,.int .i64,.int .i64,.int .i64,.int .i64,.int .i64,.str,.str,.view 4,.view 14],.view 2,.int .i64],[]⟩]
def qho (x0 x1:Int) (x2 x3:Int) (x4 x5:Int) (x6 x7:Int) (x8 x9:Int) (x10 x11:Int) (x12 x13:Int) (x14 x15:Int) (x16 x17:Int) (x18 x19 x20:Int) (x21 x22:List UInt8) (x23 x24:List AV) (x25:Int):DT qjx:=
 .bi (qgk x0 x1 x2 x3 x4 x5 x6 x7 x8 x9 x10 x11 x12 x13 x14 x15 x16 x17 x18 x19 x20 x21 x22 x23 x24 x25) (fun y0=>
 .br (y0.2.2.2.2.2.2.2.2.2.2.2.2.2.2.2.2.2.2.2.2.2.2.2.2.2.2.2.2.2 != 0)
 (.at ((0,0,0,0,0,0,0,0,0,0,0,0,0,0,0,0,0,0,0,0,0,[],[],[],[],[],y0.2.2.2.2.2.2.2.2.2.2.2.2.2.2.2.2.2.2.2.2.2.2.2.2.2.2.2.2.2)))
 (.bi (ql4 y0.1 y0.2.1 y0.2.2.1 y0.2.2.2.1 y0.2.2.2.2.1 y0.2.2.2.2.2.1 y0.2.2.2.2.2.2.1
 y0.2.2.2.2.2.2.2.1 y0.2.2.2.2.2.2.2.2.1 y0.2.2.2.2.2.2.2.2.2.1 y0.2.2.2.2.2.2.2.2.2.2.1
 y0.2.2.2.2.2.2.2.2.2.2.2.1 y0.2.2.2.2.2.2.2.2.2.2.2.2.1 y0.2.2.2.2.2.2.2.2.2.2.2.2.2.1
 y0.2.2.2.2.2.2.2.2.2.2.2.2.2.2.1 y0.2.2.2.2.2.2.2.2.2.2.2.2.2.2.2.1
 y0.2.2.2.2.2.2.2.2.2.2.2.2.2.2.2.2.1 y0.2.2.2.2.2.2.2.2.2.2.2.2.2.2.2.2.2.1
 y0.2.2.2.2.2.2.2.2.2.2.2.2.2.2.2.2.2.2.1 y0.2.2.2.2.2.2.2.2.2.2.2.2.2.2.2.2.2.2.2.1
 y0.2.2.2.2.2.2.2.2.2.2.2.2.2.2.2.2.2.2.2.2.1 y0.2.2.2.2.2.2.2.2.2.2.2.2.2.2.2.2.2.2.2.2.2.1
 y0.2.2.2.2.2.2.2.2.2.2.2.2.2.2.2.2.2.2.2.2.2.2.1
 y0.2.2.2.2.2.2.2.2.2.2.2.2.2.2.2.2.2.2.2.2.2.2.2.1
 y0.2.2.2.2.2.2.2.2.2.2.2.2.2.2.2.2.2.2.2.2.2.2.2.2.1
 y0.2.2.2.2.2.2.2.2.2.2.2.2.2.2.2.2.2.2.2.2.2.2.2.2.2.1
 y0.2.2.2.2.2.2.2.2.2.2.2.2.2.2.2.2.2.2.2.2.2.2.2.2.2.2.1) (fun y1=>
 .bi (qis x0 x1 x2 x3 x4 x5 x6 x7 x8 x9 x10 x11 x12 x13 x14 x15 x16 x17 x18 x19 x20 x21 x22 x23 x24) (fun y2=>
 .bi (qqg
 [AV.agg
 [.int .i64 1,
 .int .i64 (IntKind.i64.wrap (x5 + y0.2.2.2.2.2.2.2.2.2.2.2.2.2.2.2.2.2.2.2.2.2.2.2.2.2.2.2.2.1))],
 AV.agg [.int .i64 2,.int .i64 x6],AV.agg [.int .i64 3,.int .i64 y1],AV.agg [.int .i64 4,.int .i64 y2]]) (fun y3=>
 .br (decide (y0.2.2.2.2.2.2.2.2.2.2.2.2.2.2.2.2.2.2.2.2.2.2.2.2.2.1.length = 0))
 (.br (decide ((y0.2.2.2.2.2.2.2.2.2.2.2.2.2.2.2.2.2.2.2.2.2.2.2.2.2.2.1.length:Int) > 0))
 (.bi (qbI y0.2.2.2.2.2.2.2.2.2.2.2.2.2.2.2.2.2.2.2.2.2.2.2.2.2.2.1) (fun y4=>
 .bi (qbI y0.2.2.2.2.2.2.2.2.2.2.2.2.2.2.2.2.2.2.2.2.2.2.2.2.2.1) (fun y5=>
 .bi (qj5 y0.1 y0.2.1 y0.2.2.1 y0.2.2.2.1 y0.2.2.2.2.1 y0.2.2.2.2.2.1 y0.2.2.2.2.2.2.1
 y0.2.2.2.2.2.2.2.1 y0.2.2.2.2.2.2.2.2.1 y0.2.2.2.2.2.2.2.2.2.1 y0.2.2.2.2.2.2.2.2.2.2.1
 y0.2.2.2.2.2.2.2.2.2.2.2.1 y0.2.2.2.2.2.2.2.2.2.2.2.2.1 y0.2.2.2.2.2.2.2.2.2.2.2.2.2.1
 y0.2.2.2.2.2.2.2.2.2.2.2.2.2.2.1 y0.2.2.2.2.2.2.2.2.2.2.2.2.2.2.2.1
 y0.2.2.2.2.2.2.2.2.2.2.2.2.2.2.2.2.1 y0.2.2.2.2.2.2.2.2.2.2.2.2.2.2.2.2.2.1
 y0.2.2.2.2.2.2.2.2.2.2.2.2.2.2.2.2.2.2.1 y0.2.2.2.2.2.2.2.2.2.2.2.2.2.2.2.2.2.2.2.1
 y0.2.2.2.2.2.2.2.2.2.2.2.2.2.2.2.2.2.2.2.2.1 y0.2.2.2.2.2.2.2.2.2.2.2.2.2.2.2.2.2.2.2.2.2.1
 y0.2.2.2.2.2.2.2.2.2.2.2.2.2.2.2.2.2.2.2.2.2.2.1
 y0.2.2.2.2.2.2.2.2.2.2.2.2.2.2.2.2.2.2.2.2.2.2.2.1
 y0.2.2.2.2.2.2.2.2.2.2.2.2.2.2.2.2.2.2.2.2.2.2.2.2.1
 y0.2.2.2.2.2.2.2.2.2.2.2.2.2.2.2.2.2.2.2.2.2.2.2.2.2.1
 y0.2.2.2.2.2.2.2.2.2.2.2.2.2.2.2.2.2.2.2.2.2.2.2.2.2.2.1) (fun y6=>
 .bi (qbL y4.1) (fun y7=>
 .bi (br (!y7) (some true)
 (br (sm (qbL (if IntKind.i64.wrap (x4 - y5.2) > y6.2.2.2 then IntKind.i64.wrap (x4 - y5.2) else y6.2.2.2)))
 (some !gv (qbL (if IntKind.i64.wrap (x4 - y5.2) > y6.2.2.2 then IntKind.i64.wrap (x4 - y5.2) else y6.2.2.2))) none)) (fun y8=>
 .br (y8)
 (.at ((0,0,0,0,0,0,0,0,0,0,0,0,0,0,0,0,0,0,0,0,0,[],[],[],[],[],6)))
 (.br (decide (x24.length = 0))
 (.bi (qbI
 [AV.agg
 [.int .i64 (IntKind.i64.wrap (0 + 1)),.int .i64 x25,.int .i64 y4.1,
 .int .i64 (if IntKind.i64.wrap (x4 - y5.2) > y6.2.2.2 then IntKind.i64.wrap (x4 - y5.2) else y6.2.2.2)]]) (fun y9=>
 .at ((x0,x1,2,y9.1,y9.2,0,0,x7,x8,x9,x10,x11,x12,x13,x14,x15,x16,x17,x18,x19,x20,x21,x22,[AV.agg
 [.int .i64 (IntKind.i64.wrap (0 + 1)),.int .i64 x25,.int .i64 y4.1,
 .int .i64 (if IntKind.i64.wrap (x4 - y5.2) > y6.2.2.2 then IntKind.i64.wrap (x4 - y5.2) else y6.2.2.2)]],[],y3,0)))
 (.no))
 (.br (decide (x24.length ≠ 0) && decide (x24.length * 128 <= lim))
 (.bi (qbI
 [AV.agg
 [.int .i64 (IntKind.i64.wrap (0 + 1)),.int .i64 x25,.int .i64 y4.1,
 .int .i64 (if IntKind.i64.wrap (x4 - y5.2) > y6.2.2.2 then IntKind.i64.wrap (x4 - y5.2) else y6.2.2.2)]]) (fun y9=>
 .at ((x0,x1,2,y9.1,y9.2,0,0,x7,x8,x9,x10,x11,x12,x13,x14,x15,x16,x17,x18,x19,x20,x21,x22,[AV.agg
 [.int .i64 (IntKind.i64.wrap (0 + 1)),.int .i64 x25,.int .i64 y4.1,
 .int .i64 (if IntKind.i64.wrap (x4 - y5.2) > y6.2.2.2 then IntKind.i64.wrap (x4 - y5.2) else y6.2.2.2)]],x24,y3,0)))
 (.no))
 (.no))))
 (.no))
 (.no))
 (.no))
 (.no))
 (.no))
 (.br (decide (x24.length = 0))
 (.bi (qbI []) (fun y4=>
 .at ((x0,x1,2,y4.1,y4.2,0,0,x7,x8,x9,x10,x11,x12,x13,x14,x15,x16,x17,x18,x19,x20,x21,x22,[],[],y3,0)))
 (.no))
 (.br (decide (x24.length ≠ 0) && decide (x24.length * 128 <= lim))
 (.bi (qbI []) (fun y4=>
 .at ((x0,x1,2,y4.1,y4.2,0,0,x7,x8,x9,x10,x11,x12,x13,x14,x15,x16,x17,x18,x19,x20,x21,x22,[],x24,y3,0)))
 (.no))
 (.no))))
 (.br (decide (y0.2.2.2.2.2.2.2.2.2.2.2.2.2.2.2.2.2.2.2.2.2.2.2.2.2.1.length ≠ 0) &&
 decide (y0.2.2.2.2.2.2.2.2.2.2.2.2.2.2.2.2.2.2.2.2.2.2.2.2.2.1.length * 32 <= lim))
 (.br (decide ((y0.2.2.2.2.2.2.2.2.2.2.2.2.2.2.2.2.2.2.2.2.2.2.2.2.2.2.1.length:Int) > 0))
 (.bi (qbI y0.2.2.2.2.2.2.2.2.2.2.2.2.2.2.2.2.2.2.2.2.2.2.2.2.2.2.1) (fun y4=>
 .bi (qbI y0.2.2.2.2.2.2.2.2.2.2.2.2.2.2.2.2.2.2.2.2.2.2.2.2.2.1) (fun y5=>
 .bi (qj5 y0.1 y0.2.1 y0.2.2.1 y0.2.2.2.1 y0.2.2.2.2.1 y0.2.2.2.2.2.1 y0.2.2.2.2.2.2.1
 y0.2.2.2.2.2.2.2.1 y0.2.2.2.2.2.2.2.2.1 y0.2.2.2.2.2.2.2.2.2.1 y0.2.2.2.2.2.2.2.2.2.2.1
 y0.2.2.2.2.2.2.2.2.2.2.2.1 y0.2.2.2.2.2.2.2.2.2.2.2.2.1 y0.2.2.2.2.2.2.2.2.2.2.2.2.2.1
 y0.2.2.2.2.2.2.2.2.2.2.2.2.2.2.1 y0.2.2.2.2.2.2.2.2.2.2.2.2.2.2.2.1
 y0.2.2.2.2.2.2.2.2.2.2.2.2.2.2.2.2.1 y0.2.2.2.2.2.2.2.2.2.2.2.2.2.2.2.2.2.1
 y0.2.2.2.2.2.2.2.2.2.2.2.2.2.2.2.2.2.2.1 y0.2.2.2.2.2.2.2.2.2.2.2.2.2.2.2.2.2.2.2.1
 y0.2.2.2.2.2.2.2.2.2.2.2.2.2.2.2.2.2.2.2.2.1 y0.2.2.2.2.2.2.2.2.2.2.2.2.2.2.2.2.2.2.2.2.2.1
 y0.2.2.2.2.2.2.2.2.2.2.2.2.2.2.2.2.2.2.2.2.2.2.1
 y0.2.2.2.2.2.2.2.2.2.2.2.2.2.2.2.2.2.2.2.2.2.2.2.1
 y0.2.2.2.2.2.2.2.2.2.2.2.2.2.2.2.2.2.2.2.2.2.2.2.2.1
 y0.2.2.2.2.2.2.2.2.2.2.2.2.2.2.2.2.2.2.2.2.2.2.2.2.2.1
 y0.2.2.2.2.2.2.2.2.2.2.2.2.2.2.2.2.2.2.2.2.2.2.2.2.2.2.1) (fun y6=>
 .bi (qbL y4.1) (fun y7=>
 .bi (br (!y7) (some true)
 (br (sm (qbL (if IntKind.i64.wrap (x4 - y5.2) > y6.2.2.2 then IntKind.i64.wrap (x4 - y5.2) else y6.2.2.2)))
 (some !gv (qbL (if IntKind.i64.wrap (x4 - y5.2) > y6.2.2.2 then IntKind.i64.wrap (x4 - y5.2) else y6.2.2.2))) none)) (fun y8=>
 .br (y8)
 (.at ((0,0,0,0,0,0,0,0,0,0,0,0,0,0,0,0,0,0,0,0,0,[],[],[],[],[],6)))
 (.br (room (y0.2.2.2.2.2.2.2.2.2.2.2.2.2.2.2.2.2.2.2.2.2.2.2.2.2.1.length + 1) 32)
 (.br (decide (x24.length = 0))
 (.bi (qbI
 (y0.2.2.2.2.2.2.2.2.2.2.2.2.2.2.2.2.2.2.2.2.2.2.2.2.2.1 ++
 [AV.agg
 [.int .i64 (IntKind.i64.wrap ((y0.2.2.2.2.2.2.2.2.2.2.2.2.2.2.2.2.2.2.2.2.2.2.2.2.2.1.length:Int) + 1)),
 .int .i64 x25,.int .i64 y4.1,
 .int .i64 (if IntKind.i64.wrap (x4 - y5.2) > y6.2.2.2 then IntKind.i64.wrap (x4 - y5.2) else y6.2.2.2)]])) (fun y9=>
 .at ((x0,x1,2,y9.1,y9.2,0,0,x7,x8,x9,x10,x11,x12,x13,x14,x15,x16,x17,x18,x19,x20,x21,x22,y0.2.2.2.2.2.2.2.2.2.2.2.2.2.2.2.2.2.2.2.2.2.2.2.2.2.1 ++
 [AV.agg
 [.int .i64 (IntKind.i64.wrap ((y0.2.2.2.2.2.2.2.2.2.2.2.2.2.2.2.2.2.2.2.2.2.2.2.2.2.1.length:Int) + 1)),
 .int .i64 x25,.int .i64 y4.1,
 .int .i64 (if IntKind.i64.wrap (x4 - y5.2) > y6.2.2.2 then IntKind.i64.wrap (x4 - y5.2) else y6.2.2.2)]],[],y3,0)))
 (.no))
 (.br (decide (x24.length ≠ 0) && decide (x24.length * 128 <= lim))
 (.bi (qbI
 (y0.2.2.2.2.2.2.2.2.2.2.2.2.2.2.2.2.2.2.2.2.2.2.2.2.2.1 ++
 [AV.agg
 [.int .i64 (IntKind.i64.wrap ((y0.2.2.2.2.2.2.2.2.2.2.2.2.2.2.2.2.2.2.2.2.2.2.2.2.2.1.length:Int) + 1)),
 .int .i64 x25,.int .i64 y4.1,
 .int .i64 (if IntKind.i64.wrap (x4 - y5.2) > y6.2.2.2 then IntKind.i64.wrap (x4 - y5.2) else y6.2.2.2)]])) (fun y9=>
 .at ((x0,x1,2,y9.1,y9.2,0,0,x7,x8,x9,x10,x11,x12,x13,x14,x15,x16,x17,x18,x19,x20,x21,x22,y0.2.2.2.2.2.2.2.2.2.2.2.2.2.2.2.2.2.2.2.2.2.2.2.2.2.1 ++
 [AV.agg
 [.int .i64 (IntKind.i64.wrap ((y0.2.2.2.2.2.2.2.2.2.2.2.2.2.2.2.2.2.2.2.2.2.2.2.2.2.1.length:Int) + 1)),
 .int .i64 x25,.int .i64 y4.1,
 .int .i64 (if IntKind.i64.wrap (x4 - y5.2) > y6.2.2.2 then IntKind.i64.wrap (x4 - y5.2) else y6.2.2.2)]],x24,y3,0)))
 (.no))
 (.no)))
 (.no)))
 (.no))
 (.no))
 (.no))
 (.no))
 (.no))
 (.br (decide (x24.length = 0))
 (.bi (qbI y0.2.2.2.2.2.2.2.2.2.2.2.2.2.2.2.2.2.2.2.2.2.2.2.2.2.1) (fun y4=>
 .at ((x0,x1,2,y4.1,y4.2,0,0,x7,x8,x9,x10,x11,x12,x13,x14,x15,x16,x17,x18,x19,x20,x21,x22,y0.2.2.2.2.2.2.2.2.2.2.2.2.2.2.2.2.2.2.2.2.2.2.2.2.2.1,[],y3,0)))
 (.no))
 (.br (decide (x24.length ≠ 0) && decide (x24.length * 128 <= lim))
 (.bi (qbI y0.2.2.2.2.2.2.2.2.2.2.2.2.2.2.2.2.2.2.2.2.2.2.2.2.2.1) (fun y4=>
 .at ((x0,x1,2,y4.1,y4.2,0,0,x7,x8,x9,x10,x11,x12,x13,x14,x15,x16,x17,x18,x19,x20,x21,x22,y0.2.2.2.2.2.2.2.2.2.2.2.2.2.2.2.2.2.2.2.2.2.2.2.2.2.1,x24,y3,0)))
 (.no))
 (.no))))
 (.no)))
 (.no))
 (.no))
 (.no)))
 (.no)
def qfa (x0 x1:Int) (x2 x3:Int) (x4 x5:Int) (x6 x7:Int) (x8 x9:Int) (x10 x11:Int) (x12 x13:Int) (x14 x15:Int) (x16 x17:Int) (x18 x19 x20:Int) (x21 x22:List UInt8) (x23 x24:List AV) (x25:Int):Option qjx:=qaK (qho x0 x1 x2 x3 x4 x5 x6 x7 x8 x9 x10 x11 x12 x13 x14 x15 x16 x17 x18 x19 x20 x21 x22 x23 x24 x25).ev
theorem qlQ (x0 x1 x2 x3 x4 x5 x6 x7 x8 x9 x10 x11 x12 x13 x14 x15 x16 x17 x18 x19 x20 x21 x22 x23 x24 x25):qfa x0 x1 x2 x3 x4 x5 x6 x7 x8 x9 x10 x11 x12 x13 x14 x15 x16 x17 x18 x19 x20 x21 x22 x23 x24 x25 = (qho x0 x1 x2 x3 x4 x5 x6 x7 x8 x9 x10 x11 x12 x13 x14 x15 x16 x17 x18 x19 x20 x21 x22 x23 x24 x25).ev:=qaa _
theorem qMW:FH IP 10 qCQ qDB (k26 qfa):=fh F10 (k26 qho) qJA
def T93:Tab:=(10,FE qCQ qDB (k26 qfa)) :: T92
theorem qy9:qap IP T93:=⟨qas qMW,qJA⟩
end
end Go.Proofs.H35
namespace Go.Proofs.H35
open Go Go.Eng
set_option maxRecDepth 100000
noncomputable section
abbrev qdE:Type:=Int × Int × Int × List AV × Int × Int × Int × Int × Int × Int × Int × Int × Int × Int × Int × Int × List UInt8 × List UInt8 × Int × Int × Int × Int × Int × Int × Int × Int × Int × Int × Int × Int × Int × Int × Int × Int × Int × Int × Int × Int × Int × List UInt8 × List UInt8 × List AV × List AV
def qBe:List PSt:=[⟨[(1000301,.junk),(3,.ref 0 0 0),(10,.int .i64),(11,.int .i64),(16,.int .i64),(18,.ref 1 0 0),(19,.view 2),(21,.int .i64),(22,.int .i64)],[(0,.box [.int .i64,.int .i64,.int .i64,.int .i64,.int .i64,.int .i64,.int .i64,.int .i64,.int .i64,.int .i64,.str,.str] false),(1,.box [.int .i64,.int .i64,.int .i64,.int .i64,.int .i64,.int .i64,.int .i64,.int .i64,.int .i64,.int .i64,.int .i64,.int .i64,.int .i64,.int .i64,.int .i64,.int .i64,.int .i64,.int .i64,.int .i64,.int .i64,.int .i64,.str,.str,.view 4,.view 14] false)],2,0⟩]
def qG0 (x0 x1 x2:Int) (x3:List AV) (x4 x5:Int) (x6 x7:Int) (x8 x9:Int) (x10 x11:Int) (x12 x13:Int) (x14 x15:Int) (x16 x17:List UInt8) (x18 x19:Int) (x20 x21:Int) (x22 x23:Int) (x24 x25:Int) (x26 x27:Int) (x28 x29:Int) (x30 x31:Int) (x32 x33:Int) (x34 x35:Int) (x36 x37 x38:Int) (x39 x40:List UInt8) (x41 x42:List AV):X × St:=(.exit 2,
 ⟨[(3,.ref 0 0 0),(10,.int .i64 x0),(11,.int .i64 x1),(16,.int .i64 x2),(18,.ref 1 0 0),(19,.view 2 x3),
 (21,.int .i64 x4)],[(0,
 .box
 [.int .i64 x6,.int .i64 x7,.int .i64 x8,.int .i64 x9,.int .i64 x10,.int .i64 x11,.int .i64 x12,
 .int .i64 x13,.int .i64 x14,.int .i64 x15,.str x16,.str x17]
 false),
 (1,
 .box
 [.int .i64 x18,.int .i64 x19,.int .i64 x20,.int .i64 x21,.int .i64 x22,.int .i64 x23,.int .i64 x24,
 .int .i64 x25,.int .i64 x26,.int .i64 x27,.int .i64 x28,.int .i64 x29,.int .i64 x30,
 .int .i64 x31,.int .i64 x32,.int .i64 x33,.int .i64 x34,.int .i64 x35,.int .i64 x36,
 .int .i64 x37,.int .i64 x38,.str x39,.str x40,.view 4 x41,.view 14 x42]
 false)],2,0⟩)
def qUk:List (qdE -> X × St):=[(k43 qG0)]
def qkU (x0 x1 x2:Int) (x3:List AV) (x4 x5:Int) (x6 x7:Int) (x8 x9:Int) (x10 x11:Int) (x12 x13:Int) (x14 x15:Int) (x16 x17:List UInt8) (x18 x19:Int) (x20 x21:Int) (x22 x23:Int) (x24 x25:Int) (x26 x27:Int) (x28 x29:Int) (x30 x31:Int) (x32 x33:Int) (x34 x35:Int) (x36 x37 x38:Int) (x39 x40:List UInt8) (x41 x42:List AV):DT (Rd qdE):=
 .br (decide (x5 < (x3.length:Int)))
 (.br (qcO [.int .i64,.int .i64] x3 x5)
 (.at (.next ((x0,x1,x2,x3,IntKind.i64.wrap (x4 + intOf (cellAt x3 x5 1)),IntKind.i64.wrap (x5 + 1),x6,x7,x8,x9,x10,x11,x12,x13,x14,x15,x16,x17,x18,x19,x20,x21,x22,x23,x24,x25,x26,x27,x28,x29,x30,x31,x32,x33,x34,x35,x36,x37,x38,x39,x40,x41,x42))))
 (.no))
 (.at (.done 0))
def qif:qdE -> DT (Rd qdE):=(fun v=>qkU v.1 v.2.1 v.2.2.1 v.2.2.2.1 v.2.2.2.2.1 v.2.2.2.2.2.1 v.2.2.2.2.2.2.1 v.2.2.2.2.2.2.2.1 v.2.2.2.2.2.2.2.2.1 v.2.2.2.2.2.2.2.2.2.1 v.2.2.2.2.2.2.2.2.2.2.1 v.2.2.2.2.2.2.2.2.2.2.2.1 v.2.2.2.2.2.2.2.2.2.2.2.2.1 v.2.2.2.2.2.2.2.2.2.2.2.2.2.1 v.2.2.2.2.2.2.2.2.2.2.2.2.2.2.1 v.2.2.2.2.2.2.2.2.2.2.2.2.2.2.2.1 v.2.2.2.2.2.2.2.2.2.2.2.2.2.2.2.2.1 v.2.2.2.2.2.2.2.2.2.2.2.2.2.2.2.2.2.1 v.2.2.2.2.2.2.2.2.2.2.2.2.2.2.2.2.2.2.1 v.2.2.2.2.2.2.2.2.2.2.2.2.2.2.2.2.2.2.2.1 v.2.2.2.2.2.2.2.2.2.2.2.2.2.2.2.2.2.2.2.2.1 v.2.2.2.2.2.2.2.2.2.2.2.2.2.2.2.2.2.2.2.2.2.1 v.2.2.2.2.2.2.2.2.2.2.2.2.2.2.2.2.2.2.2.2.2.2.1 v.2.2.2.2.2.2.2.2.2.2.2.2.2.2.2.2.2.2.2.2.2.2.2.1 v.2.2.2.2.2.2.2.2.2.2.2.2.2.2.2.2.2.2.2.2.2.2.2.2.1 v.2.2.2.2.2.2.2.2.2.2.2.2.2.2.2.2.2.2.2.2.2.2.2.2.2.1 v.2.2.2.2.2.2.2.2.2.2.2.2.2.2.2.2.2.2.2.2.2.2.2.2.2.2.1 v.2.2.2.2.2.2.2.2.2.2.2.2.2.2.2.2.2.2.2.2.2.2.2.2.2.2.2.1 v.2.2.2.2.2.2.2.2.2.2.2.2.2.2.2.2.2.2.2.2.2.2.2.2.2.2.2.2.1 v.2.2.2.2.2.2.2.2.2.2.2.2.2.2.2.2.2.2.2.2.2.2.2.2.2.2.2.2.2.1 v.2.2.2.2.2.2.2.2.2.2.2.2.2.2.2.2.2.2.2.2.2.2.2.2.2.2.2.2.2.2.1 v.2.2.2.2.2.2.2.2.2.2.2.2.2.2.2.2.2.2.2.2.2.2.2.2.2.2.2.2.2.2.2.1 v.2.2.2.2.2.2.2.2.2.2.2.2.2.2.2.2.2.2.2.2.2.2.2.2.2.2.2.2.2.2.2.2.1 v.2.2.2.2.2.2.2.2.2.2.2.2.2.2.2.2.2.2.2.2.2.2.2.2.2.2.2.2.2.2.2.2.2.1 v.2.2.2.2.2.2.2.2.2.2.2.2.2.2.2.2.2.2.2.2.2.2.2.2.2.2.2.2.2.2.2.2.2.2.1 v.2.2.2.2.2.2.2.2.2.2.2.2.2.2.2.2.2.2.2.2.2.2.2.2.2.2.2.2.2.2.2.2.2.2.2.1 v.2.2.2.2.2.2.2.2.2.2.2.2.2.2.2.2.2.2.2.2.2.2.2.2.2.2.2.2.2.2.2.2.2.2.2.2.1 v.2.2.2.2.2.2.2.2.2.2.2.2.2.2.2.2.2.2.2.2.2.2.2.2.2.2.2.2.2.2.2.2.2.2.2.2.2.1 v.2.2.2.2.2.2.2.2.2.2.2.2.2.2.2.2.2.2.2.2.2.2.2.2.2.2.2.2.2.2.2.2.2.2.2.2.2.2.1 v.2.2.2.2.2.2.2.2.2.2.2.2.2.2.2.2.2.2.2.2.2.2.2.2.2.2.2.2.2.2.2.2.2.2.2.2.2.2.2.1 v.2.2.2.2.2.2.2.2.2.2.2.2.2.2.2.2.2.2.2.2.2.2.2.2.2.2.2.2.2.2.2.2.2.2.2.2.2.2.2.2.1 v.2.2.2.2.2.2.2.2.2.2.2.2.2.2.2.2.2.2.2.2.2.2.2.2.2.2.2.2.2.2.2.2.2.2.2.2.2.2.2.2.2.1 v.2.2.2.2.2.2.2.2.2.2.2.2.2.2.2.2.2.2.2.2.2.2.2.2.2.2.2.2.2.2.2.2.2.2.2.2.2.2.2.2.2.2)
def qqx (v:qdE):Option (Nat × qdE):=qaK (qat (fun v=>(qif v).ev) v)
theorem qqy (v):qqx v = qat (fun v=>(qif v).ev) v:=qaa _
def qBM:qdC:=LE (τ:=qdE) (hD qBe) (qqx) qUk
theorem qTH:Go.Eng.Told IP (qai F3 1).1 (qai F3 1).2 (qBM):=lp (inferInstance:Inhabited qdE) (hs:=qBe) qif qy9 qqy
abbrev B63:Type:=Bool
def p63:PArgs:=⟨[.agg [.int .i64,.int .i64,.int .i64,.int .i64],.ptr [.int .i64]],[]⟩
def r63:List PRes:=[⟨false,.bool,[]⟩]
def qVd (x0 x1:Int) (x2 x3 x4:Int):DT B63:=
 .at (decide (x1 > x4))
def f63 (x0 x1:Int) (x2 x3 x4:Int):Option B63:=qaK (qVd x0 x1 x2 x3 x4).ev
theorem qSb (x0 x1:Int) (x2 x3 x4:Int):f63 x0 x1 x2 x3 x4 = (qVd x0 x1 x2 x3 x4).ev:=qaa _
theorem c63:FH IP 63 p63 r63 (k5 f63):=fh F63 (k5 qVd) qy9
def T94:Tab:=(63,FE p63 r63 (k5 f63)) :: T93
theorem qza:qap IP T94:=⟨qas c63,qy9⟩
abbrev qei:Type:=List AV × Int × Int × Int
def qBa:List PSt:=[⟨[(1009300,.junk),(0,.view 4),(1,.fn (.func 63) [.ptr [.int .i64]]),(7,.int .i64),(8,.int .i64)],[],0,0⟩]
def qGT (x0:List AV) (x1 x2 x3:Int):X × St:=(.ret,⟨[(4,.int .i64 x3)],[],0,0⟩)
def qGU (x0:List AV) (x1 x2 x3:Int):X × St:=(.exit 0,⟨[(4,.junk)],[],0,0⟩)
def qUg:List (qei -> X × St):=[(k4 qGT),(k4 qGU)]
def qrB (x0:List AV) (x1 x2 x3:Int):DT (Rd qei):=
 .br (decide (x3 < x2))
 (.br (qcO [.int .i64,.int .i64,.int .i64,.int .i64] x0 x3)
 (.bi (f63 (intOf (cellAt x0 x3 0)) (intOf (cellAt x0 x3 1)) (intOf (cellAt x0 x3 2)) (intOf (cellAt x0 x3 3)) x1) (fun y0=>
 .br (y0) (.at (.done 0)) (.at (.next ((x0,x1,x2,IntKind.i64.wrap (x3 + 1))))))
 (.no))
 (.no))
 (.at (.done 1))
def qn2:qei -> DT (Rd qei):=(fun v=>qrB v.1 v.2.1 v.2.2.1 v.2.2.2)
def qqp (v:qei):Option (Nat × qei):=qaK (qat (fun v=>(qn2 v).ev) v)
theorem qqq (v):qqp v = qat (fun v=>(qn2 v).ev) v:=qaa _
def qBI:qdC:=LE (τ:=qei) (hD qBa) (qqp) qUg
theorem qTD:Go.Eng.Told IP (qai F93 0).1 (qai F93 0).2 (qBI):=lp (inferInstance:Inhabited qei) (hs:=qBa) qn2 qza qqq
abbrev qHH:Type:=Int
def qKs:PArgs:=⟨[.view 4,.fn (.func 63) [.ptr [.int .i64]]],[]⟩
def qLv:List PRes:=[⟨false,.int .i64,[]⟩]
def qoo (x0:List AV) (x1:Int):DT qHH:=
 .bi (pj 0 (qqp (x0,x1,(x0.length:Int),0))) (fun y0=>
 .at (y0.2.2.2))
 (.bi (pj 1 (qqp (x0,x1,(x0.length:Int),0))) (fun y0=>
 .at (-1))
 (.no))
def qlZ (x0:List AV) (x1:Int):Option qHH:=qaK (qoo x0 x1).ev
theorem qz5 (x0 x1):qlZ x0 x1 = (qoo x0 x1).ev:=qaa _
theorem qQW:FH IP 93 qKs qLv (k2 qlZ):=qaj (F:=F93) (L:=[(1009300,qBI)]) (t:=(k2 qoo)) qza (qaf (l:=[qai F93 0]) (by kernel_rfl) ⟨qaG (by kernel_rfl) qTD,trivial⟩) (by kernel_rfl) (fun v=>by kernel_rfl) (fun _=>qaa _)
def T95:Tab:=(93,FE qKs qLv (k2 qlZ)) :: T94
theorem qzb:qap IP T95:=⟨qas qQW,qza⟩
abbrev qgQ:Type:=Int × Int × Int
def qJ2:List PSt:=[⟨[(1006200,.junk),(0,.nils ⟨4,.any⟩),(1,.fn (.func 63) [.ref 0 0 0]),(5,.int .i64),(6,.int .i64)],[(0,.box [.int .i64] false)],1,1⟩]
def qOS (x0 x1 x2:Int):X × St:=(X.exit 0,⟨[(0,AV.nils ⟨4,NKd.any⟩),(5,.int .i64 x0)],[(0,Blk.box [.int .i64 x2] false)],1,1⟩)
def qZ0:List (qgQ -> X × St):=[(k3 qOS)]
def qGE (x0 x1 x2:Int):DT (Rd qgQ):=
 .br (decide (x1 < 0)) (.no) (.at (.done 0))
def qEe:qgQ -> DT (Rd qgQ):=(fun v=>qGE v.1 v.2.1 v.2.2)
def qNU (v:qgQ):Option (Nat × qgQ):=qaK (qat (fun v=>(qEe v).ev) v)
theorem qFX (v:qgQ):qNU v = qat (fun v=>(qEe v).ev) v:=qaa _
def qKd:qdC:=LE (τ:=qgQ) (hD qJ2) (qNU) qZ0
theorem qZH:Go.Eng.Told IP (qai F62 0).1 (qai F62 0).2 (qKd):=lp (inferInstance:Inhabited qgQ) (hs:=qJ2) qEe qzb qFX
abbrev B62:Type:=Int
def p62:PArgs:=⟨[.nils ⟨4,.any⟩,.fn (.func 63) [.ref 0 0 0]],[(0,.box [.int .i64] false)]⟩
def r62:List PRes:=[⟨false,.nils ⟨4,.any⟩,[(0,.box [.int .i64] false)]⟩]
def qZR (x0:Int):DT B62:=
 .bi (qlZ [] x0) (fun y0=>
 .br (y0 == -1)
 (.at (x0))
 (.bi (pj 0 (qNU (y0,IntKind.i64.wrap (y0 + 1),x0))) (fun y1=>
 .br (leB y1.1 0)
 (.br (leB y1.1 0 && true) (.at (y1.2.2)) (.no))
 (.no))
 (.no)))
 (.no)
def f62 (x0:Int):Option B62:=qaK (qZR x0).ev
theorem c62:FH IP 62 p62 r62 f62:=qaj (F:=F62) (L:=[(1006200,qKd)]) (t:=qZR) qzb (qaf (l:=[qai F62 0]) (by kernel_rfl) ⟨qaG (by kernel_rfl) qZH,trivial⟩) (by kernel_rfl) (fun v=>by kernel_rfl) (fun _=>qaa _)
def T96:Tab:=(62,FE p62 r62 f62) :: T95
theorem qJB:qap IP T96:=⟨qas c62,qzb⟩
abbrev qZ8:Type:=Bool × Int
def q1Y:PArgs:=⟨[.agg [.int .i64,.int .i64,.int .i64,.int .i64],.ref 0 0 0],[(0,.box [.int .i64] false)]⟩
def q10:List PRes:=[⟨false,.bool,[(0,.box [.int .i64] false)]⟩]
def qGL (x0 x1:Int) (x2 x3 x4:Int):DT qZ8:=
 .at ((decide (x1 > x4),x4))
def qSc (x0 x1:Int) (x2 x3 x4:Int):Option qZ8:=qaK (qGL x0 x1 x2 x3 x4).ev
theorem qNF (x0 x1:Int) (x2 x3 x4:Int):qSc x0 x1 x2 x3 x4 = (qGL x0 x1 x2 x3 x4).ev:=qaa _
theorem q2c:FH IP 63 q1Y q10 (k5 qSc):=fh F63 (k5 qGL) qJB
def T97:Tab:=(63,FE q1Y q10 (k5 qSc)) :: T96
theorem qzc:qap IP T97:=⟨qas q2c,qJB⟩
abbrev qeh:Type:=Int × Int × List AV × Int
def qA9:List PSt:=[⟨[(1006200,.junk),(0,.own 0 0),(1,.fn (.func 63) [.ref 1 0 0]),(5,.int .i64),(6,.int .i64)],[(0,.arr 4 false),(1,.box [.int .i64] false)],2,2⟩]
def qGS (x0 x1:Int) (x2:List AV) (x3:Int):X × St:=(X.exit 0,⟨[(0,AV.own 0 0 none),(5,.int .i64 x0)],[(0,Blk.arr 4 x2 false),(1,Blk.box [.int .i64 x3] false)],2,2⟩)
def qUf:List (qeh -> X × St):=[(k4 qGS)]
def qkS (x0 x1:Int) (x2:List AV) (x3:Int):DT (Rd qeh):=
 .br (decide (x1 < (x2.length:Int)))
 (.br (inB x2.length x1)
 (.br (okP [.int .i64,.int .i64,.int .i64,.int .i64] x2 x1.toNat 0)
 (.bi (qSc (intOf (qca x2 x1.toNat 0)) (intOf (qca x2 x1.toNat 1)) (intOf (qca x2 x1.toNat 2)) (intOf (qca x2 x1.toNat 3)) x3) (fun y0=>
 .br (!y0.1)
 (.br (inB x2.length x0)
 (.br (okS x2 x0.toNat 0 4)
 (.at (.next ((IntKind.i64.wrap (x0 + 1),IntKind.i64.wrap (x1 + 1),qxu x2 x0.toNat 0
 [.int .i64 (intOf (qca x2 x1.toNat 0)),.int .i64 (intOf (qca x2 x1.toNat 1)),.int .i64 (intOf (qca x2 x1.toNat 2)),
 .int .i64 (intOf (qca x2 x1.toNat 3))],y0.2))))
 (.no))
 (.no))
 (.at (.next ((x0,IntKind.i64.wrap (x1 + 1),x2,y0.2)))))
 (.no))
 (.no))
 (.no))
 (.at (.done 0))
def qtb:qeh -> DT (Rd qeh):=(fun v=>qkS v.1 v.2.1 v.2.2.1 v.2.2.2)
def qu7 (v:qeh):Option (Nat × qeh):=qaK (qat (fun v=>(qtb v).ev) v)
theorem qqo (v:qeh):qu7 v = qat (fun v=>(qtb v).ev) v:=qaa _
def qBH:qdC:=LE (τ:=qeh) (hD qA9) (qu7) qUf
theorem qTC:Go.Eng.Told IP (qai F62 0).1 (qai F62 0).2 (qBH):=lp (inferInstance:Inhabited qeh) (hs:=qA9) qtb qzc qqo
abbrev qZ7:Type:=(List AV × Int) ⊕ (Nat × List AV × Int)
def q1X:PArgs:=⟨[.own 0 0,.fn (.func 63) [.ref 1 0 0]],[(0,.arr 4 false),(1,.box [.int .i64] false)]⟩
def q1Z:List PRes:=[⟨false,.own 0 0,[(0,.arr 4 false),(1,.box [.int .i64] false)]⟩,⟨false,.ownn 0 0,[(0,.arr 4 false),(1,.box [.int .i64] false)]⟩]
def qGK (x0:List AV) (x1:Int):DT qZ7:=
 .bi (qlZ x0 x1) (fun y0=>
 .br (y0 == -1)
 (.at ((.inl (x0,x1))))
 (.bi (pj 0 (qu7 (y0,IntKind.i64.wrap (y0 + 1),x0,x1))) (fun y1=>
 .br (leB y1.1 y1.2.2.1.length && true)
 (.br (decide (0 + y1.1.toNat + qa9 y1.2.2.1.length (0 + y1.1.toNat) none <= y1.2.2.1.length))
 (.br (leB y1.1
 (List.take (0 + y1.1.toNat) y1.2.2.1 ++
 List.replicate (qa9 y1.2.2.1.length (0 + y1.1.toNat) none) (AV.agg [.int .i64 0,.int .i64 0,.int .i64 0,.int .i64 0]) ++
 List.drop (0 + y1.1.toNat + qa9 y1.2.2.1.length (0 + y1.1.toNat) none) y1.2.2.1).length &&
 true &&
 decide
 (0 + y1.1.toNat <=
 (List.take (0 + y1.1.toNat) y1.2.2.1 ++
 List.replicate (qa9 y1.2.2.1.length (0 + y1.1.toNat) none) (AV.agg [.int .i64 0,.int .i64 0,.int .i64 0,.int .i64 0]) ++
 List.drop (0 + y1.1.toNat + qa9 y1.2.2.1.length (0 + y1.1.toNat) none) y1.2.2.1).length))
 (.at ((.inr (y1.1.toNat - 0,List.take (0 + y1.1.toNat) y1.2.2.1 ++
 List.replicate (qa9 y1.2.2.1.length (0 + y1.1.toNat) none) (AV.agg [.int .i64 0,.int .i64 0,.int .i64 0,.int .i64 0]) ++
 List.drop (0 + y1.1.toNat + qa9 y1.2.2.1.length (0 + y1.1.toNat) none) y1.2.2.1,y1.2.2.2))))
 (.no))
 (.no))
 (.no))
 (.no)))
 (.no)
def qPi (x0:List AV) (x1:Int):Option qZ7:=qaK (qGK x0 x1).ev
theorem qND (x0:List AV) (x1:Int):qPi x0 x1 = (qGK x0 x1).ev:=qaa _
theorem q2b:FH IP 62 q1X q1Z (k2 qPi):=qaj (F:=F62) (L:=[(1006200,qBH)]) (t:=(k2 qGK)) qzc (qaf (l:=[qai F62 0]) (by kernel_rfl) ⟨qaG (by kernel_rfl) qTC,trivial⟩) (by kernel_rfl) (fun v=>by kernel_rfl) (fun _=>qaa _)
def T98:Tab:=(62,FE q1X q1Z (k2 qPi)) :: T97
theorem qJC:qap IP T98:=⟨qas q2b,qzc⟩
abbrev B32:Type:=List AV
def p32:PArgs:=⟨[.view 4,.int .i64],[]⟩
def r32:List PRes:=[⟨false,.view 4,[]⟩]
def qVb (x0:List AV) (x1:Int):DT B32:=
 .br (decide (x0.length = 0))
 (.bi (f62 x1) (fun y0=>
 .at ([]))
 (.no))
 (.br (decide (x0.length ≠ 0) && decide (x0.length * 32 <= lim))
 (.bi (pl (qPi x0 x1)) (fun y0=>
 .at (y0.1))
 (.bi (pr (qPi x0 x1)) (fun y0=>
 .br (qcF [(48,Blk.arr 4 y0.2.1 false),(0,Blk.box [.int .i64 y0.2.2] false)] qbl (AV.own 48 0 (some y0.1)))
 (.at (List.take y0.1 y0.2.1))
 (.no))
 (.no)))
 (.no))
def f32 (x0:List AV) (x1:Int):Option B32:=qaK (qVb x0 x1).ev
theorem qR9 (x0:List AV) (x1:Int):f32 x0 x1 = (qVb x0 x1).ev:=qaa _
theorem c32:FH IP 32 p32 r32 (k2 f32):=fh F32 (k2 qVb) qJC
def T99:Tab:=(32,FE p32 r32 (k2 f32)) :: T98
theorem qJD:qap IP T99:=⟨qas c32,qJC⟩
abbrev B34:Type:=Bool
def p34:PArgs:=⟨[.agg [.int .i64,.int .i64]],[]⟩
def r34:List PRes:=[⟨false,.bool,[]⟩]
def qVc (x0 x1:Int):DT B34:=
 .at (decide (x1 <= 0))
def f34 (x0 x1:Int):Option B34:=qaK (qVc x0 x1).ev
theorem qSa (x0 x1:Int):f34 x0 x1 = (qVc x0 x1).ev:=qaa _
theorem c34:FH IP 34 p34 r34 (k2 f34):=fh F34 (k2 qVc) qJD
def q1m:Tab:=(34,FE p34 r34 (k2 f34)) :: T99
theorem qse:qap IP q1m:=⟨qas c34,qJD⟩
abbrev qgU:Type:=List AV × Int × Int
def qJ6:List PSt:=[⟨[(1005600,.junk),(0,.view 2),(1,.fn (.func 34) []),(7,.int .i64),(8,.int .i64)],[],0,0⟩]
def qO3 (x0:List AV) (x1 x2:Int):X × St:=(.ret,⟨[(4,.int .i64 x2)],[],0,0⟩)
def qO4 (x0:List AV) (x1 x2:Int):X × St:=(.exit 0,⟨[(4,.junk)],[],0,0⟩)
def qZ4:List (qgU -> X × St):=[(k3 qO3),(k3 qO4)]
def qvX (x0:List AV) (x1 x2:Int):DT (Rd qgU):=
 .br (decide (x2 < x1))
 (.br (qcO [.int .i64,.int .i64] x0 x2)
 (.bi (f34 (intOf (cellAt x0 x2 0)) (intOf (cellAt x0 x2 1))) (fun y0=>
 .br (y0) (.at (.done 0)) (.at (.next ((x0,x1,IntKind.i64.wrap (x2 + 1))))))
 (.no))
 (.no))
 (.at (.done 1))
def qvW:qgU -> DT (Rd qgU):=(fun v=>qvX v.1 v.2.1 v.2.2)
def qBA (v:qgU):Option (Nat × qgU):=qaK (qat (fun v=>(qvW v).ev) v)
theorem qvc (v):qBA v = qat (fun v=>(qvW v).ev) v:=qaa _
def qKh:qdC:=LE (τ:=qgU) (hD qJ6) (qBA) qZ4
theorem qZL:Go.Eng.Told IP (qai F56 0).1 (qai F56 0).2 (qKh):=lp (inferInstance:Inhabited qgU) (hs:=qJ6) qvW qse qvc
abbrev qHE:Type:=Int
def qKp:PArgs:=⟨[.view 2,.fn (.func 34) []],[]⟩
def qLs:List PRes:=[⟨false,.int .i64,[]⟩]
def qom (x0:List AV):DT qHE:=
 .bi (pj 0 (qBA (x0,(x0.length:Int),0))) (fun y0=>
 .at (y0.2.2))
 (.bi (pj 1 (qBA (x0,(x0.length:Int),0))) (fun y0=>
 .at (-1))
 (.no))
def qpH (x0:List AV):Option qHE:=qaK (qom x0).ev
theorem qz3 (x0):qpH x0 = (qom x0).ev:=qaa _
theorem qQT:FH IP 56 qKp qLs qpH:=qaj (F:=F56) (L:=[(1005600,qKh)]) (t:=qom) qse (qaf (l:=[qai F56 0]) (by kernel_rfl) ⟨qaG (by kernel_rfl) qZL,trivial⟩) (by kernel_rfl) (fun v=>by kernel_rfl) (fun _=>qaa _)
def q1n:Tab:=(56,FE qKp qLs qpH) :: q1m
theorem qsf:qap IP q1n:=⟨qas qQT,qse⟩
abbrev qgS:Type:=Int × Int × List AV
def qJ4:List PSt:=[⟨[(1003300,.junk),(0,.own 0 0),(1,.fn (.func 34) []),(5,.int .i64),(6,.int .i64)],[(0,.arr 2 false)],1,1⟩]
def qO1 (x0 x1:Int) (x2:List AV):X × St:=(.exit 0,⟨[(0,.own 0 0 none),(5,.int .i64 x0)],[(0,.arr 2 x2 false)],1,1⟩)
def qZ2:List (qgS -> X × St):=[(k3 qO1)]
def qn5 (x0 x1:Int) (x2:List AV):DT (Rd qgS):=
 .br (decide (x1 < (x2.length:Int)))
 (.br (inB x2.length x1)
 (.br (okP [.int .i64,.int .i64] x2 x1.toNat 0)
 (.bi (f34 (intOf (qca x2 x1.toNat 0)) (intOf (qca x2 x1.toNat 1))) (fun y0=>
 .br (!y0)
 (.br (inB x2.length x0)
 (.br (okS x2 x0.toNat 0 2)
 (.at (.next ((IntKind.i64.wrap (x0 + 1),IntKind.i64.wrap (x1 + 1),qxu x2 x0.toNat 0 [.int .i64 (intOf (qca x2 x1.toNat 0)),.int .i64 (intOf (qca x2 x1.toNat 1))]))))
 (.no))
 (.no))
 (.at (.next ((x0,IntKind.i64.wrap (x1 + 1),x2)))))
 (.no))
 (.no))
 (.no))
 (.at (.done 0))
def qEg:qgS -> DT (Rd qgS):=(fun v=>qn5 v.1 v.2.1 v.2.2)
def qFZ (v:qgS):Option (Nat × qgS):=qaK (qat (fun v=>(qEg v).ev) v)
theorem qu9 (v):qFZ v = qat (fun v=>(qEg v).ev) v:=qaa _
def qKf:qdC:=LE (τ:=qgS) (hD qJ4) (qFZ) qZ2
theorem qZJ:Go.Eng.Told IP (qai F33 0).1 (qai F33 0).2 (qKf):=lp (inferInstance:Inhabited qgS) (hs:=qJ4) qEg qsf qu9
abbrev qPA:Type:=(List AV) ⊕ (Nat × List AV)
def qS5:PArgs:=⟨[.own 0 0,.fn (.func 34) []],[(0,.arr 2 false)]⟩
def qTl:List PRes:=[⟨false,.own 0 0,[(0,.arr 2 false)]⟩,⟨false,.ownn 0 0,[(0,.arr 2 false)]⟩]
def qv3 (x0:List AV):DT qPA:=
 .bi (qpH x0) (fun y0=>
 .br (y0 == -1)
 (.at ((.inl (x0))))
 (.bi (pj 0 (qFZ (y0,IntKind.i64.wrap (y0 + 1),x0))) (fun y1=>
 .br (leB y1.1 y1.2.2.length && true)
 (.br (decide (0 + y1.1.toNat + qa9 y1.2.2.length (0 + y1.1.toNat) none <= y1.2.2.length))
 (.br (leB y1.1
 (List.take (0 + y1.1.toNat) y1.2.2 ++ List.replicate (qa9 y1.2.2.length (0 + y1.1.toNat) none) (AV.agg [.int .i64 0,.int .i64 0]) ++
 List.drop (0 + y1.1.toNat + qa9 y1.2.2.length (0 + y1.1.toNat) none) y1.2.2).length &&
 true &&
 decide
 (0 + y1.1.toNat <=
 (List.take (0 + y1.1.toNat) y1.2.2 ++ List.replicate (qa9 y1.2.2.length (0 + y1.1.toNat) none) (AV.agg [.int .i64 0,.int .i64 0]) ++
 List.drop (0 + y1.1.toNat + qa9 y1.2.2.length (0 + y1.1.toNat) none) y1.2.2).length))
 (.at ((.inr (y1.1.toNat - 0,List.take (0 + y1.1.toNat) y1.2.2 ++ List.replicate (qa9 y1.2.2.length (0 + y1.1.toNat) none) (AV.agg [.int .i64 0,.int .i64 0]) ++
 List.drop (0 + y1.1.toNat + qa9 y1.2.2.length (0 + y1.1.toNat) none) y1.2.2))))
 (.no))
 (.no))
 (.no))
 (.no)))
 (.no)
def qsG (x0:List AV):Option qPA:=qaK (qv3 x0).ev
theorem qFE (x0):qsG x0 = (qv3 x0).ev:=qaa _
theorem qWb:FH IP 33 qS5 qTl qsG:=qaj (F:=F33) (L:=[(1003300,qKf)]) (t:=qv3) qsf (qaf (l:=[qai F33 0]) (by kernel_rfl) ⟨qaG (by kernel_rfl) qZJ,trivial⟩) (by kernel_rfl) (fun v=>by kernel_rfl) (fun _=>qaa _)
def q1o:Tab:=(33,FE qS5 qTl qsG) :: q1n
theorem qyG:qap IP q1o:=⟨qas qWb,qsf⟩
abbrev B12:Type:=List AV
def p12:PArgs:=⟨[.agg [.int .i64,.int .i64,.int .i64,.int .i64,.int .i64,.int .i64,.int .i64,.int .i64,.int .i64,.int .i64,.int .i64,.int .i64,.int .i64,.int .i64,.int .i64,.int .i64,.int .i64,.int .i64,.int .i64,.int .i64,.int .i64,.str,.str,.view 4,.view 14],.int .i64],[]⟩
def r12:List PRes:=[⟨false,.view 2,[]⟩]
def qVa (x0 x1:Int) (x2 x3:Int) (x4 x5:Int) (x6 x7:Int) (x8 x9:Int) (x10 x11:Int) (x12 x13:Int) (x14 x15:Int) (x16 x17:Int) (x18 x19 x20:Int) (x21 x22:List UInt8) (x23 x24:List AV) (x25:Int):DT B12:=
 .bi (f32 x23 x25) (fun y0=>
 .bi (qfd y0) (fun y1=>
 .bi (pl
 (qsG
 [AV.agg [.int .i64 1,.int .i64 x5],AV.agg [.int .i64 2,.int .i64 x6],
 AV.agg [.int .i64 3,.int .i64 (IntKind.i64.wrap (y1.2 - x4))],AV.agg [.int .i64 4,.int .i64 (IntKind.i64.wrap (y1.1 - x3))]])) (fun y2=>
 .at (y2))
 (.bi (pr
 (qsG
 [AV.agg [.int .i64 1,.int .i64 x5],AV.agg [.int .i64 2,.int .i64 x6],
 AV.agg [.int .i64 3,.int .i64 (IntKind.i64.wrap (y1.2 - x4))],AV.agg [.int .i64 4,.int .i64 (IntKind.i64.wrap (y1.1 - x3))]])) (fun y2=>
 .br (qcF
 [(496,Blk.arr 2 y2.2 false),
 (0,
 Blk.box
 [.int .i64 x0,.int .i64 x1,.int .i64 x2,.int .i64 x3,.int .i64 x4,.int .i64 x5,.int .i64 x6,
 .int .i64 x7,.int .i64 x8,.int .i64 x9,.int .i64 x10,.int .i64 x11,.int .i64 x12,.int .i64 x13,
 .int .i64 x14,.int .i64 x15,.int .i64 x16,.int .i64 x17,.int .i64 x18,.int .i64 x19,.int .i64 x20,
 AV.str x21,AV.str x22,AV.view 4 x23,AV.view 14 x24]
 false)]
 qbl (AV.own 496 0 (some y2.1)))
 (.at (List.take y2.1 y2.2))
 (.no))
 (.no)))
 (.no))
 (.no)
def f12 (x0 x1:Int) (x2 x3:Int) (x4 x5:Int) (x6 x7:Int) (x8 x9:Int) (x10 x11:Int) (x12 x13:Int) (x14 x15:Int) (x16 x17:Int) (x18 x19 x20:Int) (x21 x22:List UInt8) (x23 x24:List AV) (x25:Int):Option B12:=qaK (qVa x0 x1 x2 x3 x4 x5 x6 x7 x8 x9 x10 x11 x12 x13 x14 x15 x16 x17 x18 x19 x20 x21 x22 x23 x24 x25).ev
theorem qR8 (x0 x1:Int) (x2 x3:Int) (x4 x5:Int) (x6 x7:Int) (x8 x9:Int) (x10 x11:Int) (x12 x13:Int) (x14 x15:Int) (x16 x17:Int) (x18 x19 x20:Int) (x21 x22:List UInt8) (x23 x24:List AV) (x25:Int):f12 x0 x1 x2 x3 x4 x5 x6 x7 x8 x9 x10 x11 x12 x13 x14 x15 x16 x17 x18 x19 x20 x21 x22 x23 x24 x25 = (qVa x0 x1 x2 x3 x4 x5 x6 x7 x8 x9 x10 x11 x12 x13 x14 x15 x16 x17 x18 x19 x20 x21 x22 x23 x24 x25).ev:=qaa _
theorem c12:FH IP 12 p12 r12 (k26 f12):=fh F12 (k26 qVa) qyG
def q1p:Tab:=(12,FE p12 r12 (k26 f12)) :: q1o
theorem qyH:qap IP q1p:=⟨qas c12,qyG⟩
abbrev qHO:Type:=Bool
def qvI:PArgs:=⟨[.agg [.int .i64,.int .i64,.int .i64,.int .i64,.int .i64,.int .i64,.int .i64,.int .i64,.int .i64,.int .i64,.str,.str],.agg [.str,.view 1,.view 1],.int .u8],[]⟩
def qD1:List PRes:=[⟨false,.bool,[]⟩]
def qov (x0 x1:Int) (x2 x3:Int) (x4 x5:Int) (x6 x7:Int) (x8 x9:Int) (x10 x11 x12:List UInt8) (x13 x14:List AV) (x15:Int):DT qHO:=
 .bi (qpQ x0 x1 x2 x3 x4 x5 x6 x7 x8 x9 x10 x11 x12 x13 x14) (fun y0=>
 .br (!y0)
 (.br (qE8) (.at (true)) (.no))
 (.bi (qp9 7 1000 x0 x1 x2 x3 x4 x5 x6 x7 x8 x9 x10 x11 x12 x13 x14) (fun y1=>
 .bi (br (y1.2.2.2.2.2.2.2.2.2.2.2.2.2.2.2.2.2.2.2.2.2.2.2.2.2 != 0) (some true)
 (some ((y1.2.2.2.2.2.2.2.2.2.2.2.2.2.2.2.2.2.2.2.2.2.2.2.1.length:Int) == 0))) (fun y2=>
 .br (y2)
 (.bi (br (y1.2.2.2.2.2.2.2.2.2.2.2.2.2.2.2.2.2.2.2.2.2.2.2.2.2 != 0) (br qE8 (some true) none) (some false)) (fun y3=>
 .at (y3))
 (.no))
 (.br (decide ((y1.2.2.2.2.2.2.2.2.2.2.2.2.2.2.2.2.2.2.2.2.2.2.2.1.length:Int) ≠ 0))
 (.bi (pj 0
 (qqv
 ((IntKind.i64.wrap x15).tmod (y1.2.2.2.2.2.2.2.2.2.2.2.2.2.2.2.2.2.2.2.2.2.2.2.1.length:Int),x3,0,0,x0,x1,x2,x3,x4,
 x5,x6,x7,x8,x9,x10,x11,y1.1,y1.2.1,y1.2.2.1,y1.2.2.2.1,y1.2.2.2.2.1,y1.2.2.2.2.2.1,y1.2.2.2.2.2.2.1,
 y1.2.2.2.2.2.2.2.1,y1.2.2.2.2.2.2.2.2.1,y1.2.2.2.2.2.2.2.2.2.1,y1.2.2.2.2.2.2.2.2.2.2.1,
 y1.2.2.2.2.2.2.2.2.2.2.2.1,y1.2.2.2.2.2.2.2.2.2.2.2.2.1,y1.2.2.2.2.2.2.2.2.2.2.2.2.2.1,
 y1.2.2.2.2.2.2.2.2.2.2.2.2.2.2.1,y1.2.2.2.2.2.2.2.2.2.2.2.2.2.2.2.1,
 y1.2.2.2.2.2.2.2.2.2.2.2.2.2.2.2.2.1,y1.2.2.2.2.2.2.2.2.2.2.2.2.2.2.2.2.2.1,
 y1.2.2.2.2.2.2.2.2.2.2.2.2.2.2.2.2.2.2.1,y1.2.2.2.2.2.2.2.2.2.2.2.2.2.2.2.2.2.2.2.1,
 y1.2.2.2.2.2.2.2.2.2.2.2.2.2.2.2.2.2.2.2.2.1,
 y1.2.2.2.2.2.2.2.2.2.2.2.2.2.2.2.2.2.2.2.2.2.1,
 y1.2.2.2.2.2.2.2.2.2.2.2.2.2.2.2.2.2.2.2.2.2.2.1,
 y1.2.2.2.2.2.2.2.2.2.2.2.2.2.2.2.2.2.2.2.2.2.2.2.1,
 y1.2.2.2.2.2.2.2.2.2.2.2.2.2.2.2.2.2.2.2.2.2.2.2.2.1))) (fun y3=>
 .br (y3.2.2.2.2.2.2.2.2.2.2.2.2.2.2.2.2.2.2.1 != 1)
 (.br (qE8) (.at (true)) (.no))
 (.bi (qmi y3.2.2.2.2.2.2.2.2.2.2.2.2.2.2.2.2.1 y3.2.2.2.2.2.2.2.2.2.2.2.2.2.2.2.2.2.1
 y3.2.2.2.2.2.2.2.2.2.2.2.2.2.2.2.2.2.2.1 y3.2.2.2.2.2.2.2.2.2.2.2.2.2.2.2.2.2.2.2.1
 y3.2.2.2.2.2.2.2.2.2.2.2.2.2.2.2.2.2.2.2.2.1 y3.2.2.2.2.2.2.2.2.2.2.2.2.2.2.2.2.2.2.2.2.2.1
 y3.2.2.2.2.2.2.2.2.2.2.2.2.2.2.2.2.2.2.2.2.2.2.1
 y3.2.2.2.2.2.2.2.2.2.2.2.2.2.2.2.2.2.2.2.2.2.2.2.1
 y3.2.2.2.2.2.2.2.2.2.2.2.2.2.2.2.2.2.2.2.2.2.2.2.2.1
 y3.2.2.2.2.2.2.2.2.2.2.2.2.2.2.2.2.2.2.2.2.2.2.2.2.2.1
 y3.2.2.2.2.2.2.2.2.2.2.2.2.2.2.2.2.2.2.2.2.2.2.2.2.2.2.1
 y3.2.2.2.2.2.2.2.2.2.2.2.2.2.2.2.2.2.2.2.2.2.2.2.2.2.2.2.1
 y3.2.2.2.2.2.2.2.2.2.2.2.2.2.2.2.2.2.2.2.2.2.2.2.2.2.2.2.2.1
 y3.2.2.2.2.2.2.2.2.2.2.2.2.2.2.2.2.2.2.2.2.2.2.2.2.2.2.2.2.2.1
 y3.2.2.2.2.2.2.2.2.2.2.2.2.2.2.2.2.2.2.2.2.2.2.2.2.2.2.2.2.2.2.1
 y3.2.2.2.2.2.2.2.2.2.2.2.2.2.2.2.2.2.2.2.2.2.2.2.2.2.2.2.2.2.2.2.1
 y3.2.2.2.2.2.2.2.2.2.2.2.2.2.2.2.2.2.2.2.2.2.2.2.2.2.2.2.2.2.2.2.2.1
 y3.2.2.2.2.2.2.2.2.2.2.2.2.2.2.2.2.2.2.2.2.2.2.2.2.2.2.2.2.2.2.2.2.2.1
 y3.2.2.2.2.2.2.2.2.2.2.2.2.2.2.2.2.2.2.2.2.2.2.2.2.2.2.2.2.2.2.2.2.2.2.1
 y3.2.2.2.2.2.2.2.2.2.2.2.2.2.2.2.2.2.2.2.2.2.2.2.2.2.2.2.2.2.2.2.2.2.2.2.1
 y3.2.2.2.2.2.2.2.2.2.2.2.2.2.2.2.2.2.2.2.2.2.2.2.2.2.2.2.2.2.2.2.2.2.2.2.2.1
 y3.2.2.2.2.2.2.2.2.2.2.2.2.2.2.2.2.2.2.2.2.2.2.2.2.2.2.2.2.2.2.2.2.2.2.2.2.2.1
 y3.2.2.2.2.2.2.2.2.2.2.2.2.2.2.2.2.2.2.2.2.2.2.2.2.2.2.2.2.2.2.2.2.2.2.2.2.2.2.1
 y3.2.2.2.2.2.2.2.2.2.2.2.2.2.2.2.2.2.2.2.2.2.2.2.2.2.2.2.2.2.2.2.2.2.2.2.2.2.2.2.1
 y3.2.2.2.2.2.2.2.2.2.2.2.2.2.2.2.2.2.2.2.2.2.2.2.2.2.2.2.2.2.2.2.2.2.2.2.2.2.2.2.2 y3.2.1) (fun y4=>
 .bi (qfa y3.2.2.2.2.2.2.2.2.2.2.2.2.2.2.2.2.1 y3.2.2.2.2.2.2.2.2.2.2.2.2.2.2.2.2.2.1
 y3.2.2.2.2.2.2.2.2.2.2.2.2.2.2.2.2.2.2.1 y3.2.2.2.2.2.2.2.2.2.2.2.2.2.2.2.2.2.2.2.1
 y3.2.2.2.2.2.2.2.2.2.2.2.2.2.2.2.2.2.2.2.2.1 y3.2.2.2.2.2.2.2.2.2.2.2.2.2.2.2.2.2.2.2.2.2.1
 y3.2.2.2.2.2.2.2.2.2.2.2.2.2.2.2.2.2.2.2.2.2.2.1
 y3.2.2.2.2.2.2.2.2.2.2.2.2.2.2.2.2.2.2.2.2.2.2.2.1
 y3.2.2.2.2.2.2.2.2.2.2.2.2.2.2.2.2.2.2.2.2.2.2.2.2.1
 y3.2.2.2.2.2.2.2.2.2.2.2.2.2.2.2.2.2.2.2.2.2.2.2.2.2.1
 y3.2.2.2.2.2.2.2.2.2.2.2.2.2.2.2.2.2.2.2.2.2.2.2.2.2.2.1
 y3.2.2.2.2.2.2.2.2.2.2.2.2.2.2.2.2.2.2.2.2.2.2.2.2.2.2.2.1
 y3.2.2.2.2.2.2.2.2.2.2.2.2.2.2.2.2.2.2.2.2.2.2.2.2.2.2.2.2.1
 y3.2.2.2.2.2.2.2.2.2.2.2.2.2.2.2.2.2.2.2.2.2.2.2.2.2.2.2.2.2.1
 y3.2.2.2.2.2.2.2.2.2.2.2.2.2.2.2.2.2.2.2.2.2.2.2.2.2.2.2.2.2.2.1
 y3.2.2.2.2.2.2.2.2.2.2.2.2.2.2.2.2.2.2.2.2.2.2.2.2.2.2.2.2.2.2.2.1
 y3.2.2.2.2.2.2.2.2.2.2.2.2.2.2.2.2.2.2.2.2.2.2.2.2.2.2.2.2.2.2.2.2.1
 y3.2.2.2.2.2.2.2.2.2.2.2.2.2.2.2.2.2.2.2.2.2.2.2.2.2.2.2.2.2.2.2.2.2.1
 y3.2.2.2.2.2.2.2.2.2.2.2.2.2.2.2.2.2.2.2.2.2.2.2.2.2.2.2.2.2.2.2.2.2.2.1
 y3.2.2.2.2.2.2.2.2.2.2.2.2.2.2.2.2.2.2.2.2.2.2.2.2.2.2.2.2.2.2.2.2.2.2.2.1
 y3.2.2.2.2.2.2.2.2.2.2.2.2.2.2.2.2.2.2.2.2.2.2.2.2.2.2.2.2.2.2.2.2.2.2.2.2.1
 y3.2.2.2.2.2.2.2.2.2.2.2.2.2.2.2.2.2.2.2.2.2.2.2.2.2.2.2.2.2.2.2.2.2.2.2.2.2.1
 y3.2.2.2.2.2.2.2.2.2.2.2.2.2.2.2.2.2.2.2.2.2.2.2.2.2.2.2.2.2.2.2.2.2.2.2.2.2.2.1
 y3.2.2.2.2.2.2.2.2.2.2.2.2.2.2.2.2.2.2.2.2.2.2.2.2.2.2.2.2.2.2.2.2.2.2.2.2.2.2.2.1
 y3.2.2.2.2.2.2.2.2.2.2.2.2.2.2.2.2.2.2.2.2.2.2.2.2.2.2.2.2.2.2.2.2.2.2.2.2.2.2.2.2 y3.2.1) (fun y5=>
 .bi (br (y4.2 != 0) (some true) (some (decide (y4.1 < 1)))) (fun y6=>
 .bi (br y6 (some true) (some (decide (y4.1 > 1000000000000)))) (fun y7=>
 .br (y7)
 (.br (qE8) (.at (true)) (.no))
 (.br (y5.2.2.2.2.2.2.2.2.2.2.2.2.2.2.2.2.2.2.2.2.2.2.2.2.2.2 != 0)
 (.at (false))
 (.bi (pj 0
 (qqx
 (y3.2.1,y3.2.2.1,y4.1,y5.2.2.2.2.2.2.2.2.2.2.2.2.2.2.2.2.2.2.2.2.2.2.2.2.2.1,0,0,y3.2.2.2.2.1,
 y3.2.2.2.2.2.1,y3.2.2.2.2.2.2.1,y3.2.2.2.2.2.2.2.1,y3.2.2.2.2.2.2.2.2.1,
 y3.2.2.2.2.2.2.2.2.2.1,y3.2.2.2.2.2.2.2.2.2.2.1,y3.2.2.2.2.2.2.2.2.2.2.2.1,
 y3.2.2.2.2.2.2.2.2.2.2.2.2.1,y3.2.2.2.2.2.2.2.2.2.2.2.2.2.1,
 y3.2.2.2.2.2.2.2.2.2.2.2.2.2.2.1,y3.2.2.2.2.2.2.2.2.2.2.2.2.2.2.2.1,y5.1,y5.2.1,y5.2.2.1,
 y5.2.2.2.1,y5.2.2.2.2.1,y5.2.2.2.2.2.1,y5.2.2.2.2.2.2.1,y5.2.2.2.2.2.2.2.1,
 y5.2.2.2.2.2.2.2.2.1,y5.2.2.2.2.2.2.2.2.2.1,y5.2.2.2.2.2.2.2.2.2.2.1,
 y5.2.2.2.2.2.2.2.2.2.2.2.1,y5.2.2.2.2.2.2.2.2.2.2.2.2.1,y5.2.2.2.2.2.2.2.2.2.2.2.2.2.1,
 y5.2.2.2.2.2.2.2.2.2.2.2.2.2.2.1,y5.2.2.2.2.2.2.2.2.2.2.2.2.2.2.2.1,
 y5.2.2.2.2.2.2.2.2.2.2.2.2.2.2.2.2.1,y5.2.2.2.2.2.2.2.2.2.2.2.2.2.2.2.2.2.1,
 y5.2.2.2.2.2.2.2.2.2.2.2.2.2.2.2.2.2.2.1,y5.2.2.2.2.2.2.2.2.2.2.2.2.2.2.2.2.2.2.2.1,
 y5.2.2.2.2.2.2.2.2.2.2.2.2.2.2.2.2.2.2.2.2.1,
 y5.2.2.2.2.2.2.2.2.2.2.2.2.2.2.2.2.2.2.2.2.2.1,
 y5.2.2.2.2.2.2.2.2.2.2.2.2.2.2.2.2.2.2.2.2.2.2.1,
 y5.2.2.2.2.2.2.2.2.2.2.2.2.2.2.2.2.2.2.2.2.2.2.2.1,
 y5.2.2.2.2.2.2.2.2.2.2.2.2.2.2.2.2.2.2.2.2.2.2.2.2.1))) (fun y8=>
 .br (y8.2.2.2.2.1 == y8.2.2.1)
 (.bi (ql8 y8.2.2.2.1 4) (fun y9=>
 .br (IntKind.i64.wrap (y8.2.1 + y9) == y8.2.2.2.2.2.2.2.1)
 (.br (y8.2.2.2.2.2.2.2.2.2.2.2.2.2.2.2.2.2.2.2.2.1 == 2)
 (.bi (qis y8.2.2.2.2.2.2.2.2.2.2.2.2.2.2.2.2.2.2.1 y8.2.2.2.2.2.2.2.2.2.2.2.2.2.2.2.2.2.2.2.1
 y8.2.2.2.2.2.2.2.2.2.2.2.2.2.2.2.2.2.2.2.2.1 y8.2.2.2.2.2.2.2.2.2.2.2.2.2.2.2.2.2.2.2.2.2.1
 y8.2.2.2.2.2.2.2.2.2.2.2.2.2.2.2.2.2.2.2.2.2.2.1
 y8.2.2.2.2.2.2.2.2.2.2.2.2.2.2.2.2.2.2.2.2.2.2.2.1
 y8.2.2.2.2.2.2.2.2.2.2.2.2.2.2.2.2.2.2.2.2.2.2.2.2.1
 y8.2.2.2.2.2.2.2.2.2.2.2.2.2.2.2.2.2.2.2.2.2.2.2.2.2.1
 y8.2.2.2.2.2.2.2.2.2.2.2.2.2.2.2.2.2.2.2.2.2.2.2.2.2.2.1
 y8.2.2.2.2.2.2.2.2.2.2.2.2.2.2.2.2.2.2.2.2.2.2.2.2.2.2.2.1
 y8.2.2.2.2.2.2.2.2.2.2.2.2.2.2.2.2.2.2.2.2.2.2.2.2.2.2.2.2.1
 y8.2.2.2.2.2.2.2.2.2.2.2.2.2.2.2.2.2.2.2.2.2.2.2.2.2.2.2.2.2.1
 y8.2.2.2.2.2.2.2.2.2.2.2.2.2.2.2.2.2.2.2.2.2.2.2.2.2.2.2.2.2.2.1
 y8.2.2.2.2.2.2.2.2.2.2.2.2.2.2.2.2.2.2.2.2.2.2.2.2.2.2.2.2.2.2.2.1
 y8.2.2.2.2.2.2.2.2.2.2.2.2.2.2.2.2.2.2.2.2.2.2.2.2.2.2.2.2.2.2.2.2.1
 y8.2.2.2.2.2.2.2.2.2.2.2.2.2.2.2.2.2.2.2.2.2.2.2.2.2.2.2.2.2.2.2.2.2.1
 y8.2.2.2.2.2.2.2.2.2.2.2.2.2.2.2.2.2.2.2.2.2.2.2.2.2.2.2.2.2.2.2.2.2.2.1
 y8.2.2.2.2.2.2.2.2.2.2.2.2.2.2.2.2.2.2.2.2.2.2.2.2.2.2.2.2.2.2.2.2.2.2.2.1
 y8.2.2.2.2.2.2.2.2.2.2.2.2.2.2.2.2.2.2.2.2.2.2.2.2.2.2.2.2.2.2.2.2.2.2.2.2.1
 y8.2.2.2.2.2.2.2.2.2.2.2.2.2.2.2.2.2.2.2.2.2.2.2.2.2.2.2.2.2.2.2.2.2.2.2.2.2.1
 y8.2.2.2.2.2.2.2.2.2.2.2.2.2.2.2.2.2.2.2.2.2.2.2.2.2.2.2.2.2.2.2.2.2.2.2.2.2.2.1
 y8.2.2.2.2.2.2.2.2.2.2.2.2.2.2.2.2.2.2.2.2.2.2.2.2.2.2.2.2.2.2.2.2.2.2.2.2.2.2.2.1
 y8.2.2.2.2.2.2.2.2.2.2.2.2.2.2.2.2.2.2.2.2.2.2.2.2.2.2.2.2.2.2.2.2.2.2.2.2.2.2.2.2.1
 y8.2.2.2.2.2.2.2.2.2.2.2.2.2.2.2.2.2.2.2.2.2.2.2.2.2.2.2.2.2.2.2.2.2.2.2.2.2.2.2.2.2.1
 y8.2.2.2.2.2.2.2.2.2.2.2.2.2.2.2.2.2.2.2.2.2.2.2.2.2.2.2.2.2.2.2.2.2.2.2.2.2.2.2.2.2.2) (fun y10=>
 .br (y10 == 0)
 (.bi (f12 y8.2.2.2.2.2.2.2.2.2.2.2.2.2.2.2.2.2.2.1 y8.2.2.2.2.2.2.2.2.2.2.2.2.2.2.2.2.2.2.2.1
 y8.2.2.2.2.2.2.2.2.2.2.2.2.2.2.2.2.2.2.2.2.1 y8.2.2.2.2.2.2.2.2.2.2.2.2.2.2.2.2.2.2.2.2.2.1
 y8.2.2.2.2.2.2.2.2.2.2.2.2.2.2.2.2.2.2.2.2.2.2.1
 y8.2.2.2.2.2.2.2.2.2.2.2.2.2.2.2.2.2.2.2.2.2.2.2.1
 y8.2.2.2.2.2.2.2.2.2.2.2.2.2.2.2.2.2.2.2.2.2.2.2.2.1
 y8.2.2.2.2.2.2.2.2.2.2.2.2.2.2.2.2.2.2.2.2.2.2.2.2.2.1
 y8.2.2.2.2.2.2.2.2.2.2.2.2.2.2.2.2.2.2.2.2.2.2.2.2.2.2.1
 y8.2.2.2.2.2.2.2.2.2.2.2.2.2.2.2.2.2.2.2.2.2.2.2.2.2.2.2.1
 y8.2.2.2.2.2.2.2.2.2.2.2.2.2.2.2.2.2.2.2.2.2.2.2.2.2.2.2.2.1
 y8.2.2.2.2.2.2.2.2.2.2.2.2.2.2.2.2.2.2.2.2.2.2.2.2.2.2.2.2.2.1
 y8.2.2.2.2.2.2.2.2.2.2.2.2.2.2.2.2.2.2.2.2.2.2.2.2.2.2.2.2.2.2.1
 y8.2.2.2.2.2.2.2.2.2.2.2.2.2.2.2.2.2.2.2.2.2.2.2.2.2.2.2.2.2.2.2.1
 y8.2.2.2.2.2.2.2.2.2.2.2.2.2.2.2.2.2.2.2.2.2.2.2.2.2.2.2.2.2.2.2.2.1
 y8.2.2.2.2.2.2.2.2.2.2.2.2.2.2.2.2.2.2.2.2.2.2.2.2.2.2.2.2.2.2.2.2.2.1
 y8.2.2.2.2.2.2.2.2.2.2.2.2.2.2.2.2.2.2.2.2.2.2.2.2.2.2.2.2.2.2.2.2.2.2.1
 y8.2.2.2.2.2.2.2.2.2.2.2.2.2.2.2.2.2.2.2.2.2.2.2.2.2.2.2.2.2.2.2.2.2.2.2.1
 y8.2.2.2.2.2.2.2.2.2.2.2.2.2.2.2.2.2.2.2.2.2.2.2.2.2.2.2.2.2.2.2.2.2.2.2.2.1
 y8.2.2.2.2.2.2.2.2.2.2.2.2.2.2.2.2.2.2.2.2.2.2.2.2.2.2.2.2.2.2.2.2.2.2.2.2.2.1
 y8.2.2.2.2.2.2.2.2.2.2.2.2.2.2.2.2.2.2.2.2.2.2.2.2.2.2.2.2.2.2.2.2.2.2.2.2.2.2.1
 y8.2.2.2.2.2.2.2.2.2.2.2.2.2.2.2.2.2.2.2.2.2.2.2.2.2.2.2.2.2.2.2.2.2.2.2.2.2.2.2.1
 y8.2.2.2.2.2.2.2.2.2.2.2.2.2.2.2.2.2.2.2.2.2.2.2.2.2.2.2.2.2.2.2.2.2.2.2.2.2.2.2.2.1
 y8.2.2.2.2.2.2.2.2.2.2.2.2.2.2.2.2.2.2.2.2.2.2.2.2.2.2.2.2.2.2.2.2.2.2.2.2.2.2.2.2.2.1
 y8.2.2.2.2.2.2.2.2.2.2.2.2.2.2.2.2.2.2.2.2.2.2.2.2.2.2.2.2.2.2.2.2.2.2.2.2.2.2.2.2.2.2 y8.1) (fun y11=>
 .br ((y11.length:Int) == 0)
 (.br (qE8) (.at (true)) (.no))
 (.at (false)))
 (.no))
 (.at (false)))
 (.no))
 (.at (false)))
 (.at (false)))
 (.no))
 (.at (false)))
 (.no))))
 (.no))
 (.no))
 (.no))
 (.no)))
 (.no))
 (.no)))
 (.no))
 (.no)))
 (.no)
def quL (x0 x1:Int) (x2 x3:Int) (x4 x5:Int) (x6 x7:Int) (x8 x9:Int) (x10 x11 x12:List UInt8) (x13 x14:List AV) (x15:Int):Option qHO:=qaK (qov x0 x1 x2 x3 x4 x5 x6 x7 x8 x9 x10 x11 x12 x13 x14 x15).ev
theorem qAc (x0 x1 x2 x3 x4 x5 x6 x7 x8 x9 x10 x11 x12 x13 x14 x15):quL x0 x1 x2 x3 x4 x5 x6 x7 x8 x9 x10 x11 x12 x13 x14 x15 = (qov x0 x1 x2 x3 x4 x5 x6 x7 x8 x9 x10 x11 x12 x13 x14 x15).ev:=qaa _
theorem qJK:FH IP 3 qvI qD1 (k16 quL):=qaj (F:=F3) (L:=[(1000300,qBL),(1000301,qBM)]) (t:=(k16 qov)) qyH (qaf (l:=[qai F3 0,qai F3 1]) (by kernel_rfl) ⟨qaG (by kernel_rfl) qTG,qaG (by kernel_rfl) qTH,trivial⟩) (by kernel_rfl) (fun v=>by kernel_rfl) (fun _=>qaa _)
def q1q:Tab:=(3,FE qvI qD1 (k16 quL)) :: q1p
theorem qyI:qap IP q1q:=⟨qas qJK,qyH⟩
end
end Go.Proofs.H35
namespace Go.Proofs.H35
open Go Go.Eng
set_option maxRecDepth 100000
noncomputable section
abbrev qHU:Type:=Int × Int × List AV
def qKE:PArgs:=⟨[.ref 0 0 0],[(0,.box [.int .i64,.view 2,.nils 2] false)]⟩
def qLH:List PRes:=[⟨false,.int .i64,[(0,.box [.int .i64,.view 2,.nils 2] false)]⟩]
def qk8 (x0:Int) (x1:List AV):DT qHU:=
 .br ((x1.length:Int) == 0)
 (.at ((5,x0,x1)))
 (.br (qcO [.int .i64,.int .i64] x1 0) (.at ((intOf (cellAt x1 0 0),x0,x1))) (.no))
def qj4 (x0:Int) (x1:List AV):Option qHU:=qaK (qk8 x0 x1).ev
theorem qpL (x0 x1):qj4 x0 x1 = (qk8 x0 x1).ev:=qaa _
theorem qzs:FH IP 20 qKE qLH (k2 qj4):=fh F20 (k2 qk8) qyI
def q1r:Tab:=(20,FE qKE qLH (k2 qj4)) :: q1q
theorem qyJ:qap IP q1r:=⟨qas qzs,qyI⟩
abbrev qHR:Type:=Bool
def qKB:PArgs:=⟨[.agg [.int .i64,.int .i64],.ptr [.int .i64]],[]⟩
def qLE:List PRes:=[⟨false,.bool,[]⟩]
def qoy (x0 x1 x2:Int):DT qHR:=
 .at (x0 == x2)
def qpJ (x0 x1 x2:Int):Option qHR:=qaK (qoy x0 x1 x2).ev
theorem qAf (x0 x1 x2):qpJ x0 x1 x2 = (qoy x0 x1 x2).ev:=qaa _
theorem qQ5:FH IP 57 qKB qLE (k3 qpJ):=fh F57 (k3 qoy) qyJ
def q1s:Tab:=(57,FE qKB qLE (k3 qpJ)) :: q1r
theorem qsg:qap IP q1s:=⟨qas qQ5,qyJ⟩
abbrev qgV:Type:=List AV × Int × Int × Int
def qJ7:List PSt:=[⟨[(1005600,.junk),(0,.view 2),(1,.fn (.func 57) [.ptr [.int .i64]]),(7,.int .i64),(8,.int .i64)],[],0,0⟩]
def qO5 (x0:List AV) (x1 x2 x3:Int):X × St:=(.ret,⟨[(4,.int .i64 x3)],[],0,0⟩)
def qO6 (x0:List AV) (x1 x2 x3:Int):X × St:=(.exit 0,⟨[(4,.junk)],[],0,0⟩)
def qZ5:List (qgV -> X × St):=[(k4 qO5),(k4 qO6)]
def qdB (x0:List AV) (x1 x2 x3:Int):DT (Rd qgV):=
 .br (decide (x3 < x2))
 (.br (qcO [.int .i64,.int .i64] x0 x3)
 (.bi (qpJ (intOf (cellAt x0 x3 0)) (intOf (cellAt x0 x3 1)) x1) (fun y0=>
 .br (y0) (.at (.done 0)) (.at (.next ((x0,x1,x2,IntKind.i64.wrap (x3 + 1))))))
 (.no))
 (.no))
 (.at (.done 1))
def qf9:qgV -> DT (Rd qgV):=(fun v=>qdB v.1 v.2.1 v.2.2.1 v.2.2.2)
def qF1 (v:qgV):Option (Nat × qgV):=qaK (qat (fun v=>(qf9 v).ev) v)
theorem qfM (v):qF1 v = qat (fun v=>(qf9 v).ev) v:=qaa _
def qKi:qdC:=LE (τ:=qgV) (hD qJ7) (qF1) qZ5
theorem qZM:Go.Eng.Told IP (qai F56 0).1 (qai F56 0).2 (qKi):=lp (inferInstance:Inhabited qgV) (hs:=qJ7) qf9 qsg qfM
abbrev qHF:Type:=Int
def qKq:PArgs:=⟨[.view 2,.fn (.func 57) [.ptr [.int .i64]]],[]⟩
def qLt:List PRes:=[⟨false,.int .i64,[]⟩]
def qfA (x0:List AV) (x1:Int):DT qHF:=
 .bi (pj 0 (qF1 (x0,x1,(x0.length:Int),0))) (fun y0=>
 .at (y0.2.2.2))
 (.bi (pj 1 (qF1 (x0,x1,(x0.length:Int),0))) (fun y0=>
 .at (-1))
 (.no))
def qc4 (x0:List AV) (x1:Int):Option qHF:=qaK (qfA x0 x1).ev
theorem qfe (x0 x1):qc4 x0 x1 = (qfA x0 x1).ev:=qaa _
theorem qQU:FH IP 56 qKq qLt (k2 qc4):=qaj (F:=F56) (L:=[(1005600,qKi)]) (t:=(k2 qfA)) qsg (qaf (l:=[qai F56 0]) (by kernel_rfl) ⟨qaG (by kernel_rfl) qZM,trivial⟩) (by kernel_rfl) (fun v=>by kernel_rfl) (fun _=>qaa _)
def q1t:Tab:=(56,FE qKq qLt (k2 qc4)) :: q1s
theorem qyK:qap IP q1t:=⟨qas qQU,qsg⟩
abbrev qHZ:Type:=(Int × Int × List AV) ⊕ (Int × Int × List AV × List AV)
def qKJ:PArgs:=⟨[.ref 0 0 0,.int .i64],[(0,.box [.int .i64,.view 2,.nils 2] false)]⟩
def qLM:List PRes:=[⟨false,.int .i64,[(0,.box [.int .i64,.view 2,.nils 2] false)]⟩,⟨false,.int .i64,[(0,.box [.int .i64,.view 2,.own 1 0] false),(1,.arr 2 false)]⟩]
def qoE (x0 x1:Int) (x2:List AV):DT qHZ:=
 .bi (qc4 x2 x0) (fun y0=>
 .bi (br (decide (y0 < 0)) (some true) (some (x1 == 0))) (fun y1=>
 .br (y1)
 (.at ((.inl (0,x1,x2))))
 (.br (qcO [.int .i64,.int .i64] x2 y0)
 (.at ((.inr (if intOf (cellAt x2 y0 1) < x1 then intOf (cellAt x2 y0 1) else x1,IntKind.i64.wrap (x1 - if intOf (cellAt x2 y0 1) < x1 then intOf (cellAt x2 y0 1) else x1),x2,[AV.agg [.int .i64 x0,.int .i64 (if intOf (cellAt x2 y0 1) < x1 then intOf (cellAt x2 y0 1) else x1)]]))))
 (.no)))
 (.no))
 (.no)
def quN (x0 x1:Int) (x2:List AV):Option qHZ:=qaK (qoE x0 x1 x2).ev
theorem qAl (x0 x1 x2):quN x0 x1 x2 = (qoE x0 x1 x2).ev:=qaa _
theorem qJL:FH IP 21 qKJ qLM (k3 quN):=fh F21 (k3 qoE) qyK
def q1u:Tab:=(21,FE qKJ qLM (k3 quN)) :: q1t
theorem qyL:qap IP q1u:=⟨qas qJL,qyK⟩
abbrev qHV:Type:=(Int × Int × List AV × List AV) ⊕ (Int × Int × List AV × List AV)
def qKF:PArgs:=⟨[.ref 0 0 0,.int .i64],[(0,.box [.int .i64,.view 2,.own 1 0] false),(1,.arr 2 false)]⟩
def qLI:List PRes:=[⟨false,.int .i64,[(0,.box [.int .i64,.view 2,.own 1 0] false),(1,.arr 2 false)]⟩,⟨false,.int .i64,[(0,.box [.int .i64,.view 2,.own 2 0] false),(2,.arr 2 false)]⟩]
def qk9 (x0 x1:Int) (x2 x3:List AV):DT qHV:=
 .bi (qc4 x2 x0) (fun y0=>
 .bi (br (decide (y0 < 0)) (some true) (some (x1 == 0))) (fun y1=>
 .br (y1)
 (.at ((.inl (0,x1,x2,x3))))
 (.br (qcO [.int .i64,.int .i64] x2 y0)
 (.br (room (x3.length + 1) 16)
 (.at ((.inr (if intOf (cellAt x2 y0 1) < x1 then intOf (cellAt x2 y0 1) else x1,IntKind.i64.wrap (x1 - if intOf (cellAt x2 y0 1) < x1 then intOf (cellAt x2 y0 1) else x1),x2,x3 ++ [AV.agg [.int .i64 x0,.int .i64 (if intOf (cellAt x2 y0 1) < x1 then intOf (cellAt x2 y0 1) else x1)]]))))
 (.no))
 (.no)))
 (.no))
 (.no)
def qpM (x0 x1:Int) (x2 x3:List AV):Option qHV:=qaK (qk9 x0 x1 x2 x3).ev
theorem qpN (x0 x1 x2 x3):qpM x0 x1 x2 x3 = (qk9 x0 x1 x2 x3).ev:=qaa _
theorem qzt:FH IP 21 qKF qLI (k4 qpM):=fh F21 (k4 qk9) qyL
end
end Go.Proofs.H35

/- Functions over plain data. Printed by a program of mine. -/
import Derived.Test.YthljpgljbpdmjaaGreatDoorD15p_8
import Derived.KernelRfl
set_option linter.unusedVariables false
set_option linter.unusedSimpArgs false
set_option linter.unnecessarySimpa false
namespace Go.Proofs.H15p
open Go Go.Eng
set_option maxRecDepth 100000
noncomputable section
abbrev qbH:Type:=(Int × Int × Int × List UInt8 × List AV × List AV) ⊕ (Int × Int × Int × List UInt8 × List AV) ⊕ (List AV × Int × Int × Int × List UInt8 × List AV)
def qA8:List PSt:=[⟨[(1009800,.junk),(1,.ref 0 0 0),(3,.own 1 0),(4,.int .i64)],[(0,.box [.int .i64,.int .i64,.str,.view 4] false),(1,.arr 1 false)],2,0⟩,⟨[(1009800,.junk),(1,.ref 0 0 0),(3,.nils 1),(4,.int .i64)],[(0,.box [.int .i64,.int .i64,.str,.view 4] false)],1,0⟩,⟨[(1009800,.junk),(1,.ref 0 0 0),(3,.view 1),(4,.int .i64)],[(0,.box [.int .i64,.int .i64,.str,.view 4] false)],1,0⟩]
def qPU (x0 x1 x2:Int) (x3:List UInt8) (x4 x5:List AV):X × St:=(.exit 0,⟨[(3,.own 0 0 none)],[(0,.arr 1 x5 false)],1,0⟩)
def qPV (x0 x1 x2:Int) (x3:List UInt8) (x4:List AV):X × St:=(.exit 0,⟨[(3,.nils ⟨1,.nil⟩)],[],0,0⟩)
def qPW (x0:List AV) (x1 x2 x3:Int) (x4:List UInt8) (x5:List AV):X × St:=(.exit 0,⟨[(3,.view 1 x0)],[],0,0⟩)
def q0R:List (qbH -> X × St):=[fun w=>(k6 qPU) ((sl w)),fun w=>(k5 qPV) ((sl (sr w))),fun w=>(k6 qPW) ((sr (sr w)))]
def qeR (G_u188q:qbF) (x0 x1 x2:Int) (x3:List UInt8) (x4 x5:List AV):DT (Rd qbH):=
 .br (decide (x0 < (x4.length:Int)))
 (.br (qaD [.int .i64,.int .i64,.str,.slice 4] x4 x0)
 (.bi (G_u188q (intOf (cellAt x4 x0 0)) (intOf (cellAt x4 x0 1)) (strOf (cellAt x4 x0 2)) (qaq (cellAt x4 x0 3))) (fun y0=>
 .bi (pj 0 (qcE (Sum.inl (x0,y0,0,x1,x2,x3,x4,x5)))) (fun y1=>
 .at (.next ((.inl (IntKind.i64.wrap ((sl y1).1 + 1),(sl y1).2.2.2.1,(sl y1).2.2.2.2.1,(sl y1).2.2.2.2.2.1,(sl y1).2.2.2.2.2.2.1,(sl y1).2.2.2.2.2.2.2)))))
 (.bi (pj 1 (qcE (Sum.inl (x0,y0,0,x1,x2,x3,x4,x5)))) (fun y1=>
 .at (.next ((.inr (.inl (IntKind.i64.wrap ((sl (sr y1)).1 + 1),(sl (sr y1)).2.2.2.1,(sl (sr y1)).2.2.2.2.1,(sl (sr y1)).2.2.2.2.2.1,(sl (sr y1)).2.2.2.2.2.2))))))
 (.bi (pj 2 (qcE (Sum.inl (x0,y0,0,x1,x2,x3,x4,x5)))) (fun y1=>
 .at (.next ((.inr (.inr ((sr (sr y1)).1,IntKind.i64.wrap ((sr (sr y1)).2.1 + 1),(sr (sr y1)).2.2.2.2.1,(sr (sr y1)).2.2.2.2.2.1,(sr (sr y1)).2.2.2.2.2.2.1,(sr (sr y1)).2.2.2.2.2.2.2))))))
 (.no))))
 (.no))
 (.no))
 (.at (.done 0))
def qeS (G_u188q:qbF) (x0 x1 x2:Int) (x3:List UInt8) (x4:List AV):DT (Rd qbH):=
 .br (decide (x0 < (x4.length:Int)))
 (.br (qaD [.int .i64,.int .i64,.str,.slice 4] x4 x0)
 (.bi (G_u188q (intOf (cellAt x4 x0 0)) (intOf (cellAt x4 x0 1)) (strOf (cellAt x4 x0 2)) (qaq (cellAt x4 x0 3))) (fun y0=>
 .bi (pj 0 (qcE (Sum.inr (Sum.inl (x0,y0,0,x1,x2,x3,x4))))) (fun y1=>
 .at (.next ((.inl (IntKind.i64.wrap ((sl y1).1 + 1),(sl y1).2.2.2.1,(sl y1).2.2.2.2.1,(sl y1).2.2.2.2.2.1,(sl y1).2.2.2.2.2.2.1,(sl y1).2.2.2.2.2.2.2)))))
 (.bi (pj 1 (qcE (Sum.inr (Sum.inl (x0,y0,0,x1,x2,x3,x4))))) (fun y1=>
 .at (.next ((.inr (.inl (IntKind.i64.wrap ((sl (sr y1)).1 + 1),(sl (sr y1)).2.2.2.1,(sl (sr y1)).2.2.2.2.1,(sl (sr y1)).2.2.2.2.2.1,(sl (sr y1)).2.2.2.2.2.2))))))
 (.bi (pj 2 (qcE (Sum.inr (Sum.inl (x0,y0,0,x1,x2,x3,x4))))) (fun y1=>
 .at (.next ((.inr (.inr ((sr (sr y1)).1,IntKind.i64.wrap ((sr (sr y1)).2.1 + 1),(sr (sr y1)).2.2.2.2.1,(sr (sr y1)).2.2.2.2.2.1,(sr (sr y1)).2.2.2.2.2.2.1,(sr (sr y1)).2.2.2.2.2.2.2))))))
 (.no))))
 (.no))
 (.no))
 (.at (.done 1))
def qeT (G_u188q:qbF) (x0:List AV) (x1 x2 x3:Int) (x4:List UInt8) (x5:List AV):DT (Rd qbH):=
 .br (decide (x1 < (x5.length:Int)))
 (.br (qaD [.int .i64,.int .i64,.str,.slice 4] x5 x1)
 (.bi (G_u188q (intOf (cellAt x5 x1 0)) (intOf (cellAt x5 x1 1)) (strOf (cellAt x5 x1 2)) (qaq (cellAt x5 x1 3))) (fun y0=>
 .bi (pj 0 (qcE (Sum.inr (Sum.inr (x0,x1,y0,0,x2,x3,x4,x5))))) (fun y1=>
 .at (.next ((.inl (IntKind.i64.wrap ((sl y1).1 + 1),(sl y1).2.2.2.1,(sl y1).2.2.2.2.1,(sl y1).2.2.2.2.2.1,(sl y1).2.2.2.2.2.2.1,(sl y1).2.2.2.2.2.2.2)))))
 (.bi (pj 1 (qcE (Sum.inr (Sum.inr (x0,x1,y0,0,x2,x3,x4,x5))))) (fun y1=>
 .at (.next ((.inr (.inl (IntKind.i64.wrap ((sl (sr y1)).1 + 1),(sl (sr y1)).2.2.2.1,(sl (sr y1)).2.2.2.2.1,(sl (sr y1)).2.2.2.2.2.1,(sl (sr y1)).2.2.2.2.2.2))))))
 (.bi (pj 2 (qcE (Sum.inr (Sum.inr (x0,x1,y0,0,x2,x3,x4,x5))))) (fun y1=>
 .at (.next ((.inr (.inr ((sr (sr y1)).1,IntKind.i64.wrap ((sr (sr y1)).2.1 + 1),(sr (sr y1)).2.2.2.2.1,(sr (sr y1)).2.2.2.2.2.1,(sr (sr y1)).2.2.2.2.2.2.1,(sr (sr y1)).2.2.2.2.2.2.2))))))
 (.no))))
 (.no))
 (.no))
 (.at (.done 2))
def qbj (G_u188q:qbF):qbH -> DT (Rd qbH):=(Sum.elim (fun v=>qeR G_u188q v.1 v.2.1 v.2.2.1 v.2.2.2.1 v.2.2.2.2.1 v.2.2.2.2.2) (Sum.elim (fun v=>qeS G_u188q v.1 v.2.1 v.2.2.1 v.2.2.2.1 v.2.2.2.2) (fun v=>qeT G_u188q v.1 v.2.1 v.2.2.1 v.2.2.2.1 v.2.2.2.2.1 v.2.2.2.2.2)))
def qdT (G_u188q:qbF) (v:qbH):Option (Nat × qbH):=qay (qap (fun v=>(qbj G_u188q v).ev) v)
theorem qj6 (G_u188q v):qdT G_u188q v = qap (fun v=>(qbj G_u188q v).ev) v:=qaa _
def qBO (G_u188q:qbF):qbz:=LE (τ:=qbH) (hD qA8) (qdT G_u188q) q0R
theorem q0k (G_u188q:qbF) (hG:qtc G_u188q):Go.Eng.Told IP (qae F98 0).1 (qae F98 0).2 (qBO G_u188q):=qar (inferInstance:Inhabited qbH) (hs:=qA8) (st:=qbj G_u188q) (L:=[(1009801,qBP)]) (qnc G_u188q hG) (qab (l:=[qae F98 1]) (by kernel_rfl) ⟨qas (by kernel_rfl) q0l,trivial⟩) (qj6 G_u188q) (fun v=>match v with | (.inl v)=>by kernel_rfl | (.inr (.inl v))=>by kernel_rfl | (.inr (.inr v))=>by kernel_rfl) (fun v=>match v with | (.inl v)=>by kernel_rfl | (.inr (.inl v))=>by kernel_rfl | (.inr (.inr v))=>by kernel_rfl)
def quO (G_u188q:qbF) (x0 x1:Int) (x2:List UInt8) (x3:List AV):DT qm7:=
 .br (x0 == 4)
 (.bi (pj 0 (qdT G_u188q (Sum.inl (0,x0,x1,x2,x3,[AV.str x2])))) (fun y0=>
 .at ((sl y0).2.2.2.2.2))
 (.bi (pj 1 (qdT G_u188q (Sum.inl (0,x0,x1,x2,x3,[AV.str x2])))) (fun y0=>
 .at ([]))
 (.bi (pj 2 (qdT G_u188q (Sum.inl (0,x0,x1,x2,x3,[AV.str x2])))) (fun y0=>
 .at ((sr (sr y0)).1))
 (.no))))
 (.bi (pj 0 (qdT G_u188q (Sum.inr (Sum.inl (0,x0,x1,x2,x3))))) (fun y0=>
 .at ((sl y0).2.2.2.2.2))
 (.bi (pj 1 (qdT G_u188q (Sum.inr (Sum.inl (0,x0,x1,x2,x3))))) (fun y0=>
 .at ([]))
 (.bi (pj 2 (qdT G_u188q (Sum.inr (Sum.inl (0,x0,x1,x2,x3))))) (fun y0=>
 .at ((sr (sr y0)).1))
 (.no))))
def qcw:Nat -> qbF
 | 0=>fun _ _ _ _=>none
 | n + 1=>fun x0 x1 x2 x3=>(quO ((qcw n)) x0 x1 x2 x3).ev
def qtI (x0 x1:Int) (x2:List UInt8) (x3:List AV):Option qm7:=qka fun n=>(qcw n) x0 x1 x2 x3
theorem qrs:∀ n,qtc ((qcw n))
 | 0=>(fun v y h=>nomatch h)
 | n + 1=>have hG:=qrs n
 qag (F:=F98) (L:=[(1009800,qBO ((qcw n)))]) (t:=(k4 (quO ((qcw n))))) (qnc ((qcw n)) hG) (qab (l:=[qae F98 0,qae F98 1]) (by kernel_rfl) ⟨qas (by kernel_rfl) (q0k ((qcw n)) hG),qCr (by kernel_rfl),trivial⟩) (by kernel_rfl) (fun v=>by kernel_rfl) (fun v=>rfl)
theorem qYF:FH IP 98 qpr qpH (k4 qtI):=qbK (p:=qpr) (rs:=qpH) (s:=fun n=>(k4 ((qcw n)))) fun n=>(qrs n)
def zak:Tab:=(98,FE qpr qpH (k4 qtI)) :: q6S
theorem qyC:qai IP zak:=⟨qaj qYF,qyB⟩
abbrev qfe:Type:=List AV × Int
def qKr:List PSt:=[⟨[(1008000,.junk),(3,.view 1),(4,.int .i64)],[],0,0⟩]
def qSX (x0:List AV) (x1:Int):X × St:=(.ret,⟨[(2,.int .i64 4)],[],0,0⟩)
def qSY (x0:List AV) (x1:Int):X × St:=(.exit 0,⟨[(2,.junk)],[],0,0⟩)
def q40:List (qfe -> X × St):=[(k2 qSX),(k2 qSY)]
def qqv (x0:List AV) (x1:Int):DT (Rd qfe):=
 .br (decide (x1 < (x0.length:Int)))
 (.br (qaD [.str] x0 x1)
 (.bi (qrZ (strOf (cellAt x0 x1 0))) (fun y0=>
 .br (!y0) (.at (.done 0)) (.at (.next ((x0,IntKind.i64.wrap (x1 + 1))))))
 (.no))
 (.no))
 (.at (.done 1))
def qqu:qfe -> DT (Rd qfe):=(fun v=>qqv v.1 v.2)
def qwW (v:qfe):Option (Nat × qfe):=qay (qap (fun v=>(qqu v).ev) v)
theorem qwX (v):qwW v = qap (fun v=>(qqu v).ev) v:=qaa _
def qLb:qbz:=LE (τ:=qfe) (hD qKr) (qwW) q40
theorem q4m:Go.Eng.Told IP (qae F80 0).1 (qae F80 0).2 (qLb):=lp (inferInstance:Inhabited qfe) (hs:=qKr) qqu qyC qwX
abbrev qUa:Type:=Int
def qWq:PArgs:=⟨[.agg [.int .i64,.int .i64,.str,.view 4]],[]⟩
def qXc:List PRes:=[⟨false,.int .i64,[]⟩]
def qvt (x0 x1:Int) (x2:List UInt8) (x3:List AV):DT qUa:=
 .bi (qn9 x0 x1 x2 x3 64) (fun y0=>
 .bi (br y0 (some true) (br (sm (qn8 x0 x1 x2 x3)) (some (decide (gv (qn8 x0 x1 x2 x3) > 8))) none)) (fun y1=>
 .br (y1)
 (.at (5))
 (.bi (qtK x0 x1 x2 x3) (fun y2=>
 .br (!y2)
 (.at (1))
 (.bi (qtI x0 x1 x2 x3) (fun y3=>
 .bi (pj 0 (qwW (y3,0))) (fun y4=>
 .at (4))
 (.bi (pj 1 (qwW (y3,0))) (fun y4=>
 .at (0))
 (.no)))
 (.no)))
 (.no)))
 (.no))
 (.no)
def qwp (x0 x1:Int) (x2:List UInt8) (x3:List AV):Option qUa:=qay (qvt x0 x1 x2 x3).ev
theorem qJS (x0 x1 x2 x3):qwp x0 x1 x2 x3 = (qvt x0 x1 x2 x3).ev:=qaa _
theorem q2U:FH IP 80 qWq qXc (k4 qwp):=qag (F:=F80) (L:=[(1008000,qLb)]) (t:=(k4 qvt)) qyC (qab (l:=[qae F80 0]) (by kernel_rfl) ⟨qas (by kernel_rfl) q4m,trivial⟩) (by kernel_rfl) (fun v=>by kernel_rfl) (fun _=>qaa _)
def zal:Tab:=(80,FE qWq qXc (k4 qwp)) :: zak
theorem qts:qai IP zal:=⟨qaj q2U,qyC⟩
abbrev qcN:Type:=List AV × Int × Int × Int × List UInt8 × List AV
def qBr:List PSt:=[⟨[(1008100,.junk),(1,.view 2),(2,.ref 0 0 0),(6,.int .i64)],[(0,.box [.int .i64,.int .i64,.str,.view 4] false)],1,0⟩]
def qQF (x0:List AV) (x1 x2 x3:Int) (x4:List UInt8) (x5:List AV):X × St:=(.ret,⟨[(4,.int .i64 (intOf (cellAt x0 x1 1))),(5,.int .i64 0)],[],0,0⟩)
def qQG (x0:List AV) (x1 x2 x3:Int) (x4:List UInt8) (x5:List AV):X × St:=(.ret,⟨[(4,.int .i64 0),(5,.int .i64 3)],[],0,0⟩)
def qQH (x0:List AV) (x1 x2 x3:Int) (x4:List UInt8) (x5:List AV):X × St:=(.exit 1,⟨[(4,.junk),(5,.junk)],[],0,0⟩)
def q1c:List (qcN -> X × St):=[(k6 qQF),(k6 qQG),(k6 qQH)]
def qkG (x0:List AV) (x1 x2 x3:Int) (x4:List UInt8) (x5:List AV):DT (Rd qcN):=
 .br (decide (x1 < (x0.length:Int)))
 (.br (qaD [.str,.int .i64] x0 x1)
 (.br (strOf (cellAt x0 x1 0) == x4)
 (.br (qaD [.str,.int .i64] x0 x1)
 (.bi (qh1 (intOf (cellAt x0 x1 1))) (fun y0=>
 .br (y0)
 (.br (qaD [.str,.int .i64] x0 x1) (.at (.done 0)) (.no))
 (.br (qaD [.str,.int .i64] x0 x1)
 (.br (strOf (cellAt x0 x1 0) == x4) (.at (.done 1)) (.at (.next ((x0,IntKind.i64.wrap (x1 + 1),x2,x3,x4,x5)))))
 (.no)))
 (.no))
 (.no))
 (.br (qaD [.str,.int .i64] x0 x1)
 (.br (strOf (cellAt x0 x1 0) == x4) (.at (.done 1)) (.at (.next ((x0,IntKind.i64.wrap (x1 + 1),x2,x3,x4,x5)))))
 (.no)))
 (.no))
 (.at (.done 2))
def qje:qcN -> DT (Rd qcN):=(fun v=>qkG v.1 v.2.1 v.2.2.1 v.2.2.2.1 v.2.2.2.2.1 v.2.2.2.2.2)
def qgu (v:qcN):Option (Nat × qcN):=qay (qap (fun v=>(qje v).ev) v)
theorem qsz (v):qgu v = qap (fun v=>(qje v).ev) v:=qaa _
def qB7:qbz:=LE (τ:=qcN) (hD qBr) (qgu) q1c
theorem q0D:Go.Eng.Told IP (qae F81 0).1 (qae F81 0).2 (qB7):=lp (inferInstance:Inhabited qcN) (hs:=qBr) qje qts qsz
abbrev qfl:Type:=Int × List AV × Int
def qKB:List PSt:=[⟨[(1009900,.junk),(0,.int .i64),(1,.view 1),(6,.int .i64)],[],0,0⟩]
def qTh (x0:Int) (x1:List AV) (x2:Int):X × St:=(.ret,⟨[(0,.int .i64 x0),(1,.view 1 x1),(4,.int .i64 0),(5,.bool false)],[],0,0⟩)
def qTi (x0:Int) (x1:List AV) (x2:Int):X × St:=(.exit 0,⟨[(0,.int .i64 x0),(1,.view 1 x1),(4,.junk),(5,.junk)],[],0,0⟩)
def q5a:List (qfl -> X × St):=[(k3 qTh),(k3 qTi)]
def qqI (x0:Int) (x1:List AV) (x2:Int):DT (Rd qfl):=
 .br (decide (x2 < (x1.length:Int)))
 (.br (qaD [.int .i64] x1 x2)
 (.bi (qh1 (intOf (cellAt x1 x2 0))) (fun y0=>
 .br (!y0) (.at (.done 0)) (.at (.next ((x0,x1,IntKind.i64.wrap (x2 + 1))))))
 (.no))
 (.no))
 (.at (.done 1))
def qqH:qfl -> DT (Rd qfl):=(fun v=>qqI v.1 v.2.1 v.2.2)
def qxb (v:qfl):Option (Nat × qfl):=qay (qap (fun v=>(qqH v).ev) v)
theorem qxc (v):qxb v = qap (fun v=>(qqH v).ev) v:=qaa _
def qLl:qbz:=LE (τ:=qfl) (hD qKB) (qxb) q5a
theorem q4w:Go.Eng.Told IP (qae F99 0).1 (qae F99 0).2 (qLl):=lp (inferInstance:Inhabited qfl) (hs:=qKB) qqH qts qxc
abbrev qGj:Type:=Bool
def qMr:PArgs:=⟨[.int .i64],[]⟩
def qN7:List PRes:=[⟨false,.bool,[]⟩]
def ql8 (x0:Int):DT qGj:=
 .bi (br (x0 == 1) (some true) (some (x0 == 2))) (fun y0=>
 .bi (br y0 (some true) (some (x0 == 3))) (fun y1=>
 .at (y1))
 (.no))
 (.no)
def qcA (x0:Int):Option qGj:=qay (ql8 x0).ev
theorem qDv (x0):qcA x0 = (ql8 x0).ev:=qaa _
theorem qYb:FH IP 141 qMr qN7 qcA:=fh q58 ql8 qts
def zam:Tab:=(141,FE qMr qN7 qcA) :: zal
theorem qHO:qai IP zam:=⟨qaj qYb,qts⟩
abbrev qFZ:Type:=Int × Bool
def qL9:PArgs:=⟨[.int .i64,.int .i64],[]⟩
def qNP:List PRes:=[⟨false,.tup [.int .i64,.bool],[]⟩]
def qlR (x0 x1:Int):DT qFZ:=
 .bi (qcA x0) (fun y0=>
 .bi (br (!y0) (some true) (br (sm (qcA x1)) (some !gv (qcA x1)) none)) (fun y1=>
 .br (y1)
 (.at ((0,false)))
 (.br (x0 == 1)
 (.at ((x1,true)))
 (.br (x1 == 1) (.at ((x0,true))) (.at ((2,x0 != x1))))))
 (.no))
 (.no)
def qtD (x0 x1:Int):Option qFZ:=qay (qlR x0 x1).ev
theorem qDg (x0 x1):qtD x0 x1 = (qlR x0 x1).ev:=qaa _
theorem qXS:FH IP 160 qL9 qNP (k2 qtD):=fh q6n (k2 qlR) qHO
def zan:Tab:=(160,FE qL9 qNP (k2 qtD)) :: zam
theorem qHP:qai IP zan:=⟨qaj qXS,qHO⟩
abbrev qHd:Type:=Int × Bool
def qNm:PArgs:=⟨[.int .i64,.int .i64,.int .i64],[]⟩
def qO3:List PRes:=[⟨false,.tup [.int .i64,.bool],[]⟩]
def qm0 (x0 x1 x2:Int):DT qHd:=
 .br (x0 == 5)
 (.br (x1 == 4)
 (.at ((x1,x2 == 1)))
 (.bi (br (x1 == x2) (br (sm (qcA x1)) (some (gv (qcA x1))) none) (some false)) (fun y0=>
 .at ((x1,y0)))
 (.no)))
 (.br (x0 == 6)
 (.bi (br (x1 == 4) (some (x2 == 4)) (some false)) (fun y0=>
 .br (y0)
 (.at ((1,true)))
 (.br (x1 == 4)
 (.at ((x1,x2 == 1)))
 (.bi (br (x1 == x2) (br (sm (qcA x1)) (some (gv (qcA x1))) none) (some false)) (fun y1=>
 .at ((x1,y1)))
 (.no))))
 (.no))
 (.br (x0 == 7)
 (.bi (qtD x1 x2) (fun y0=>
 .at ((y0.1,y0.2)))
 (.no))
 (.br (x0 == 8)
 (.bi (br (x1 == 2) (some (x2 == 2)) (some false)) (fun y0=>
 .br (y0)
 (.at ((1,true)))
 (.bi (qcA x1) (fun y1=>
 .bi (br y1 (some (x2 == 1)) (some false)) (fun y2=>
 .at ((x1,y2)))
 (.no))
 (.no)))
 (.no))
 (.br (x0 == 10)
 (.br (x0 == 10)
 (.at ((5,x1 == x2)))
 (.br (x0 == 12)
 (.br (x0 == 12)
 (.bi (br (x1 == x2) (some (x1 != 5)) (some false)) (fun y0=>
 .at ((5,y0)))
 (.no))
 (.br (x0 == 14)
 (.br (x0 == 14)
 (.bi (br (x1 == 5) (some (x2 == 5)) (some false)) (fun y0=>
 .at ((5,y0)))
 (.no))
 (.br (x0 == 17)
 (.br (x0 == 17)
 (.bi (br (x1 == x2) (some (x1 != 5)) (some false)) (fun y0=>
 .at ((x1,y0)))
 (.no))
 (.at ((0,false))))
 (.br (x0 == 18)
 (.bi (br (x1 == x2) (some (x1 != 5)) (some false)) (fun y0=>
 .at ((x1,y0)))
 (.no))
 (.at ((0,false))))))
 (.br (x0 == 15)
 (.bi (br (x1 == 5) (some (x2 == 5)) (some false)) (fun y0=>
 .at ((5,y0)))
 (.no))
 (.br (x0 == 17)
 (.br (x0 == 17)
 (.bi (br (x1 == x2) (some (x1 != 5)) (some false)) (fun y0=>
 .at ((x1,y0)))
 (.no))
 (.at ((0,false))))
 (.br (x0 == 18)
 (.bi (br (x1 == x2) (some (x1 != 5)) (some false)) (fun y0=>
 .at ((x1,y0)))
 (.no))
 (.at ((0,false))))))))
 (.br (x0 == 13)
 (.bi (br (x1 == x2) (some (x1 != 5)) (some false)) (fun y0=>
 .at ((5,y0)))
 (.no))
 (.br (x0 == 14)
 (.br (x0 == 14)
 (.bi (br (x1 == 5) (some (x2 == 5)) (some false)) (fun y0=>
 .at ((5,y0)))
 (.no))
 (.br (x0 == 17)
 (.br (x0 == 17)
 (.bi (br (x1 == x2) (some (x1 != 5)) (some false)) (fun y0=>
 .at ((x1,y0)))
 (.no))
 (.at ((0,false))))
 (.br (x0 == 18)
 (.bi (br (x1 == x2) (some (x1 != 5)) (some false)) (fun y0=>
 .at ((x1,y0)))
 (.no))
 (.at ((0,false))))))
 (.br (x0 == 15)
 (.bi (br (x1 == 5) (some (x2 == 5)) (some false)) (fun y0=>
 .at ((5,y0)))
 (.no))
 (.br (x0 == 17)
 (.br (x0 == 17)
 (.bi (br (x1 == x2) (some (x1 != 5)) (some false)) (fun y0=>
 .at ((x1,y0)))
 (.no))
 (.at ((0,false))))
 (.br (x0 == 18)
 (.bi (br (x1 == x2) (some (x1 != 5)) (some false)) (fun y0=>
 .at ((x1,y0)))
 (.no))
 (.at ((0,false))))))))))
 (.br (x0 == 11)
 (.at ((5,x1 == x2)))
 (.br (x0 == 12)
 (.br (x0 == 12)
 (.bi (br (x1 == x2) (some (x1 != 5)) (some false)) (fun y0=>
 .at ((5,y0)))
 (.no))
 (.br (x0 == 14)
 (.br (x0 == 14)
 (.bi (br (x1 == 5) (some (x2 == 5)) (some false)) (fun y0=>
 .at ((5,y0)))
 (.no))
 (.br (x0 == 17)
 (.br (x0 == 17)
 (.bi (br (x1 == x2) (some (x1 != 5)) (some false)) (fun y0=>
 .at ((x1,y0)))
 (.no))
 (.at ((0,false))))
 (.br (x0 == 18)
 (.bi (br (x1 == x2) (some (x1 != 5)) (some false)) (fun y0=>
 .at ((x1,y0)))
 (.no))
 (.at ((0,false))))))
 (.br (x0 == 15)
 (.bi (br (x1 == 5) (some (x2 == 5)) (some false)) (fun y0=>
 .at ((5,y0)))
 (.no))
 (.br (x0 == 17)
 (.br (x0 == 17)
 (.bi (br (x1 == x2) (some (x1 != 5)) (some false)) (fun y0=>
 .at ((x1,y0)))
 (.no))
 (.at ((0,false))))
 (.br (x0 == 18)
 (.bi (br (x1 == x2) (some (x1 != 5)) (some false)) (fun y0=>
 .at ((x1,y0)))
 (.no))
 (.at ((0,false))))))))
 (.br (x0 == 13)
 (.bi (br (x1 == x2) (some (x1 != 5)) (some false)) (fun y0=>
 .at ((5,y0)))
 (.no))
 (.br (x0 == 14)
 (.br (x0 == 14)
 (.bi (br (x1 == 5) (some (x2 == 5)) (some false)) (fun y0=>
 .at ((5,y0)))
 (.no))
 (.br (x0 == 17)
 (.br (x0 == 17)
 (.bi (br (x1 == x2) (some (x1 != 5)) (some false)) (fun y0=>
 .at ((x1,y0)))
 (.no))
 (.at ((0,false))))
 (.br (x0 == 18)
 (.bi (br (x1 == x2) (some (x1 != 5)) (some false)) (fun y0=>
 .at ((x1,y0)))
 (.no))
 (.at ((0,false))))))
 (.br (x0 == 15)
 (.bi (br (x1 == 5) (some (x2 == 5)) (some false)) (fun y0=>
 .at ((5,y0)))
 (.no))
 (.br (x0 == 17)
 (.br (x0 == 17)
 (.bi (br (x1 == x2) (some (x1 != 5)) (some false)) (fun y0=>
 .at ((x1,y0)))
 (.no))
 (.at ((0,false))))
 (.br (x0 == 18)
 (.bi (br (x1 == x2) (some (x1 != 5)) (some false)) (fun y0=>
 .at ((x1,y0)))
 (.no))
 (.at ((0,false))))))))))))))
def qov (x0 x1 x2:Int):Option qHd:=qay (qm0 x0 x1 x2).ev
theorem qEn (x0 x1 x2):qov x0 x1 x2 = (qm0 x0 x1 x2).ev:=qaa _
theorem qZi:FH IP 142 qNm qO3 (k3 qov):=fh q59 (k3 qm0) qHP
def zao:Tab:=(142,FE qNm qO3 (k3 qov)) :: zan
theorem qHQ:qai IP zao:=⟨qaj qZi,qHP⟩
abbrev qGi:Type:=Int × Bool
def qMq:PArgs:=⟨[.int .i64,.view 1],[]⟩
def qN6:List PRes:=[⟨false,.tup [.int .i64,.bool],[]⟩]
def qfU (x0:Int) (x1:List AV):DT qGi:=
 .bi (br (x0 == 9) (some ((x1.length:Int) == 1)) (some false)) (fun y0=>
 .br (y0)
 (.br (qaD [.int .i64] x1 0)
 (.br (qaD [.int .i64] x1 0)
 (.bi (qcA (intOf (cellAt x1 0 0))) (fun y1=>
 .at ((intOf (cellAt x1 0 0),y1)))
 (.no))
 (.no))
 (.no))
 (.bi (br (x0 == 16) (some ((x1.length:Int) == 1)) (some false)) (fun y1=>
 .br (y1)
 (.br (qaD [.int .i64] x1 0) (.at ((5,intOf (cellAt x1 0 0) == 5))) (.no))
 (.bi (br (x0 == 19) (some ((x1.length:Int) == 3)) (some false)) (fun y2=>
 .br (y2)
 (.br (qaD [.int .i64] x1 1)
 (.br (qaD [.int .i64] x1 0)
 (.br (intOf (cellAt x1 0 0) == 5)
 (.br (qaD [.int .i64] x1 1)
 (.br (qaD [.int .i64] x1 2) (.at ((intOf (cellAt x1 1 0),intOf (cellAt x1 1 0) == intOf (cellAt x1 2 0)))) (.no))
 (.no))
 (.at ((intOf (cellAt x1 1 0),false))))
 (.no))
 (.no))
 (.br ((x1.length:Int) == 2)
 (.br (qaD [.int .i64] x1 0)
 (.br (qaD [.int .i64] x1 1)
 (.bi (qov x0 (intOf (cellAt x1 0 0)) (intOf (cellAt x1 1 0))) (fun y3=>
 .at ((y3.1,y3.2)))
 (.no))
 (.no))
 (.no))
 (.at ((0,false)))))
 (.no)))
 (.no)))
 (.no)
def qgl (x0:Int) (x1:List AV):Option qGi:=qay (qfU x0 x1).ev
theorem qgI (x0 x1):qgl x0 x1 = (qfU x0 x1).ev:=qaa _
theorem qYa:FH IP 126 qMq qN6 (k2 qgl):=fh q5Y (k2 qfU) qHQ
def zap:Tab:=(126,FE qMq qN6 (k2 qgl)) :: zao
theorem qHR:qai IP zap:=⟨qaj qYa,qHQ⟩
abbrev qGh:Type:=Int × Bool
def qMp:PArgs:=⟨[.int .i64,.view 1],[]⟩
def qN5:List PRes:=[⟨false,.tup [.int .i64,.bool],[]⟩]
def ql7 (x0:Int) (x1:List AV):DT qGh:=
 .br (decide ((x1.length:Int) > 3))
 (.at ((0,false)))
 (.bi (pj 0 (qxb (x0,x1,0))) (fun y0=>
 .at ((0,false)))
 (.bi (pj 1 (qxb (x0,x1,0))) (fun y0=>
 .bi (qgl y0.1 y0.2.1) (fun y1=>
 .br (!y1.2) (.at ((0,false))) (.at ((y1.1,true))))
 (.no))
 (.no)))
def qc8 (x0:Int) (x1:List AV):Option qGh:=qay (ql7 x0 x1).ev
theorem qDu (x0 x1):qc8 x0 x1 = (ql7 x0 x1).ev:=qaa _
theorem qX9:FH IP 99 qMp qN5 (k2 qc8):=qag (F:=F99) (L:=[(1009900,qLl)]) (t:=(k2 ql7)) qHR (qab (l:=[qae F99 0]) (by kernel_rfl) ⟨qas (by kernel_rfl) q4w,trivial⟩) (by kernel_rfl) (fun v=>by kernel_rfl) (fun _=>qaa _)
def q6T:Tab:=(99,FE qMp qN5 (k2 qc8)) :: zap
theorem qHS:qai IP q6T:=⟨qaj qX9,qHR⟩
abbrev qhD:Type:=Int × Int
def qpz:PArgs:=⟨[.agg [.int .i64,.int .i64,.str,.view 4],.view 2],[]⟩
def qpP:List PRes:=[⟨false,.tup [.int .i64,.int .i64],[]⟩]
abbrev qbc:Type:=Int -> Int -> (List UInt8) -> (List AV) -> (List AV) -> Option qhD
def qtk (G_u235q:qbc):Prop:=FH IP 81 qpz qpP (k5 G_u235q)
def qQ8 (G_u235q:qbc):Tab:=(81,FE qpz qpP (k5 G_u235q)) :: q6T
theorem qnj (G_u235q:qbc) (hG:qtk G_u235q):qai IP (qQ8 G_u235q):=⟨qaj (hG),qHS⟩
abbrev qbU:Type:=(List AV × Int × Int × Int × List UInt8 × List AV) ⊕ (List AV × Int × Int × Int × List UInt8 × List AV × List AV)
def qBs:List PSt:=[⟨[(1008101,.junk),(1,.view 2),(2,.ref 0 0 0),(7,.nils ⟨1,.any⟩),(8,.int .i64)],[(0,.box [.int .i64,.int .i64,.str,.view 4] false)],1,0⟩,⟨[(1008101,.junk),(1,.view 2),(2,.ref 0 0 0),(7,.own 1 0),(8,.int .i64)],[(0,.box [.int .i64,.int .i64,.str,.view 4] false),(1,.arr 1 false)],2,0⟩]
def qQI (G_u235q:qbc) (x0:List AV) (x1 x2 x3:Int) (x4:List UInt8) (x5:List AV):X × St:=(.ret,
 ⟨[(2,.ref 0 0 0),(4,.int .i64 0),
 (5,.int .i64 (gv (G_u235q (intOf (cellAt x5 x1 0)) (intOf (cellAt x5 x1 1)) (strOf (cellAt x5 x1 2)) (qaq (cellAt x5 x1 3)) x0)).2),
 (7,.nils ⟨1,.any⟩)],[(0,.box [.int .i64 x2,.int .i64 x3,.str x4,.view 4 x5] false)],1,0⟩)
def qQJ (G_u235q:qbc) (x0:List AV) (x1 x2 x3:Int) (x4:List UInt8) (x5:List AV):X × St:=(.exit 3,
 ⟨[(2,.ref 0 0 0),(4,.junk),(5,.junk),(7,.nils ⟨1,.any⟩)],[(0,.box [.int .i64 x2,.int .i64 x3,.str x4,.view 4 x5] false)],1,0⟩)
def qQK (G_u235q:qbc) (x0:List AV) (x1 x2 x3:Int) (x4:List UInt8) (x5 x6:List AV):X × St:=(.ret,
 ⟨[(2,.ref 0 0 0),(4,.int .i64 0),
 (5,.int .i64 (gv (G_u235q (intOf (cellAt x5 x1 0)) (intOf (cellAt x5 x1 1)) (strOf (cellAt x5 x1 2)) (qaq (cellAt x5 x1 3)) x0)).2),(7,.own 1 0 none)],[(0,.box [.int .i64 x2,.int .i64 x3,.str x4,.view 4 x5] false),(1,.arr 1 x6 false)],2,0⟩)
def qQL (G_u235q:qbc) (x0:List AV) (x1 x2 x3:Int) (x4:List UInt8) (x5 x6:List AV):X × St:=(.exit 3,
 ⟨[(2,.ref 0 0 0),(4,.junk),(5,.junk),(7,.own 1 0 none)],[(0,.box [.int .i64 x2,.int .i64 x3,.str x4,.view 4 x5] false),(1,.arr 1 x6 false)],2,0⟩)
def q1d (G_u235q:qbc):List (qbU -> X × St):=[fun w=>(k6 (qQI G_u235q)) ((sl w)),fun w=>(k6 (qQJ G_u235q)) ((sl w)),fun w=>(k7 (qQK G_u235q)) ((sr w)),fun w=>(k7 (qQL G_u235q)) ((sr w))]
def qhj (G_u235q:qbc) (x0:List AV) (x1 x2 x3:Int) (x4:List UInt8) (x5:List AV):DT (Rd qbU):=
 .br (decide (x1 < (x5.length:Int)))
 (.br (qaD [.int .i64,.int .i64,.str,.slice 4] x5 x1)
 (.bi (G_u235q (intOf (cellAt x5 x1 0)) (intOf (cellAt x5 x1 1)) (strOf (cellAt x5 x1 2)) (qaq (cellAt x5 x1 3)) x0) (fun y0=>
 .br (y0.2 != 0) (.at (.done 0)) (.at (.next ((.inr (x0,IntKind.i64.wrap (x1 + 1),x2,x3,x4,x5,[.int .i64 y0.1]))))))
 (.no))
 (.no))
 (.at (.done 1))
def qhk (G_u235q:qbc) (x0:List AV) (x1 x2 x3:Int) (x4:List UInt8) (x5 x6:List AV):DT (Rd qbU):=
 .br (decide (x1 < (x5.length:Int)))
 (.br (qaD [.int .i64,.int .i64,.str,.slice 4] x5 x1)
 (.bi (G_u235q (intOf (cellAt x5 x1 0)) (intOf (cellAt x5 x1 1)) (strOf (cellAt x5 x1 2)) (qaq (cellAt x5 x1 3)) x0) (fun y0=>
 .br (y0.2 != 0)
 (.at (.done 2))
 (.br (room (x6.length + 1) 8) (.at (.next ((.inr (x0,IntKind.i64.wrap (x1 + 1),x2,x3,x4,x5,x6 ++ [AV.int IntKind.i64 y0.1]))))) (.no)))
 (.no))
 (.no))
 (.at (.done 3))
def qcT (G_u235q:qbc):qbU -> DT (Rd qbU):=(Sum.elim (fun v=>qhj G_u235q v.1 v.2.1 v.2.2.1 v.2.2.2.1 v.2.2.2.2.1 v.2.2.2.2.2) (fun v=>qhk G_u235q v.1 v.2.1 v.2.2.1 v.2.2.2.1 v.2.2.2.2.1 v.2.2.2.2.2.1 v.2.2.2.2.2.2))
def qgv (G_u235q:qbc) (v:qbU):Option (Nat × qbU):=qay (qap (fun v=>(qcT G_u235q v).ev) v)
theorem qgU (G_u235q v):qgv G_u235q v = qap (fun v=>(qcT G_u235q v).ev) v:=qaa _
def qB8 (G_u235q:qbc):qbz:=LE (τ:=qbU) (hD qBs) (qgv G_u235q) (q1d G_u235q)
theorem q0E (G_u235q:qbc) (hG:qtk G_u235q):Go.Eng.Told IP (qae F81 1).1 (qae F81 1).2 (qB8 G_u235q):=qar (inferInstance:Inhabited qbU) (hs:=qBs) (st:=qcT G_u235q) (L:=[]) (qnj G_u235q hG) (qab (l:=[]) (by kernel_rfl) trivial) (qgU G_u235q) (fun v=>match v with | (.inl v)=>by kernel_rfl | (.inr v)=>by kernel_rfl) (fun v=>match v with | (.inl v)=>by kernel_rfl | (.inr v)=>by kernel_rfl)
def quV (G_u235q:qbc) (x0 x1:Int) (x2:List UInt8) (x3 x4:List AV):DT qhD:=
 .br (x0 == 1)
 (.at ((1,0)))
 (.br (x0 == 2)
 (.at ((2,0)))
 (.br (x0 == 3)
 (.at ((3,0)))
 (.br (x0 == 4)
 (.bi (pj 0 (qgu (x4,0,x0,x1,x2,x3))) (fun y0=>
 .at ((intOf (cellAt y0.1 y0.2.1 1),0)))
 (.bi (pj 1 (qgu (x4,0,x0,x1,x2,x3))) (fun y0=>
 .at ((0,3)))
 (.bi (pj 2 (qgu (x4,0,x0,x1,x2,x3))) (fun y0=>
 .at ((0,4)))
 (.no))))
 (.bi (pj 0 (qgv G_u235q (Sum.inl (x4,0,x0,x1,x2,x3)))) (fun y0=>
 .at ((0,(gv
 (G_u235q (intOf (cellAt (sl y0).2.2.2.2.2 (sl y0).2.1 0)) (intOf (cellAt (sl y0).2.2.2.2.2 (sl y0).2.1 1))
 (strOf (cellAt (sl y0).2.2.2.2.2 (sl y0).2.1 2)) (qaq (cellAt (sl y0).2.2.2.2.2 (sl y0).2.1 3)) (sl y0).1)).2)))
 (.bi (pj 1 (qgv G_u235q (Sum.inl (x4,0,x0,x1,x2,x3)))) (fun y0=>
 .bi (qc8 (sl y0).2.2.1 []) (fun y1=>
 .br (!y1.2) (.at ((0,3))) (.at ((y1.1,0))))
 (.no))
 (.bi (pj 2 (qgv G_u235q (Sum.inl (x4,0,x0,x1,x2,x3)))) (fun y0=>
 .at ((0,(gv
 (G_u235q (intOf (cellAt (sr y0).2.2.2.2.2.1 (sr y0).2.1 0)) (intOf (cellAt (sr y0).2.2.2.2.2.1 (sr y0).2.1 1))
 (strOf (cellAt (sr y0).2.2.2.2.2.1 (sr y0).2.1 2)) (qaq (cellAt (sr y0).2.2.2.2.2.1 (sr y0).2.1 3)) (sr y0).1)).2)))
 (.bi (pj 3 (qgv G_u235q (Sum.inl (x4,0,x0,x1,x2,x3)))) (fun y0=>
 .bi (qc8 (sr y0).2.2.1 (sr y0).2.2.2.2.2.2) (fun y1=>
 .br (!y1.2) (.at ((0,3))) (.at ((y1.1,0))))
 (.no))
 (.no))))))))
def qcm:Nat -> qbc
 | 0=>fun _ _ _ _ _=>none
 | n + 1=>fun x0 x1 x2 x3 x4=>(quV ((qcm n)) x0 x1 x2 x3 x4).ev
def qtO (x0 x1:Int) (x2:List UInt8) (x3 x4:List AV):Option qhD:=qka fun n=>(qcm n) x0 x1 x2 x3 x4
theorem qrz:∀ n,qtk ((qcm n))
 | 0=>(fun v y h=>nomatch h)
 | n + 1=>have hG:=qrz n
 qag (F:=F81) (L:=[(1008100,qB7),(1008101,qB8 ((qcm n)))]) (t:=(k5 (quV ((qcm n))))) (qnj ((qcm n)) hG) (qab (l:=[qae F81 0,qae F81 1]) (by kernel_rfl) ⟨qas (by kernel_rfl) q0D,qas (by kernel_rfl) (q0E ((qcm n)) hG),trivial⟩) (by kernel_rfl) (fun v=>by kernel_rfl) (fun v=>rfl)
theorem qZo:FH IP 81 qpz qpP (k5 qtO):=qbK (p:=qpz) (rs:=qpP) (s:=fun n=>(k5 ((qcm n)))) fun n=>(qrz n)
def zaq:Tab:=(81,FE qpz qpP (k5 qtO)) :: q6T
theorem qHT:qai IP zaq:=⟨qaj qZo,qHS⟩
abbrev qHi:Type:=Int × Int
def qNr:PArgs:=⟨[.agg [.int .i64,.int .i64,.str,.view 4],.view 2],[]⟩
def qO8:List PRes:=[⟨false,.tup [.int .i64,.int .i64],[]⟩]
def qm4 (x0 x1:Int) (x2:List UInt8) (x3 x4:List AV):DT qHi:=
 .bi (qwp x0 x1 x2 x3) (fun y0=>
 .br (y0 != 0)
 (.at ((0,y0)))
 (.bi (qtO x0 x1 x2 x3 x4) (fun y1=>
 .at ((y1.1,y1.2)))
 (.no)))
 (.no)
def qow (x0 x1:Int) (x2:List UInt8) (x3 x4:List AV):Option qHi:=qay (qm4 x0 x1 x2 x3 x4).ev
theorem qEr (x0 x1 x2 x3 x4):qow x0 x1 x2 x3 x4 = (qm4 x0 x1 x2 x3 x4).ev:=qaa _
theorem qZn:FH IP 66 qNr qO8 (k5 qow):=fh F66 (k5 qm4) qHT
def zar:Tab:=(66,FE qNr qO8 (k5 qow)) :: zaq
theorem qyD:qai IP zar:=⟨qaj qZn,qHT⟩
abbrev qdw:Type:=List AV × List AV × Int × Int × Int × List UInt8 × List AV × Int × Int
def qBo:List PSt:=[⟨[(1008200,.junk),(1,.view 2),(2,.view 2),(3,.ref 0 0 0),(6,.ref 1 0 0),(7,.int .i64)],[(0,.box [.int .i64,.int .i64,.str,.view 4] false),(1,.box [.int .i64,.int .i64] false)],2,0⟩]
def qQz (x0 x1:List AV) (x2 x3 x4:Int) (x5:List UInt8) (x6:List AV) (x7 x8:Int):X × St:=(.ret,⟨[(6,.ref 0 0 0)],[(0,.box [.int .i64 (intOf (cellAt x1 x2 0)),.int .i64 (intOf (cellAt x1 x2 1))] false)],1,0⟩)
def qQA (x0 x1:List AV) (x2 x3 x4:Int) (x5:List UInt8) (x6:List AV) (x7 x8:Int):X × St:=(.exit 1,⟨[(6,.ref 0 0 0)],[(0,.box [.int .i64 x7,.int .i64 x8] false)],1,0⟩)
def q07:List (qdw -> X × St):=[(k9 qQz),(k9 qQA)]
def qkD (x0 x1:List AV) (x2 x3 x4:Int) (x5:List UInt8) (x6:List AV) (x7 x8:Int):DT (Rd qdw):=
 .br (decide (x2 < (x0.length:Int)))
 (.br (qaD [.str,.int .i64] x0 x2)
 (.br (strOf (cellAt x0 x2 0) == x5)
 (.br (qaD [.int .i64,.int .i64] x1 x2) (.at (.done 0)) (.no))
 (.at (.next ((x0,x1,IntKind.i64.wrap (x2 + 1),x3,x4,x5,x6,x7,x8)))))
 (.no))
 (.at (.done 1))
def qjd:qdw -> DT (Rd qdw):=(fun v=>qkD v.1 v.2.1 v.2.2.1 v.2.2.2.1 v.2.2.2.2.1 v.2.2.2.2.2.1 v.2.2.2.2.2.2.1 v.2.2.2.2.2.2.2.1 v.2.2.2.2.2.2.2.2)
def qo2 (v:qdw):Option (Nat × qdw):=qay (qap (fun v=>(qjd v).ev) v)
theorem qsw (v):qo2 v = qap (fun v=>(qjd v).ev) v:=qaa _
def qB4:qbz:=LE (τ:=qdw) (hD qBo) (qo2) q07
theorem q0A:Go.Eng.Told IP (qae F82 0).1 (qae F82 0).2 (qB4):=lp (inferInstance:Inhabited qdw) (hs:=qBo) qjd qyD qsw
abbrev qGY:Type:=Int × Int
def qM7:PArgs:=⟨[.agg [.int .i64,.int .i64,.str,.view 4],.view 2,.view 2],[]⟩
def qOO:List PRes:=[⟨false,.agg [.int .i64,.int .i64],[]⟩]
def qjn (x0 x1:Int) (x2:List UInt8) (x3 x4 x5:List AV):DT qGY:=
 .br (x0 == 1)
 (.at ((1,x1)))
 (.br (x0 == 2)
 (.at ((2,x1)))
 (.br (x0 == 3)
 (.at ((3,x1)))
 (.bi (pj 0 (qo2 (x4,x5,0,x0,x1,x2,x3,0,0))) (fun y0=>
 .at ((intOf (cellAt y0.2.1 y0.2.2.1 0),intOf (cellAt y0.2.1 y0.2.2.1 1))))
 (.bi (pj 1 (qo2 (x4,x5,0,x0,x1,x2,x3,0,0))) (fun y0=>
 .at ((0,0)))
 (.no)))))
def qjP (x0 x1:Int) (x2:List UInt8) (x3 x4 x5:List AV):Option qGY:=qay (qjn x0 x1 x2 x3 x4 x5).ev
theorem qrN (x0 x1 x2 x3 x4 x5):qjP x0 x1 x2 x3 x4 x5 = (qjn x0 x1 x2 x3 x4 x5).ev:=qaa _
theorem qY3:FH IP 82 qM7 qOO (k6 qjP):=qag (F:=F82) (L:=[(1008200,qB4)]) (t:=(k6 qjn)) qyD (qab (l:=[qae F82 0]) (by kernel_rfl) ⟨qas (by kernel_rfl) q0A,trivial⟩) (by kernel_rfl) (fun v=>by kernel_rfl) (fun _=>qaa _)
def zas:Tab:=(82,FE qM7 qOO (k6 qjP)) :: zar
theorem qtt:qai IP zas:=⟨qaj qY3,qyD⟩
abbrev qcL:Type:=(Int × List AV × Int × Int × Int) ⊕ (Int × List AV × Int × Int × Int × List AV)
def qBc:List PSt:=[⟨[(1008300,.junk),(0,.int .i64),(1,.view 2),(4,.ref 0 0 0),(6,.nils 1),(7,.int .i64)],[(0,.box [.int .i64,.int .i64] false)],1,0⟩,⟨[(1008300,.junk),(0,.int .i64),(1,.view 2),(4,.ref 0 0 0),(6,.own 1 0),(7,.int .i64)],[(0,.box [.int .i64,.int .i64] false),(1,.arr 1 false)],2,0⟩]
def qP3 (x0:Int) (x1:List AV) (x2 x3 x4:Int):X × St:=(.exit 0,
 ⟨[(0,.int .i64 x0),(1,.view 2 x1),(4,.ref 0 0 0),(6,.nils ⟨1,.nil⟩)],[(0,.box [.int .i64 x3,.int .i64 x4] false)],1,0⟩)
def qP4 (x0:Int) (x1:List AV) (x2 x3 x4:Int) (x5:List AV):X × St:=(.exit 0,
 ⟨[(0,.int .i64 x0),(1,.view 2 x1),(4,.ref 0 0 0),(6,.own 1 0 none)],[(0,.box [.int .i64 x3,.int .i64 x4] false),(1,.arr 1 x5 false)],2,0⟩)
def q0V:List (qcL -> X × St):=[fun w=>(k5 qP3) ((sl w)),fun w=>(k6 qP4) ((sr w))]
def qsW (x0:Int) (x1:List AV) (x2 x3 x4:Int):DT (Rd qcL):=
 .br (decide (x2 < (x1.length:Int)))
 (.br (qaD [.int .i64,.int .i64] x1 x2)
 (.at (.next ((.inr (x0,x1,IntKind.i64.wrap (x2 + 1),x3,x4,[.int .i64 (intOf (cellAt x1 x2 0))])))))
 (.no))
 (.at (.done 0))
def qku (x0:Int) (x1:List AV) (x2 x3 x4:Int) (x5:List AV):DT (Rd qcL):=
 .br (decide (x2 < (x1.length:Int)))
 (.br (qaD [.int .i64,.int .i64] x1 x2)
 (.br (room (x5.length + 1) 8) (.at (.next ((.inr (x0,x1,IntKind.i64.wrap (x2 + 1),x3,x4,x5 ++ [AV.int IntKind.i64 (intOf (cellAt x1 x2 0))]))))) (.no))
 (.no))
 (.at (.done 1))
def qg9:qcL -> DT (Rd qcL):=(Sum.elim (fun v=>qsW v.1 v.2.1 v.2.2.1 v.2.2.2.1 v.2.2.2.2) (fun v=>qku v.1 v.2.1 v.2.2.1 v.2.2.2.1 v.2.2.2.2.1 v.2.2.2.2.2))
def qj8 (v:qcL):Option (Nat × qcL):=qay (qap (fun v=>(qg9 v).ev) v)
theorem qcF (v):qj8 v = qap (fun v=>(qg9 v).ev) v:=qaa _
def qBS:qbz:=LE (τ:=qcL) (hD qBc) (qj8) q0V
theorem q0o:Go.Eng.Told IP (qae F83 0).1 (qae F83 0).2 (qBS):=qar (inferInstance:Inhabited qcL) (hs:=qBc) (st:=qg9) (L:=[]) qtt (qab (l:=[]) (by kernel_rfl) trivial) (qcF) (fun v=>match v with | (.inl v)=>by kernel_rfl | (.inr v)=>by kernel_rfl) (fun v=>match v with | (.inl v)=>by kernel_rfl | (.inr v)=>by kernel_rfl)
abbrev qdo:Type:=Int × List AV × Int × Int × Int × Int
def qBd:List PSt:=[⟨[(1008301,.junk),(0,.int .i64),(1,.view 2),(4,.ref 0 0 0),(8,.int .i64),(10,.int .i64)],[(0,.box [.int .i64,.int .i64] false)],1,0⟩]
def qP5 (x0:Int) (x1:List AV) (x2 x3:Int) (x4 x5:Int):X × St:=(.ret,
 ⟨[(0,.int .i64 x0),(1,.view 2 x1),(4,.ref 0 0 0),(5,.int .i64 1),(8,.int .i64 x2)],[(0,.box [.int .i64 0,.int .i64 0] false)],1,0⟩)
def qP6 (x0:Int) (x1:List AV) (x2 x3:Int) (x4 x5:Int):X × St:=(.exit 2,
 ⟨[(0,.int .i64 x0),(1,.view 2 x1),(4,.ref 0 0 0),(5,.junk),(8,.int .i64 x2)],[(0,.box [.int .i64 x4,.int .i64 x5] false)],1,0⟩)
def q0W:List (qdo -> X × St):=[(k6 qP5),(k6 qP6)]
def qkv (x0:Int) (x1:List AV) (x2 x3:Int) (x4 x5:Int):DT (Rd qdo):=
 .br (decide (x3 < (x1.length:Int)))
 (.br (qaD [.int .i64,.int .i64] x1 x3)
 (.bi (qgq (intOf (cellAt x1 x3 0)) (intOf (cellAt x1 x3 1))) (fun y0=>
 .br (!y0) (.at (.done 0)) (.at (.next ((x0,x1,x2,IntKind.i64.wrap (x3 + 1),x4,x5)))))
 (.no))
 (.no))
 (.at (.done 1))
def qi6:qdo -> DT (Rd qdo):=(fun v=>qkv v.1 v.2.1 v.2.2.1 v.2.2.2.1 v.2.2.2.2.1 v.2.2.2.2.2)
def qfM (v:qdo):Option (Nat × qdo):=qay (qap (fun v=>(qi6 v).ev) v)
theorem qso (v):qfM v = qap (fun v=>(qi6 v).ev) v:=qaa _
def qBT:qbz:=LE (τ:=qdo) (hD qBd) (qfM) q0W
theorem q0p:Go.Eng.Told IP (qae F83 1).1 (qae F83 1).2 (qBT):=lp (inferInstance:Inhabited qdo) (hs:=qBd) qi6 qtt qso
abbrev qHg:Type:=Int × Int
def qNp:PArgs:=⟨[.int .i64],[]⟩
def qO6:List PRes:=[⟨false,.agg [.int .i64,.int .u64],[]⟩]
def qm3 (x0:Int):DT qHg:=
 .br (decide (x0 < 0)) (.at ((-1,IntKind.u64.wrap x0))) (.at ((0,IntKind.u64.wrap x0)))
def qbZ (x0:Int):Option qHg:=qay (qm3 x0).ev
theorem qEq (x0):qbZ x0 = (qm3 x0).ev:=qaa _
theorem qZl:FH IP 100 qNp qO6 qbZ:=fh q5C qm3 qtt
def zat:Tab:=(100,FE qNp qO6 qbZ) :: zas
theorem qHU:qai IP zat:=⟨qaj qZl,qtt⟩
abbrev qGC:Type:=Bool × Int × Int
def qMK:PArgs:=⟨[.agg [.int .i64,.int .u64]],[]⟩
def qOr:List PRes:=[⟨false,.tup [.bool,.agg [.int .u64,.int .u64]],[]⟩]
def qmp (x0 x1:Int):DT qGC:=
 .br (decide (x0 >= 0))
 (.at ((false,IntKind.u64.wrap x0,x1)))
 (.br (IntKind.u64.wrap (IntKind.u64.wrap (-1 - x1) + 1) == 0)
 (.at ((true,IntKind.u64.wrap (IntKind.u64.wrap (-1 - IntKind.u64.wrap x0) + 1),IntKind.u64.wrap (IntKind.u64.wrap (-1 - x1) + 1))))
 (.at ((true,IntKind.u64.wrap (-1 - IntKind.u64.wrap x0),IntKind.u64.wrap (IntKind.u64.wrap (-1 - x1) + 1)))))
def qex (x0 x1:Int):Option qGC:=qay (qmp x0 x1).ev
theorem qDN (x0 x1):qex x0 x1 = (qmp x0 x1).ev:=qaa _
theorem qYx:FH IP 127 qMK qOr (k2 qex):=fh q5Z (k2 qmp) qHU
def zau:Tab:=(127,FE qMK qOr (k2 qex)) :: zat
theorem qHV:qai IP zau:=⟨qaj qYx,qHU⟩
abbrev qGQ:Type:=Int × Int × Bool
def qMZ:PArgs:=⟨[.agg [.int .u64,.int .u64],.agg [.int .u64,.int .u64]],[]⟩
def qOG:List PRes:=[⟨false,.tup [.agg [.int .u64,.int .u64],.bool],[]⟩]
def qmE (x0 x1:Int) (x2 x3:Int):DT qGQ:=
 .br (decide (IntKind.u64.wrap (x1 + x3) < x1))
 (.bi (br (decide (IntKind.u64.wrap (x0 + x2) >= x0)) (some (decide (IntKind.u64.wrap (IntKind.u64.wrap (x0 + x2) + 1) >= 1))) (some false)) (fun y0=>
 .at ((IntKind.u64.wrap (IntKind.u64.wrap (x0 + x2) + 1),IntKind.u64.wrap (x1 + x3),y0)))
 (.no))
 (.bi (br (decide (IntKind.u64.wrap (x0 + x2) >= x0)) (some (decide (IntKind.u64.wrap (IntKind.u64.wrap (x0 + x2) + 0) >= 0))) (some false)) (fun y0=>
 .at ((IntKind.u64.wrap (IntKind.u64.wrap (x0 + x2) + 0),IntKind.u64.wrap (x1 + x3),y0)))
 (.no))
def qfF (x0 x1:Int) (x2 x3:Int):Option qGQ:=qay (qmE x0 x1 x2 x3).ev
theorem qD1 (x0 x1 x2 x3):qfF x0 x1 x2 x3 = (qmE x0 x1 x2 x3).ev:=qaa _
theorem qYV:FH IP 143 qMZ qOG (k4 qfF):=fh q6a (k4 qmE) qHV
def zav:Tab:=(143,FE qMZ qOG (k4 qfF)) :: zau
theorem qHW:qai IP zav:=⟨qaj qYV,qHV⟩
abbrev qGO:Type:=Int × Int × Bool
def qMX:PArgs:=⟨[.bool,.agg [.int .u64,.int .u64]],[]⟩
def qOE:List PRes:=[⟨false,.tup [.agg [.int .i64,.int .u64],.bool],[]⟩]
def qmC (x0:Bool) (x1 x2:Int):DT qGO:=
 .br (!x0)
 (.at ((IntKind.i64.wrap x1,x2,decide (x1 < 9223372036854775808))))
 (.br (IntKind.u64.wrap (IntKind.u64.wrap (-1 - x2) + 1) == 0)
 (.br (decide (x1 < 9223372036854775808))
 (.at ((IntKind.i64.wrap (IntKind.u64.wrap (IntKind.u64.wrap (-1 - x1) + 1)),IntKind.u64.wrap (IntKind.u64.wrap (-1 - x2) + 1),true)))
 (.br (x1 == 9223372036854775808)
 (.at ((IntKind.i64.wrap (IntKind.u64.wrap (IntKind.u64.wrap (-1 - x1) + 1)),IntKind.u64.wrap (IntKind.u64.wrap (-1 - x2) + 1),x2 == 0)))
 (.at ((IntKind.i64.wrap (IntKind.u64.wrap (IntKind.u64.wrap (-1 - x1) + 1)),IntKind.u64.wrap (IntKind.u64.wrap (-1 - x2) + 1),false)))))
 (.br (decide (x1 < 9223372036854775808))
 (.at ((IntKind.i64.wrap (IntKind.u64.wrap (-1 - x1)),IntKind.u64.wrap (IntKind.u64.wrap (-1 - x2) + 1),true)))
 (.br (x1 == 9223372036854775808)
 (.at ((IntKind.i64.wrap (IntKind.u64.wrap (-1 - x1)),IntKind.u64.wrap (IntKind.u64.wrap (-1 - x2) + 1),x2 == 0)))
 (.at ((IntKind.i64.wrap (IntKind.u64.wrap (-1 - x1)),IntKind.u64.wrap (IntKind.u64.wrap (-1 - x2) + 1),false))))))
def qey (x0:Bool) (x1 x2:Int):Option qGO:=qay (qmC x0 x1 x2).ev
theorem qDZ (x0 x1 x2):qey x0 x1 x2 = (qmC x0 x1 x2).ev:=qaa _
theorem qYT:FH IP 146 qMX qOE (k3 qey):=fh q6d (k3 qmC) qHW
def zaw:Tab:=(146,FE qMX qOE (k3 qey)) :: zav
theorem qHX:qai IP zaw:=⟨qaj qYT,qHW⟩
abbrev qGP:Type:=Bool
def qMY:PArgs:=⟨[.agg [.int .u64,.int .u64],.agg [.int .u64,.int .u64]],[]⟩
def qOF:List PRes:=[⟨false,.bool,[]⟩]
def qmD (x0 x1:Int) (x2 x3:Int):DT qGP:=
 .bi (br (decide (x0 < x2)) (some true) (br (x0 == x2) (some (decide (x1 < x3))) (some false))) (fun y0=>
 .at (y0))
 (.no)
def qof (x0 x1:Int) (x2 x3:Int):Option qGP:=qay (qmD x0 x1 x2 x3).ev
theorem qD0 (x0 x1 x2 x3):qof x0 x1 x2 x3 = (qmD x0 x1 x2 x3).ev:=qaa _
theorem qYU:FH IP 144 qMY qOF (k4 qof):=fh q6b (k4 qmD) qHX
def zax:Tab:=(144,FE qMY qOF (k4 qof)) :: zaw
theorem qHY:qai IP zax:=⟨qaj qYU,qHX⟩
abbrev qGD:Type:=Int × Int
def qML:PArgs:=⟨[.agg [.int .u64,.int .u64],.agg [.int .u64,.int .u64]],[]⟩
def qOs:List PRes:=[⟨false,.agg [.int .u64,.int .u64],[]⟩]
def qmq (x0 x1:Int) (x2 x3:Int):DT qGD:=
 .br (decide (x1 < x3))
 (.at ((IntKind.u64.wrap (IntKind.u64.wrap (x0 - x2) - 1),IntKind.u64.wrap (x1 - x3))))
 (.at ((IntKind.u64.wrap (x0 - x2),IntKind.u64.wrap (x1 - x3))))
def qjK (x0 x1:Int) (x2 x3:Int):Option qGD:=qay (qmq x0 x1 x2 x3).ev
theorem qDO (x0 x1 x2 x3):qjK x0 x1 x2 x3 = (qmq x0 x1 x2 x3).ev:=qaa _
theorem qYy:FH IP 145 qML qOs (k4 qjK):=fh q6c (k4 qmq) qHY
def zay:Tab:=(145,FE qML qOs (k4 qjK)) :: zax
theorem qHZ:qai IP zay:=⟨qaj qYy,qHY⟩
abbrev qHc:Type:=Int × Int × Int
def qNl:PArgs:=⟨[.bool,.agg [.int .u64,.int .u64],.bool,.agg [.int .u64,.int .u64]],[]⟩
def qO2:List PRes:=[⟨false,.tup [.agg [.int .i64,.int .u64],.int .i64],[]⟩]
def qmZ (x0:Bool) (x1 x2:Int) (x3:Bool) (x4 x5:Int):DT qHc:=
 .br (if false = true then !x0 == x3 else x0 == x3)
 (.bi (qfF x1 x2 x4 x5) (fun y0=>
 .bi (qey x0 y0.1 y0.2.1) (fun y1=>
 .bi (br (!y0.2.2) (some true) (some !y1.2.2)) (fun y2=>
 .br (y2) (.at ((0,0,6))) (.at ((y1.1,y1.2.1,0))))
 (.no))
 (.no))
 (.no))
 (.bi (qof x1 x2 x4 x5) (fun y0=>
 .br (y0)
 (.bi (qjK x4 x5 x1 x2) (fun y1=>
 .bi (qey x3 y1.1 y1.2) (fun y2=>
 .br (gv (some !y2.2.2)) (.at ((0,0,6))) (.at ((y2.1,y2.2.1,0))))
 (.no))
 (.no))
 (.bi (qjK x1 x2 x4 x5) (fun y1=>
 .bi (qey x0 y1.1 y1.2) (fun y2=>
 .br (gv (some !y2.2.2)) (.at ((0,0,6))) (.at ((y2.1,y2.2.1,0))))
 (.no))
 (.no)))
 (.no))
def qjV (x0:Bool) (x1 x2:Int) (x3:Bool) (x4 x5:Int):Option qHc:=qay (qmZ x0 x1 x2 x3 x4 x5).ev
theorem qEm (x0 x1 x2 x3 x4 x5):qjV x0 x1 x2 x3 x4 x5 = (qmZ x0 x1 x2 x3 x4 x5).ev:=qaa _
theorem qZh:FH IP 128 qNl qO2 (k6 qjV):=fh q50 (k6 qmZ) qHZ
def zaz:Tab:=(128,FE qNl qO2 (k6 qjV)) :: zay
theorem qH0:qai IP zaz:=⟨qaj qZh,qHZ⟩
end
end Go.Proofs.H15p

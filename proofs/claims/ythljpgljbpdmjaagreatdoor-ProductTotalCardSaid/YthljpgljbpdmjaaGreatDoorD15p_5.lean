/- Functions over plain data. Printed by a program of mine. -/
import Derived.Test.YthljpgljbpdmjaaGreatDoorD15p_4
import Derived.KernelRfl
set_option linter.unusedVariables false
set_option linter.unusedSimpArgs false
set_option linter.unnecessarySimpa false
namespace Go.Proofs.H15p
open Go Go.Eng
set_option maxRecDepth 100000
noncomputable section
abbrev qe8:Type:=List AV × Int × Int
def qKl:List PSt:=[⟨[(1001202,.junk),(62,.view 6),(63,.int .i64),(64,.int .i64)],[],0,0⟩]
def qSP (x0:List AV) (x1 x2:Int):X × St:=(.ret,
 ⟨[(6,
 .int .i64
 (gv
 (qhL (strOf (cellAt x0 x2 0)) (intOf (cellAt x0 x2 1)) (intOf (cellAt x0 x2 2)) (intOf (cellAt x0 x2 3)) (strOf (cellAt x0 x2 4))
 (qaq (cellAt x0 x2 5)))))],[],0,0⟩)
def qSQ (x0:List AV) (x1 x2:Int):X × St:=(.exit 4,⟨[(6,.junk)],[],0,0⟩)
def q4U:List (qe8 -> X × St):=[(k3 qSP),(k3 qSQ)]
def qqk (x0:List AV) (x1 x2:Int):DT (Rd qe8):=
 .br (decide (x2 < x1))
 (.br (qaD [.str,.int .i64,.int .i64,.int .i64,.str,.slice 4] x0 x2)
 (.bi (qhL (strOf (cellAt x0 x2 0)) (intOf (cellAt x0 x2 1)) (intOf (cellAt x0 x2 2)) (intOf (cellAt x0 x2 3)) (strOf (cellAt x0 x2 4)) (qaq (cellAt x0 x2 5))) (fun y0=>
 .br (y0 != 0) (.at (.done 0)) (.at (.next ((x0,x1,IntKind.i64.wrap (x2 + 1))))))
 (.no))
 (.no))
 (.at (.done 1))
def qkK:qe8 -> DT (Rd qe8):=(fun v=>qqk v.1 v.2.1 v.2.2)
def qwP (v:qe8):Option (Nat × qe8):=qay (qap (fun v=>(qkK v).ev) v)
theorem qwQ (v):qwP v = qap (fun v=>(qkK v).ev) v:=qaa _
def qK5:qbz:=LE (τ:=qe8) (hD qKl) (qwP) q4U
theorem q4g:Go.Eng.Told IP (qae F12 2).1 (qae F12 2).2 (qK5):=lp (inferInstance:Inhabited qe8) (hs:=qKl) qkK qIy qwQ
abbrev qT0:Type:=Int
def qWg:PArgs:=⟨[.agg [.str,.str,.str,.int .i64,.int .i64,.int .i64,.int .i64,.view 2,.bool,.int .i64,.int .i64,.bool,.view 2,.bool,.int .i64,.int .i64,.bool,.view 10,.view 6],.view 2,.view 3],[]⟩
def qW2:List PRes:=[⟨false,.int .i64,[]⟩]
def qvj (x0 x1 x2:List UInt8) (x3 x4:Int) (x5 x6:Int) (x7:List AV) (x8:Bool) (x9 x10:Int) (x11:Bool) (x12:List AV) (x13:Bool) (x14 x15:Int) (x16:Bool) (x17 x18:List AV) (x19 x20:List AV):DT qT0:=
 .bi (qnG x0 x1 x2 x3 x4 x5 x6 x7 x8 x9 x10 x11 x12 x13 x14 x15 x16 x17 x18 x19 x20) (fun y0=>
 .br (y0 != 0)
 (.at (y0))
 (.bi (pj 0 (qsD (x7,x8,x9,x10,x11,x12,x13,x14,x15,x16,0,x0,x1,x2,x3,x4,x5,x6,x7,x8,x9,x10,x11,x12,x13,x14,x15,x16,x17,x18))) (fun y1=>
 .at (gv (qhv y1.1 y1.2.1 y1.2.2.1 y1.2.2.2.1 y1.2.2.2.2.1)))
 (.bi (pj 1 (qsD (x7,x8,x9,x10,x11,x12,x13,x14,x15,x16,0,x0,x1,x2,x3,x4,x5,x6,x7,x8,x9,x10,x11,x12,x13,x14,x15,x16,x17,x18))) (fun y1=>
 .at (gv
 (qhv y1.2.2.2.2.2.1 y1.2.2.2.2.2.2.1 y1.2.2.2.2.2.2.2.1 y1.2.2.2.2.2.2.2.2.1
 y1.2.2.2.2.2.2.2.2.2.1)))
 (.bi (pj 2 (qsD (x7,x8,x9,x10,x11,x12,x13,x14,x15,x16,0,x0,x1,x2,x3,x4,x5,x6,x7,x8,x9,x10,x11,x12,x13,x14,x15,x16,x17,x18))) (fun y1=>
 .bi (br (decide ((y1.2.2.2.2.2.2.2.2.2.2.2.2.2.2.2.2.2.2.2.2.2.2.2.2.2.2.2.2.1.length:Int) > 4)) (some true)
 (some (decide ((y1.2.2.2.2.2.2.2.2.2.2.2.2.2.2.2.2.2.2.2.2.2.2.2.2.2.2.2.2.2.length:Int) > 4)))) (fun y2=>
 .br (y2)
 (.at (5))
 (.bi (pj 0
 (qwN
 (y1.2.2.2.2.2.2.2.2.2.2.2.2.2.2.2.2.2.2.2.2.2.2.2.2.2.2.2.2.1,
 (y1.2.2.2.2.2.2.2.2.2.2.2.2.2.2.2.2.2.2.2.2.2.2.2.2.2.2.2.2.1.length:Int),0,
 y1.2.2.2.2.2.2.2.2.2.2.2.1,y1.2.2.2.2.2.2.2.2.2.2.2.2.1,y1.2.2.2.2.2.2.2.2.2.2.2.2.2.1,
 y1.2.2.2.2.2.2.2.2.2.2.2.2.2.2.1,y1.2.2.2.2.2.2.2.2.2.2.2.2.2.2.2.1,
 y1.2.2.2.2.2.2.2.2.2.2.2.2.2.2.2.2.1,y1.2.2.2.2.2.2.2.2.2.2.2.2.2.2.2.2.2.1,
 y1.2.2.2.2.2.2.2.2.2.2.2.2.2.2.2.2.2.2.1,y1.2.2.2.2.2.2.2.2.2.2.2.2.2.2.2.2.2.2.2.1,
 y1.2.2.2.2.2.2.2.2.2.2.2.2.2.2.2.2.2.2.2.2.1,
 y1.2.2.2.2.2.2.2.2.2.2.2.2.2.2.2.2.2.2.2.2.2.1,
 y1.2.2.2.2.2.2.2.2.2.2.2.2.2.2.2.2.2.2.2.2.2.2.1,
 y1.2.2.2.2.2.2.2.2.2.2.2.2.2.2.2.2.2.2.2.2.2.2.2.1,
 y1.2.2.2.2.2.2.2.2.2.2.2.2.2.2.2.2.2.2.2.2.2.2.2.2.1,
 y1.2.2.2.2.2.2.2.2.2.2.2.2.2.2.2.2.2.2.2.2.2.2.2.2.2.1,
 y1.2.2.2.2.2.2.2.2.2.2.2.2.2.2.2.2.2.2.2.2.2.2.2.2.2.2.1,
 y1.2.2.2.2.2.2.2.2.2.2.2.2.2.2.2.2.2.2.2.2.2.2.2.2.2.2.2.1,
 y1.2.2.2.2.2.2.2.2.2.2.2.2.2.2.2.2.2.2.2.2.2.2.2.2.2.2.2.2.1,
 y1.2.2.2.2.2.2.2.2.2.2.2.2.2.2.2.2.2.2.2.2.2.2.2.2.2.2.2.2.2))) (fun y3=>
 .at (gv
 (qhS (strOf (cellAt y3.1 y3.2.2.1 0)) (intOf (cellAt y3.1 y3.2.2.1 1)) (intOf (cellAt y3.1 y3.2.2.1 2)) (intOf (cellAt y3.1 y3.2.2.1 3))
 (strOf (cellAt y3.1 y3.2.2.1 4)) (qaq (cellAt y3.1 y3.2.2.1 5)) (intOf (cellAt y3.1 y3.2.2.1 6)) (intOf (cellAt y3.1 y3.2.2.1 7))
 (strOf (cellAt y3.1 y3.2.2.1 8)) (qaq (cellAt y3.1 y3.2.2.1 9)))))
 (.bi (pj 1
 (qwN
 (y1.2.2.2.2.2.2.2.2.2.2.2.2.2.2.2.2.2.2.2.2.2.2.2.2.2.2.2.2.1,
 (y1.2.2.2.2.2.2.2.2.2.2.2.2.2.2.2.2.2.2.2.2.2.2.2.2.2.2.2.2.1.length:Int),0,
 y1.2.2.2.2.2.2.2.2.2.2.2.1,y1.2.2.2.2.2.2.2.2.2.2.2.2.1,y1.2.2.2.2.2.2.2.2.2.2.2.2.2.1,
 y1.2.2.2.2.2.2.2.2.2.2.2.2.2.2.1,y1.2.2.2.2.2.2.2.2.2.2.2.2.2.2.2.1,
 y1.2.2.2.2.2.2.2.2.2.2.2.2.2.2.2.2.1,y1.2.2.2.2.2.2.2.2.2.2.2.2.2.2.2.2.2.1,
 y1.2.2.2.2.2.2.2.2.2.2.2.2.2.2.2.2.2.2.1,y1.2.2.2.2.2.2.2.2.2.2.2.2.2.2.2.2.2.2.2.1,
 y1.2.2.2.2.2.2.2.2.2.2.2.2.2.2.2.2.2.2.2.2.1,
 y1.2.2.2.2.2.2.2.2.2.2.2.2.2.2.2.2.2.2.2.2.2.1,
 y1.2.2.2.2.2.2.2.2.2.2.2.2.2.2.2.2.2.2.2.2.2.2.1,
 y1.2.2.2.2.2.2.2.2.2.2.2.2.2.2.2.2.2.2.2.2.2.2.2.1,
 y1.2.2.2.2.2.2.2.2.2.2.2.2.2.2.2.2.2.2.2.2.2.2.2.2.1,
 y1.2.2.2.2.2.2.2.2.2.2.2.2.2.2.2.2.2.2.2.2.2.2.2.2.2.1,
 y1.2.2.2.2.2.2.2.2.2.2.2.2.2.2.2.2.2.2.2.2.2.2.2.2.2.2.1,
 y1.2.2.2.2.2.2.2.2.2.2.2.2.2.2.2.2.2.2.2.2.2.2.2.2.2.2.2.1,
 y1.2.2.2.2.2.2.2.2.2.2.2.2.2.2.2.2.2.2.2.2.2.2.2.2.2.2.2.2.1,
 y1.2.2.2.2.2.2.2.2.2.2.2.2.2.2.2.2.2.2.2.2.2.2.2.2.2.2.2.2.2))) (fun y3=>
 .bi (pj 0
 (qwP
 (y3.2.2.2.2.2.2.2.2.2.2.2.2.2.2.2.2.2.2.2.2.2,
 (y3.2.2.2.2.2.2.2.2.2.2.2.2.2.2.2.2.2.2.2.2.2.length:Int),0))) (fun y4=>
 .at (gv
 (qhL (strOf (cellAt y4.1 y4.2.2 0)) (intOf (cellAt y4.1 y4.2.2 1)) (intOf (cellAt y4.1 y4.2.2 2)) (intOf (cellAt y4.1 y4.2.2 3))
 (strOf (cellAt y4.1 y4.2.2 4)) (qaq (cellAt y4.1 y4.2.2 5)))))
 (.bi (pj 1
 (qwP
 (y3.2.2.2.2.2.2.2.2.2.2.2.2.2.2.2.2.2.2.2.2.2,
 (y3.2.2.2.2.2.2.2.2.2.2.2.2.2.2.2.2.2.2.2.2.2.length:Int),0))) (fun y4=>
 .at (0))
 (.no)))
 (.no))))
 (.no))
 (.no)))))
 (.no)
def qhw (x0 x1 x2:List UInt8) (x3 x4:Int) (x5 x6:Int) (x7:List AV) (x8:Bool) (x9 x10:Int) (x11:Bool) (x12:List AV) (x13:Bool) (x14 x15:Int) (x16:Bool) (x17 x18:List AV) (x19 x20:List AV):Option qT0:=qay (qvj x0 x1 x2 x3 x4 x5 x6 x7 x8 x9 x10 x11 x12 x13 x14 x15 x16 x17 x18 x19 x20).ev
theorem qJH (x0 x1 x2 x3 x4 x5 x6 x7 x8 x9 x10 x11 x12 x13 x14 x15 x16 x17 x18 x19 x20):qhw x0 x1 x2 x3 x4 x5 x6 x7 x8 x9 x10 x11 x12 x13 x14 x15 x16 x17 x18 x19 x20 = (qvj x0 x1 x2 x3 x4 x5 x6 x7 x8 x9 x10 x11 x12 x13 x14 x15 x16 x17 x18 x19 x20).ev:=qaa _
theorem q2K:FH IP 12 qWg qW2 (k21 qhw):=qag (F:=F12) (L:=[(1001200,qK3),(1001201,qK4),(1001202,qK5)]) (t:=(k21 qvj)) qIy (qab (l:=[qae F12 0,qae F12 1,qae F12 2]) (by kernel_rfl) ⟨qas (by kernel_rfl) q4e,qas (by kernel_rfl) q4f,qas (by kernel_rfl) q4g,trivial⟩) (by kernel_rfl) (fun v=>by kernel_rfl) (fun _=>qaa _)
def T70:Tab:=(12,FE qWg qW2 (k21 qhw)) :: T69
theorem qUQ:qai IP T70:=⟨qaj q2K,qIy⟩
abbrev qHk:Type:=Int × Int × List UInt8 × List AV
def qxA:PArgs:=⟨[.agg [.int .i64,.int .i64,.str,.view 4]],[]⟩
def qxF:List PRes:=[⟨false,.agg [.int .i64,.int .i64,.str,.view 4],[]⟩]
abbrev qc4:Type:=Int -> Int -> (List UInt8) -> (List AV) -> Option qHk
def qyu (G_u60q:qc4):Prop:=FH IP 40 qxA qxF (k4 G_u60q)
def qXv (G_u60q:qc4):Tab:=(40,FE qxA qxF (k4 G_u60q)) :: T70
theorem qrA (G_u60q:qc4) (hG:qyu G_u60q):qai IP (qXv G_u60q):=⟨qaj (hG),qUQ⟩
abbrev qeq:Type:=(Int × Int × Int × Int × List UInt8 × Int × Int × List UInt8) ⊕ (Int × Int × Int × Int × List UInt8 × Int × Int × List UInt8 × List AV)
def qKh:List PSt:=[⟨[(1004000,.junk),(1,.ref 0 0 0),(2,.ref 1 0 0),(10,.int .i64),(11,.int .i64)],[(0,.box [.int .i64,.int .i64,.str,.nils ⟨4,.any⟩] false),(1,.box [.int .i64,.int .i64,.str,.nils 4] false)],2,0⟩,⟨[(1004000,.junk),(1,.ref 0 0 0),(2,.ref 1 0 0),(10,.int .i64),(11,.int .i64)],[(0,.box [.int .i64,.int .i64,.str,.own 2 0] false),(1,.box [.int .i64,.int .i64,.str,.nils 4] false),(2,.arr 4 false)],3,0⟩]
def qSE (x0 x1:Int) (x2 x3:Int) (x4:List UInt8) (x5 x6:Int) (x7:List UInt8):X × St:=(.exit 0,
 ⟨[(1,.ref 0 0 0),(2,.ref 1 0 0)],[(0,.box [.int .i64 x2,.int .i64 x3,.str x4,.nils ⟨4,.any⟩] false),
 (1,.box [.int .i64 x5,.int .i64 x6,.str x7,.nils ⟨4,.nil⟩] false)],2,0⟩)
def qSF (x0 x1:Int) (x2 x3:Int) (x4:List UInt8) (x5 x6:Int) (x7:List UInt8) (x8:List AV):X × St:=(.exit 0,
 ⟨[(1,.ref 0 0 0),(2,.ref 1 0 0)],[(0,.box [.int .i64 x2,.int .i64 x3,.str x4,.own 2 0 none] false),
 (1,.box [.int .i64 x5,.int .i64 x6,.str x7,.nils ⟨4,.nil⟩] false),(2,.arr 4 x8 false)],3,0⟩)
def q4Q:List (qeq -> X × St):=[fun w=>(k8 qSE) ((sl w)),fun w=>(k9 qSF) ((sr w))]
def qPq (G_u60q:qc4) (x0 x1:Int) (x2 x3:Int) (x4:List UInt8) (x5 x6:Int) (x7:List UInt8):DT (Rd qeq):=
 .br (decide (x1 < x0)) (.no) (.at (.done 0))
def qqh (G_u60q:qc4) (x0 x1:Int) (x2 x3:Int) (x4:List UInt8) (x5 x6:Int) (x7:List UInt8) (x8:List AV):DT (Rd qeq):=
 .br (decide (x1 < x0))
 (.br (inB x8.length x1)
 (.br (okP [.int .i64,.int .i64,.str,.slice 4] x8 x1.toNat 0)
 (.bi (G_u60q (intOf (qjy x8 x1.toNat 0)) (intOf (qjy x8 x1.toNat 1)) (strOf (qjy x8 x1.toNat 2)) (qaq (qjy x8 x1.toNat 3))) (fun y0=>
 .br (inB x8.length x1)
 (.br (okS x8 x1.toNat 0 4)
 (.at (.next ((.inr (x0,IntKind.i64.wrap (x1 + 1),x2,x3,x4,x5,x6,x7,q1C x8 x1.toNat 0 [.int .i64 y0.1,.int .i64 y0.2.1,AV.str y0.2.2.1,AV.view 4 y0.2.2.2])))))
 (.no))
 (.no))
 (.no))
 (.no))
 (.no))
 (.at (.done 1))
def qio (G_u60q:qc4):qeq -> DT (Rd qeq):=(Sum.elim (fun v=>qPq G_u60q v.1 v.2.1 v.2.2.1 v.2.2.2.1 v.2.2.2.2.1 v.2.2.2.2.2.1 v.2.2.2.2.2.2.1 v.2.2.2.2.2.2.2) (fun v=>qqh G_u60q v.1 v.2.1 v.2.2.1 v.2.2.2.1 v.2.2.2.2.1 v.2.2.2.2.2.1 v.2.2.2.2.2.2.1 v.2.2.2.2.2.2.2.1 v.2.2.2.2.2.2.2.2))
def qk7 (G_u60q:qc4) (v:qeq):Option (Nat × qeq):=qay (qap (fun v=>(qio G_u60q v).ev) v)
theorem qo6 (G_u60q v):qk7 G_u60q v = qap (fun v=>(qio G_u60q v).ev) v:=qaa _
def qK1 (G_u60q:qc4):qbz:=LE (τ:=qeq) (hD qKh) (qk7 G_u60q) q4Q
theorem q4c (G_u60q:qc4) (hG:qyu G_u60q):Go.Eng.Told IP (qae F40 0).1 (qae F40 0).2 (qK1 G_u60q):=qar (inferInstance:Inhabited qeq) (hs:=qKh) (st:=qio G_u60q) (L:=[]) (qrA G_u60q hG) (qab (l:=[]) (by kernel_rfl) trivial) (qo6 G_u60q) (fun v=>match v with | (.inl v)=>by kernel_rfl | (.inr v)=>by kernel_rfl) (fun v=>match v with | (.inl v)=>by kernel_rfl | (.inr v)=>by kernel_rfl)
def qq0 (G_u60q:qc4) (x0 x1:Int) (x2:List UInt8) (x3:List AV):DT qHk:=
 .br (decide (x3.length = 0))
 (.bi (pj 0 (qk7 G_u60q (Sum.inl (0,0,x0,x1,x2,0,0,[])))) (fun y0=>
 .at (((sl y0).2.2.1,(sl y0).2.2.2.1,(sl y0).2.2.2.2.1,[])))
 (.bi (pj 1 (qk7 G_u60q (Sum.inl (0,0,x0,x1,x2,0,0,[])))) (fun y0=>
 .at (((sr y0).2.2.1,(sr y0).2.2.2.1,(sr y0).2.2.2.2.1,(sr y0).2.2.2.2.2.2.2.2)))
 (.no)))
 (.br (decide (x3.length ≠ 0) && decide (x3.length * 56 <= lim))
 (.bi (pj 0 (qk7 G_u60q (Sum.inr ((x3.length:Int),0,x0,x1,x2,0,0,[],x3)))) (fun y0=>
 .at (((sl y0).2.2.1,(sl y0).2.2.2.1,(sl y0).2.2.2.2.1,[])))
 (.bi (pj 1 (qk7 G_u60q (Sum.inr ((x3.length:Int),0,x0,x1,x2,0,0,[],x3)))) (fun y0=>
 .at (((sr y0).2.2.1,(sr y0).2.2.2.1,(sr y0).2.2.2.2.1,(sr y0).2.2.2.2.2.2.2.2)))
 (.no)))
 (.no))
def qea:Nat -> qc4
 | 0=>fun _ _ _ _=>none
 | n + 1=>fun x0 x1 x2 x3=>(qq0 ((qea n)) x0 x1 x2 x3).ev
def qoz (x0 x1:Int) (x2:List UInt8) (x3:List AV):Option qHk:=qka fun n=>(qea n) x0 x1 x2 x3
theorem qvG:∀ n,qyu ((qea n))
 | 0=>(fun v y h=>nomatch h)
 | n + 1=>have hG:=qvG n
 qag (F:=F40) (L:=[(1004000,qK1 ((qea n)))]) (t:=(k4 (qq0 ((qea n))))) (qrA ((qea n)) hG) (qab (l:=[qae F40 0]) (by kernel_rfl) ⟨qas (by kernel_rfl) (q4c ((qea n)) hG),trivial⟩) (by kernel_rfl) (fun v=>by kernel_rfl) (fun v=>rfl)
theorem q2z:FH IP 40 qxA qxF (k4 qoz):=qbK (p:=qxA) (rs:=qxF) (s:=fun n=>(k4 ((qea n)))) fun n=>(qvG n)
def T71:Tab:=(40,FE qxA qxF (k4 qoz)) :: T70
theorem qIz:qai IP T71:=⟨qaj q2z,qUQ⟩
abbrev qdE:Type:=(Int × List AV × Int × Int) ⊕ (Int × List AV × Int × Int × List AV)
def qKs:List PSt:=[⟨[(1001800,.junk),(1,.int .i64),(5,.nils 10),(9,.view 10),(10,.int .i64),(11,.int .i64)],[],0,0⟩,⟨[(1001800,.junk),(1,.int .i64),(5,.own 0 0),(9,.view 10),(10,.int .i64),(11,.int .i64)],[(0,.arr 10 false)],1,0⟩]
def qSZ (x0:Int) (x1:List AV) (x2 x3:Int):X × St:=(.exit 0,⟨[(5,.nils ⟨10,.nil⟩)],[],0,0⟩)
def qS0 (x0:Int) (x1:List AV) (x2 x3:Int) (x4:List AV):X × St:=(.exit 0,⟨[(5,.own 0 0 none)],[(0,.arr 10 x4 false)],1,0⟩)
def q41:List (qdE -> X × St):=[fun w=>(k4 qSZ) ((sl w)),fun w=>(k5 qS0) ((sr w))]
def qqw (x0:Int) (x1:List AV) (x2 x3:Int):DT (Rd qdE):=
 .br (decide (x3 < x2))
 (.br (qaD [.str,.int .i64,.int .i64,.int .i64,.str,.slice 4,.int .i64,.int .i64,.str,.slice 4] x1 x3)
 (.br (intOf (cellAt x1 x3 1) == x0)
 (.bi (qoz (intOf (cellAt x1 x3 2)) (intOf (cellAt x1 x3 3)) (strOf (cellAt x1 x3 4)) (qaq (cellAt x1 x3 5))) (fun y0=>
 .bi (qoz (intOf (cellAt x1 x3 6)) (intOf (cellAt x1 x3 7)) (strOf (cellAt x1 x3 8)) (qaq (cellAt x1 x3 9))) (fun y1=>
 .at (.next ((.inr (x0,x1,x2,IntKind.i64.wrap (x3 + 1),[AV.agg
 [AV.str (strOf (cellAt x1 x3 0)),.int .i64 (intOf (cellAt x1 x3 1)),.int .i64 y0.1,.int .i64 y0.2.1,AV.str y0.2.2.1,
 AV.view 4 y0.2.2.2,.int .i64 y1.1,.int .i64 y1.2.1,AV.str y1.2.2.1,AV.view 4 y1.2.2.2]])))))
 (.no))
 (.no))
 (.at (.next ((.inl (x0,x1,x2,IntKind.i64.wrap (x3 + 1)))))))
 (.no))
 (.at (.done 0))
def qqx (x0:Int) (x1:List AV) (x2 x3:Int) (x4:List AV):DT (Rd qdE):=
 .br (decide (x3 < x2))
 (.br (qaD [.str,.int .i64,.int .i64,.int .i64,.str,.slice 4,.int .i64,.int .i64,.str,.slice 4] x1 x3)
 (.br (intOf (cellAt x1 x3 1) == x0)
 (.bi (qoz (intOf (cellAt x1 x3 2)) (intOf (cellAt x1 x3 3)) (strOf (cellAt x1 x3 4)) (qaq (cellAt x1 x3 5))) (fun y0=>
 .bi (qoz (intOf (cellAt x1 x3 6)) (intOf (cellAt x1 x3 7)) (strOf (cellAt x1 x3 8)) (qaq (cellAt x1 x3 9))) (fun y1=>
 .br (room (x4.length + 1) 136)
 (.at (.next ((.inr (x0,x1,x2,IntKind.i64.wrap (x3 + 1),x4 ++
 [AV.agg
 [AV.str (strOf (cellAt x1 x3 0)),.int .i64 (intOf (cellAt x1 x3 1)),.int .i64 y0.1,.int .i64 y0.2.1,AV.str y0.2.2.1,
 AV.view 4 y0.2.2.2,.int .i64 y1.1,.int .i64 y1.2.1,AV.str y1.2.2.1,AV.view 4 y1.2.2.2]])))))
 (.no))
 (.no))
 (.no))
 (.at (.next ((.inr (x0,x1,x2,IntKind.i64.wrap (x3 + 1),x4))))))
 (.no))
 (.at (.done 1))
def qgG:qdE -> DT (Rd qdE):=(Sum.elim (fun v=>qqw v.1 v.2.1 v.2.2.1 v.2.2.2) (fun v=>qqx v.1 v.2.1 v.2.2.1 v.2.2.2.1 v.2.2.2.2))
def qwY (v:qdE):Option (Nat × qdE):=qay (qap (fun v=>(qgG v).ev) v)
theorem qwZ (v):qwY v = qap (fun v=>(qgG v).ev) v:=qaa _
def qLc:qbz:=LE (τ:=qdE) (hD qKs) (qwY) q41
theorem q4n:Go.Eng.Told IP (qae F18 0).1 (qae F18 0).2 (qLc):=qar (inferInstance:Inhabited qdE) (hs:=qKs) (st:=qgG) (L:=[]) qIz (qab (l:=[]) (by kernel_rfl) trivial) (qwZ) (fun v=>match v with | (.inl v)=>by kernel_rfl | (.inr v)=>by kernel_rfl) (fun v=>match v with | (.inl v)=>by kernel_rfl | (.inr v)=>by kernel_rfl)
abbrev qUe:Type:=List AV
def qWu:PArgs:=⟨[.agg [.str,.str,.str,.int .i64,.int .i64,.int .i64,.int .i64,.view 2,.bool,.int .i64,.int .i64,.bool,.view 2,.bool,.int .i64,.int .i64,.bool,.view 10,.view 6],.int .i64],[]⟩
def qXg:List PRes:=[⟨false,.view 10,[]⟩]
def qvx (x0 x1 x2:List UInt8) (x3 x4:Int) (x5 x6:Int) (x7:List AV) (x8:Bool) (x9 x10:Int) (x11:Bool) (x12:List AV) (x13:Bool) (x14 x15:Int) (x16:Bool) (x17 x18:List AV) (x19:Int):DT qUe:=
 .bi (pj 0 (qwY (Sum.inl (x19,x17,(x17.length:Int),0)))) (fun y0=>
 .at ([]))
 (.bi (pj 1 (qwY (Sum.inl (x19,x17,(x17.length:Int),0)))) (fun y0=>
 .at ((sr y0).2.2.2.2))
 (.no))
def qr7 (x0 x1 x2:List UInt8) (x3 x4:Int) (x5 x6:Int) (x7:List AV) (x8:Bool) (x9 x10:Int) (x11:Bool) (x12:List AV) (x13:Bool) (x14 x15:Int) (x16:Bool) (x17 x18:List AV) (x19:Int):Option qUe:=qay (qvx x0 x1 x2 x3 x4 x5 x6 x7 x8 x9 x10 x11 x12 x13 x14 x15 x16 x17 x18 x19).ev
theorem qJW (x0 x1 x2 x3 x4 x5 x6 x7 x8 x9 x10 x11 x12 x13 x14 x15 x16 x17 x18 x19):qr7 x0 x1 x2 x3 x4 x5 x6 x7 x8 x9 x10 x11 x12 x13 x14 x15 x16 x17 x18 x19 = (qvx x0 x1 x2 x3 x4 x5 x6 x7 x8 x9 x10 x11 x12 x13 x14 x15 x16 x17 x18 x19).ev:=qaa _
theorem q2Z:FH IP 18 qWu qXg (k20 qr7):=qag (F:=F18) (L:=[(1001800,qLc)]) (t:=(k20 qvx)) qIz (qab (l:=[qae F18 0]) (by kernel_rfl) ⟨qas (by kernel_rfl) q4n,trivial⟩) (by kernel_rfl) (fun v=>by kernel_rfl) (fun _=>qaa _)
def T72:Tab:=(18,FE qWu qXg (k20 qr7)) :: T71
theorem qUR:qai IP T72:=⟨qaj q2Z,qIz⟩
abbrev qFL:Type:=List AV × Bool × Int × Int × Bool
def qLV:PArgs:=⟨[.agg [.str,.str,.str,.int .i64,.int .i64,.int .i64,.int .i64,.view 2,.bool,.int .i64,.int .i64,.bool,.view 2,.bool,.int .i64,.int .i64,.bool,.view 10,.view 6],.int .i64],[]⟩
def qNB:List PRes:=[⟨false,.agg [.view 2,.bool,.int .i64,.int .i64,.bool],[]⟩]
def qlD (x0 x1 x2:List UInt8) (x3 x4:Int) (x5 x6:Int) (x7:List AV) (x8:Bool) (x9 x10:Int) (x11:Bool) (x12:List AV) (x13:Bool) (x14 x15:Int) (x16:Bool) (x17 x18:List AV) (x19:Int):DT qFL:=
 .br (decide (x19 < 0))
 (.br (decide (x12.length = 0))
 (.at (([],x13,x14,x15,x16)))
 (.br (decide (x12.length ≠ 0) && decide (x12.length * 16 <= lim)) (.at ((x12,x13,x14,x15,x16))) (.no)))
 (.br (decide (x7.length = 0))
 (.at (([],x8,x9,x10,x11)))
 (.br (decide (x7.length ≠ 0) && decide (x7.length * 16 <= lim)) (.at ((x7,x8,x9,x10,x11))) (.no)))
def qjF (x0 x1 x2:List UInt8) (x3 x4:Int) (x5 x6:Int) (x7:List AV) (x8:Bool) (x9 x10:Int) (x11:Bool) (x12:List AV) (x13:Bool) (x14 x15:Int) (x16:Bool) (x17 x18:List AV) (x19:Int):Option qFL:=qay (qlD x0 x1 x2 x3 x4 x5 x6 x7 x8 x9 x10 x11 x12 x13 x14 x15 x16 x17 x18 x19).ev
theorem qC2 (x0 x1 x2 x3 x4 x5 x6 x7 x8 x9 x10 x11 x12 x13 x14 x15 x16 x17 x18 x19):qjF x0 x1 x2 x3 x4 x5 x6 x7 x8 x9 x10 x11 x12 x13 x14 x15 x16 x17 x18 x19 = (qlD x0 x1 x2 x3 x4 x5 x6 x7 x8 x9 x10 x11 x12 x13 x14 x15 x16 x17 x18 x19).ev:=qaa _
theorem qXE:FH IP 15 qLV qNB (k20 qjF):=fh F15 (k20 qlD) qUR
def T73:Tab:=(15,FE qLV qNB (k20 qjF)) :: T72
theorem qIA:qai IP T73:=⟨qaj qXE,qUR⟩
abbrev qe2:Type:=Int × Int × List AV × Bool × Int × Int × Bool × List AV × Bool × Int × Int × Bool
def qKb:List PSt:=[⟨[(1004100,.junk),(2,.ref 0 0 0),(3,.ref 1 0 0),(15,.int .i64),(16,.int .i64)],[(0,.box [.view 2,.bool,.int .i64,.int .i64,.bool] false),(1,.box [.view 2,.bool,.int .i64,.int .i64,.bool] false)],2,0⟩]
def qSr (x0 x1:Int) (x2:List AV) (x3:Bool) (x4 x5:Int) (x6:Bool) (x7:List AV) (x8:Bool) (x9 x10:Int) (x11:Bool):X × St:=(.ret,
 ⟨[(2,.ref 0 0 0),(3,.ref 1 0 0),(4,.bool false)],[(0,.box [.view 2 x2,.bool x3,.int .i64 x4,.int .i64 x5,.bool x6] false),
 (1,.box [.view 2 x7,.bool x8,.int .i64 x9,.int .i64 x10,.bool x11] false)],2,0⟩)
def qSs (x0 x1:Int) (x2:List AV) (x3:Bool) (x4 x5:Int) (x6:Bool) (x7:List AV) (x8:Bool) (x9 x10:Int) (x11:Bool):X × St:=(.exit 0,
 ⟨[(2,.ref 0 0 0),(3,.ref 1 0 0),(4,.junk)],[(0,.box [.view 2 x2,.bool x3,.int .i64 x4,.int .i64 x5,.bool x6] false),
 (1,.box [.view 2 x7,.bool x8,.int .i64 x9,.int .i64 x10,.bool x11] false)],2,0⟩)
def q4K:List (qe2 -> X × St):=[(k12 qSr),(k12 qSs)]
def qqa (x0 x1:Int) (x2:List AV) (x3:Bool) (x4 x5:Int) (x6:Bool) (x7:List AV) (x8:Bool) (x9 x10:Int) (x11:Bool):DT (Rd qe2):=
 .br (decide (x1 < x0))
 (.br (qaD [.int .i64,.int .i64] x2 x1)
 (.br (qaD [.int .i64,.int .i64] x7 x1)
 (.br (if true = true then !(intOf (cellAt x2 x1 0) == intOf (cellAt x7 x1 0) && (intOf (cellAt x2 x1 1) == intOf (cellAt x7 x1 1) && true))
 else intOf (cellAt x2 x1 0) == intOf (cellAt x7 x1 0) && (intOf (cellAt x2 x1 1) == intOf (cellAt x7 x1 1) && true))
 (.at (.done 0))
 (.at (.next ((x0,IntKind.i64.wrap (x1 + 1),x2,x3,x4,x5,x6,x7,x8,x9,x10,x11)))))
 (.no))
 (.no))
 (.at (.done 1))
def qkI:qe2 -> DT (Rd qe2):=(fun v=>qqa v.1 v.2.1 v.2.2.1 v.2.2.2.1 v.2.2.2.2.1 v.2.2.2.2.2.1 v.2.2.2.2.2.2.1 v.2.2.2.2.2.2.2.1 v.2.2.2.2.2.2.2.2.1 v.2.2.2.2.2.2.2.2.2.1 v.2.2.2.2.2.2.2.2.2.2.1 v.2.2.2.2.2.2.2.2.2.2.2)
def qwE (v:qe2):Option (Nat × qe2):=qay (qap (fun v=>(qkI v).ev) v)
theorem qwF (v):qwE v = qap (fun v=>(qkI v).ev) v:=qaa _
def qKV:qbz:=LE (τ:=qe2) (hD qKb) (qwE) q4K
theorem q36:Go.Eng.Told IP (qae F41 0).1 (qae F41 0).2 (qKV):=lp (inferInstance:Inhabited qe2) (hs:=qKb) qkI qIA qwF
abbrev qTC:Type:=Bool
def qVS:PArgs:=⟨[.agg [.view 2,.bool,.int .i64,.int .i64,.bool],.agg [.view 2,.bool,.int .i64,.int .i64,.bool]],[]⟩
def qWD:List PRes:=[⟨false,.bool,[]⟩]
def quX (x0:List AV) (x1:Bool) (x2 x3:Int) (x4:Bool) (x5:List AV) (x6:Bool) (x7 x8:Int) (x9:Bool):DT qTC:=
 .br ((x0.length:Int) != (x5.length:Int))
 (.at (false))
 (.bi (pj 0 (qwE ((x0.length:Int),0,x0,x1,x2,x3,x4,x5,x6,x7,x8,x9))) (fun y0=>
 .at (false))
 (.bi (pj 1 (qwE ((x0.length:Int),0,x0,x1,x2,x3,x4,x5,x6,x7,x8,x9))) (fun y0=>
 .bi (br (if false = true then !y0.2.2.2.1 == y0.2.2.2.2.2.2.2.2.1 else y0.2.2.2.1 == y0.2.2.2.2.2.2.2.2.1)
 (some (y0.2.2.2.2.1 == y0.2.2.2.2.2.2.2.2.2.1)) (some false)) (fun y1=>
 .bi (br y1 (some (y0.2.2.2.2.2.1 == y0.2.2.2.2.2.2.2.2.2.2.1)) (some false)) (fun y2=>
 .bi (br y2
 (some
 (if false = true then !y0.2.2.2.2.2.2.1 == y0.2.2.2.2.2.2.2.2.2.2.2
 else y0.2.2.2.2.2.2.1 == y0.2.2.2.2.2.2.2.2.2.2.2))
 (some false)) (fun y3=>
 .at (y3))
 (.no))
 (.no))
 (.no))
 (.no)))
def qox (x0:List AV) (x1:Bool) (x2 x3:Int) (x4:Bool) (x5:List AV) (x6:Bool) (x7 x8:Int) (x9:Bool):Option qTC:=qay (quX x0 x1 x2 x3 x4 x5 x6 x7 x8 x9).ev
theorem qJj (x0 x1 x2 x3 x4 x5 x6 x7 x8 x9):qox x0 x1 x2 x3 x4 x5 x6 x7 x8 x9 = (quX x0 x1 x2 x3 x4 x5 x6 x7 x8 x9).ev:=qaa _
theorem q2k:FH IP 41 qVS qWD (k10 qox):=qag (F:=F41) (L:=[(1004100,qKV)]) (t:=(k10 quX)) qIA (qab (l:=[qae F41 0]) (by kernel_rfl) ⟨qas (by kernel_rfl) q36,trivial⟩) (by kernel_rfl) (fun v=>by kernel_rfl) (fun _=>qaa _)
def T74:Tab:=(41,FE qVS qWD (k10 qox)) :: T73
theorem qUS:qai IP T74:=⟨qaj q2k,qIA⟩
abbrev qys:Type:=Bool
def qpw:PArgs:=⟨[.agg [.int .i64,.int .i64,.str,.view 4],.agg [.int .i64,.int .i64,.str,.view 4]],[]⟩
def qpM:List PRes:=[⟨false,.bool,[]⟩]
abbrev qbP:Type:=Int -> Int -> (List UInt8) -> (List AV) -> Int -> Int -> (List UInt8) -> (List AV) -> Option qys
abbrev qXm:Type:=Bool
def qNt:PArgs:=⟨[.view 4,.view 4,.fn (.func 44) []],[]⟩
def qPa:List PRes:=[⟨false,.bool,[]⟩]
abbrev qfW:Type:=(List AV) -> (List AV) -> Option qXm
def qth (G_u197q:qbP) (G_u2q:qfW):Prop:=FH IP 44 qpw qpM (k8 G_u197q) /\ FH IP 59 qNt qPa (k2 G_u2q)
def qQ5 (G_u197q:qbP) (G_u2q:qfW):Tab:=(44,FE qpw qpM (k8 G_u197q)) :: (59,FE qNt qPa (k2 G_u2q)) :: T74
theorem qhF (G_u197q:qbP) (G_u2q:qfW) (hG:qth G_u197q G_u2q):qai IP (qQ5 G_u197q G_u2q):=⟨qaj (hG.1),qaj (hG.2),qUS⟩
abbrev qix:Type:=List AV × List AV × Int × Int
def qVs:List PSt:=[⟨[(1005900,.junk),(1,.view 4),(2,.fn (.func 44) []),(15,.view 4),(16,.int .i64),(17,.int .i64)],[],0,0⟩]
def q0K (x0 x1:List AV) (x2 x3:Int):X × St:=(.ret,⟨[(6,.bool false)],[],0,0⟩)
def q0L (x0 x1:List AV) (x2 x3:Int):X × St:=(.exit 0,⟨[(6,.junk)],[],0,0⟩)
def q9N:List (qix -> X × St):=[(k4 q0K),(k4 q0L)]
def quv (G_u197q:qbP) (G_u2q:qfW) (x0 x1:List AV) (x2 x3:Int):DT (Rd qix):=
 .br (decide (x3 < x2))
 (.br (qaD [.int .i64,.int .i64,.str,.slice 4] x1 x3)
 (.br (qaD [.int .i64,.int .i64,.str,.slice 4] x0 x3)
 (.bi (G_u197q (intOf (cellAt x1 x3 0)) (intOf (cellAt x1 x3 1)) (strOf (cellAt x1 x3 2)) (qaq (cellAt x1 x3 3)) (intOf (cellAt x0 x3 0)) (intOf (cellAt x0 x3 1))
 (strOf (cellAt x0 x3 2)) (qaq (cellAt x0 x3 3))) (fun y0=>
 .br (!y0) (.at (.done 0)) (.at (.next ((x0,x1,x2,IntKind.i64.wrap (x3 + 1))))))
 (.no))
 (.no))
 (.no))
 (.at (.done 1))
def qsU (G_u197q:qbP) (G_u2q:qfW):qix -> DT (Rd qix):=(fun v=>quv G_u197q G_u2q v.1 v.2.1 v.2.2.1 v.2.2.2)
def qKK (G_u197q:qbP) (G_u2q:qfW) (v:qix):Option (Nat × qix):=qay (qap (fun v=>(qsU G_u197q G_u2q v).ev) v)
theorem qBv (G_u197q G_u2q v):qKK G_u197q G_u2q v = qap (fun v=>(qsU G_u197q G_u2q v).ev) v:=qaa _
def qVA (G_u197q:qbP) (G_u2q:qfW):qbz:=LE (τ:=qix) (hD qVs) (qKK G_u197q G_u2q) q9N
theorem q9C (G_u197q:qbP) (G_u2q:qfW) (hG:qth G_u197q G_u2q):Go.Eng.Told IP (qae F59 0).1 (qae F59 0).2 (qVA G_u197q G_u2q):=qar (inferInstance:Inhabited qix) (hs:=qVs) (st:=qsU G_u197q G_u2q) (L:=[]) (qhF G_u197q G_u2q hG) (qab (l:=[]) (by kernel_rfl) trivial) (qBv G_u197q G_u2q) (fun v=>by kernel_rfl) (fun v=>by kernel_rfl)
def qmy (G_u197q:qbP) (G_u2q:qfW) (x0 x1:Int) (x2:List UInt8) (x3:List AV) (x4 x5:Int) (x6:List UInt8) (x7:List AV):DT qys:=
 .bi (br (x0 == x4) (some (x1 == x5)) (some false)) (fun y0=>
 .bi (br y0 (some (x2 == x6)) (some false)) (fun y1=>
 .bi (br y1 (br (sm (G_u2q x3 x7)) (some (gv (G_u2q x3 x7))) none) (some false)) (fun y2=>
 .at (y2))
 (.no))
 (.no))
 (.no)
def qCw (G_u197q:qbP) (G_u2q:qfW) (x0 x1:List AV):DT qXm:=
 .br ((x0.length:Int) != (x1.length:Int))
 (.at (false))
 (.bi (pj 0 (qKK G_u197q G_u2q (x1,x0,(x0.length:Int),0))) (fun y0=>
 .at (false))
 (.bi (pj 1 (qKK G_u197q G_u2q (x1,x0,(x0.length:Int),0))) (fun y0=>
 .at (true))
 (.no)))
def qaR:Nat -> qbP × qfW
 | 0=>(fun _ _ _ _ _ _ _ _=>none,fun _ _=>none)
 | n + 1=>(fun x0 x1 x2 x3 x4 x5 x6 x7=>(qmy ((qaR n).1) ((qaR n).2) x0 x1 x2 x3 x4 x5 x6 x7).ev,fun x0 x1=>(qCw ((qaR n).1) ((qaR n).2) x0 x1).ev)
def qfE (x0 x1:Int) (x2:List UInt8) (x3:List AV) (x4 x5:Int) (x6:List UInt8) (x7:List AV):Option qys:=qka fun n=>(qaR n).1 x0 x1 x2 x3 x4 x5 x6 x7
def q28 (x0 x1:List AV):Option qXm:=qka fun n=>(qaR n).2 x0 x1
theorem qju:∀ n,qth ((qaR n).1) ((qaR n).2)
 | 0=>⟨(fun v y h=>nomatch h),(fun v y h=>nomatch h)⟩
 | n + 1=>have hG:=qju n
 ⟨qag (F:=F44) (L:=[]) (t:=(k8 (qmy ((qaR n).1) ((qaR n).2)))) (qhF ((qaR n).1) ((qaR n).2) hG) (qab (l:=[]) (by kernel_rfl) trivial) (by kernel_rfl) (fun v=>by kernel_rfl) (fun v=>rfl),qag (F:=F59) (L:=[(1005900,qVA ((qaR n).1) ((qaR n).2))]) (t:=(k2 (qCw ((qaR n).1) ((qaR n).2)))) (qhF ((qaR n).1) ((qaR n).2) hG) (qab (l:=[qae F59 0]) (by kernel_rfl) ⟨qas (by kernel_rfl) (q9C ((qaR n).1) ((qaR n).2) hG),trivial⟩) (by kernel_rfl) (fun v=>by kernel_rfl) (fun v=>rfl)⟩
theorem qYO:FH IP 44 qpw qpM (k8 qfE):=qbK (p:=qpw) (rs:=qpM) (s:=fun n=>(k8 ((qaR n).1))) fun n=>(qju n).1
theorem q64:FH IP 59 qNt qPa (k2 q28):=qbK (p:=qNt) (rs:=qPa) (s:=fun n=>(k2 ((qaR n).2))) fun n=>(qju n).2
def T75:Tab:=(44,FE qpw qpM (k8 qfE)) :: T74
theorem q1X:qai IP T75:=⟨qaj qYO,qUS⟩
def T76:Tab:=(59,FE qNt qPa (k2 q28)) :: T75
theorem qUT:qai IP T76:=⟨qaj q64,q1X⟩
abbrev qTQ:Type:=Bool
def qV5:PArgs:=⟨[.agg [.str,.int .i64,.int .i64,.int .i64,.str,.view 4,.int .i64,.int .i64,.str,.view 4],.agg [.str,.int .i64,.int .i64,.int .i64,.str,.view 4,.int .i64,.int .i64,.str,.view 4]],[]⟩
def qWR:List PRes:=[⟨false,.bool,[]⟩]
def qu8 (x0:List UInt8) (x1 x2 x3:Int) (x4:List UInt8) (x5:List AV) (x6 x7:Int) (x8:List UInt8) (x9:List AV) (x10:List UInt8) (x11 x12 x13:Int) (x14:List UInt8) (x15:List AV) (x16 x17:Int) (x18:List UInt8) (x19:List AV):DT qTQ:=
 .bi (br (x0 == x10) (some (x1 == x11)) (some false)) (fun y0=>
 .bi (br y0 (br (sm (qfE x2 x3 x4 x5 x12 x13 x14 x15)) (some (gv (qfE x2 x3 x4 x5 x12 x13 x14 x15))) none) (some false)) (fun y1=>
 .bi (br y1 (br (sm (qfE x6 x7 x8 x9 x16 x17 x18 x19)) (some (gv (qfE x6 x7 x8 x9 x16 x17 x18 x19))) none) (some false)) (fun y2=>
 .at (y2))
 (.no))
 (.no))
 (.no)
def qwe (x0:List UInt8) (x1 x2 x3:Int) (x4:List UInt8) (x5:List AV) (x6 x7:Int) (x8:List UInt8) (x9:List AV) (x10:List UInt8) (x11 x12 x13:Int) (x14:List UInt8) (x15:List AV) (x16 x17:Int) (x18:List UInt8) (x19:List AV):Option qTQ:=qay (qu8 x0 x1 x2 x3 x4 x5 x6 x7 x8 x9 x10 x11 x12 x13 x14 x15 x16 x17 x18 x19).ev
theorem qJv (x0 x1 x2 x3 x4 x5 x6 x7 x8 x9 x10 x11 x12 x13 x14 x15 x16 x17 x18 x19):qwe x0 x1 x2 x3 x4 x5 x6 x7 x8 x9 x10 x11 x12 x13 x14 x15 x16 x17 x18 x19 = (qu8 x0 x1 x2 x3 x4 x5 x6 x7 x8 x9 x10 x11 x12 x13 x14 x15 x16 x17 x18 x19).ev:=qaa _
theorem q2x:FH IP 43 qV5 qWR (k20 qwe):=fh F43 (k20 qu8) qUT
def T77:Tab:=(43,FE qV5 qWR (k20 qwe)) :: T76
theorem qIB:qai IP T77:=⟨qaj q2x,qUT⟩
abbrev qiz:Type:=List AV × List AV × Int × Int
def qVu:List PSt:=[⟨[(1004200,.junk),(1,.view 10),(2,.fn (.func 43) []),(15,.view 10),(16,.int .i64),(17,.int .i64)],[],0,0⟩]
def q1e (x0 x1:List AV) (x2 x3:Int):X × St:=(.ret,⟨[(6,.bool false)],[],0,0⟩)
def q1f (x0 x1:List AV) (x2 x3:Int):X × St:=(.exit 0,⟨[(6,.junk)],[],0,0⟩)
def q9P:List (qiz -> X × St):=[(k4 q1e),(k4 q1f)]
def quz (x0 x1:List AV) (x2 x3:Int):DT (Rd qiz):=
 .br (decide (x3 < x2))
 (.br (qaD [.str,.int .i64,.int .i64,.int .i64,.str,.slice 4,.int .i64,.int .i64,.str,.slice 4] x1 x3)
 (.br (qaD [.str,.int .i64,.int .i64,.int .i64,.str,.slice 4,.int .i64,.int .i64,.str,.slice 4] x0 x3)
 (.bi (qwe (strOf (cellAt x1 x3 0)) (intOf (cellAt x1 x3 1)) (intOf (cellAt x1 x3 2)) (intOf (cellAt x1 x3 3)) (strOf (cellAt x1 x3 4)) (qaq (cellAt x1 x3 5))
 (intOf (cellAt x1 x3 6)) (intOf (cellAt x1 x3 7)) (strOf (cellAt x1 x3 8)) (qaq (cellAt x1 x3 9)) (strOf (cellAt x0 x3 0)) (intOf (cellAt x0 x3 1)) (intOf (cellAt x0 x3 2))
 (intOf (cellAt x0 x3 3)) (strOf (cellAt x0 x3 4)) (qaq (cellAt x0 x3 5)) (intOf (cellAt x0 x3 6)) (intOf (cellAt x0 x3 7)) (strOf (cellAt x0 x3 8)) (qaq (cellAt x0 x3 9))) (fun y0=>
 .br (!y0) (.at (.done 0)) (.at (.next ((x0,x1,x2,IntKind.i64.wrap (x3 + 1))))))
 (.no))
 (.no))
 (.no))
 (.at (.done 1))
def qsY:qiz -> DT (Rd qiz):=(fun v=>quz v.1 v.2.1 v.2.2.1 v.2.2.2)
def qKM (v:qiz):Option (Nat × qiz):=qay (qap (fun v=>(qsY v).ev) v)
theorem qBA (v):qKM v = qap (fun v=>(qsY v).ev) v:=qaa _
def qVC:qbz:=LE (τ:=qiz) (hD qVu) (qKM) q9P
theorem q9E:Go.Eng.Told IP (qae F42 0).1 (qae F42 0).2 (qVC):=lp (inferInstance:Inhabited qiz) (hs:=qVu) qsY qIB qBA
abbrev q1K:Type:=Bool
def q3N:PArgs:=⟨[.view 10,.view 10,.fn (.func 43) []],[]⟩
def q3U:List PRes:=[⟨false,.bool,[]⟩]
def qCy (x0 x1:List AV):DT q1K:=
 .br ((x0.length:Int) != (x1.length:Int))
 (.at (false))
 (.bi (pj 0 (qKM (x1,x0,(x0.length:Int),0))) (fun y0=>
 .at (false))
 (.bi (pj 1 (qKM (x1,x0,(x0.length:Int),0))) (fun y0=>
 .at (true))
 (.no)))
def qJx (x0 x1:List AV):Option q1K:=qay (qCy x0 x1).ev
theorem qRv (x0 x1):qJx x0 x1 = (qCy x0 x1).ev:=qaa _
theorem q66:FH IP 42 q3N q3U (k2 qJx):=qag (F:=F42) (L:=[(1004200,qVC)]) (t:=(k2 qCy)) qIB (qab (l:=[qae F42 0]) (by kernel_rfl) ⟨qas (by kernel_rfl) q9E,trivial⟩) (by kernel_rfl) (fun v=>by kernel_rfl) (fun _=>qaa _)
def T78:Tab:=(42,FE q3N q3U (k2 qJx)) :: T77
theorem qUU:qai IP T78:=⟨qaj q66,qIB⟩
abbrev qTR:Type:=Bool
def qV6:PArgs:=⟨[.agg [.str,.int .i64,.int .i64,.int .i64,.str,.view 4],.agg [.str,.int .i64,.int .i64,.int .i64,.str,.view 4]],[]⟩
def qWS:List PRes:=[⟨false,.bool,[]⟩]
def qu9 (x0:List UInt8) (x1 x2 x3:Int) (x4:List UInt8) (x5:List AV) (x6:List UInt8) (x7 x8 x9:Int) (x10:List UInt8) (x11:List AV):DT qTR:=
 .bi (br (x0 == x6) (some (x1 == x7)) (some false)) (fun y0=>
 .bi (br y0 (br (sm (qfE x2 x3 x4 x5 x8 x9 x10 x11)) (some (gv (qfE x2 x3 x4 x5 x8 x9 x10 x11))) none) (some false)) (fun y1=>
 .at (y1))
 (.no))
 (.no)
def qwf (x0:List UInt8) (x1 x2 x3:Int) (x4:List UInt8) (x5:List AV) (x6:List UInt8) (x7 x8 x9:Int) (x10:List UInt8) (x11:List AV):Option qTR:=qay (qu9 x0 x1 x2 x3 x4 x5 x6 x7 x8 x9 x10 x11).ev
theorem qJw (x0 x1 x2 x3 x4 x5 x6 x7 x8 x9 x10 x11):qwf x0 x1 x2 x3 x4 x5 x6 x7 x8 x9 x10 x11 = (qu9 x0 x1 x2 x3 x4 x5 x6 x7 x8 x9 x10 x11).ev:=qaa _
theorem q2y:FH IP 46 qV6 qWS (k12 qwf):=fh F46 (k12 qu9) qUU
def T79:Tab:=(46,FE qV6 qWS (k12 qwf)) :: T78
theorem qIC:qai IP T79:=⟨qaj q2y,qUU⟩
end
end Go.Proofs.H15p

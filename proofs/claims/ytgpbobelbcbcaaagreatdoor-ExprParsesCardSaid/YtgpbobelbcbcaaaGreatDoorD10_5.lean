/- Functions over plain data. Printed by a program of mine. -/
import Derived.Test.YtgpbobelbcbcaaaGreatDoorD10_4
import Derived.KernelRfl
set_option linter.unusedVariables false
set_option linter.unusedSimpArgs false
set_option linter.unnecessarySimpa false
namespace Go.Proofs.H10
open Go Go.Eng
set_option maxRecDepth 100000
noncomputable section
abbrev qf0:Type:=List AV × Int × Int × Int × List AV × List AV
def qFo:List PSt:=[⟨[(1005300,.junk),(0,.view 3),(1,.int .i64),(2,.int .i64),(7,.own 0 0),(8,.own 1 0),(9,.int .i64)],[(0,.arr 1 false),(1,.arr 1 false)],2,0⟩]
def qMc (x0:List AV) (x1 x2 x3:Int) (x4 x5:List AV):X × St:=(.ret,⟨[(0,.view 3 x0),(1,.int .i64 x1),(2,.int .i64 x2),(6,.int .i64 (intOf (qfl x5 x3.toNat 0)))],[],0,0⟩)
def qMd (x0:List AV) (x1 x2 x3:Int) (x4 x5:List AV):X × St:=(.exit 0,⟨[(0,.view 3 x0),(1,.int .i64 x1),(2,.int .i64 x2),(6,.junk)],[],0,0⟩)
def qXy:List (qf0 -> X × St):=[(k6 qMc),(k6 qMd)]
def qho (x0:List AV) (x1 x2 x3:Int) (x4 x5:List AV):DT (Rd qf0):=
 .br (decide (x3 < (x4.length:Int)))
 (.br (inB x5.length x3)
 (.br (okP [.int .i64] x5 x3.toNat 0)
 (.bi (qeo (intOf (qfl x5 x3.toNat 0))) (fun y0=>
 .bi (br (y0 == x2)
 (br (inB x4.length x3)
 (br (okP [.str] x4 x3.toNat 0) (br (sm (qa3 x0 x1 4 (strOf (qfl x4 x3.toNat 0)))) (some (gv (qa3 x0 x1 4 (strOf (qfl x4 x3.toNat 0))))) none) none) none)
 (some false)) (fun y1=>
 .br (y1)
 (.br (inB x5.length x3)
 (.br (okP [.int .i64] x5 x3.toNat 0) (.at (.done 0)) (.no))
 (.no))
 (.at (.next ((x0,x1,x2,IntKind.i64.wrap (x3 + 1),x4,x5)))))
 (.no))
 (.no))
 (.no))
 (.no))
 (.at (.done 1))
def qxt:qf0 -> DT (Rd qf0):=(fun v=>qho v.1 v.2.1 v.2.2.1 v.2.2.2.1 v.2.2.2.2.1 v.2.2.2.2.2)
def qt4 (v:qf0):Option (Nat × qf0):=qa2 (qaw (fun v=>(qxt v).ev) v)
theorem qt5 (v):qt4 v = qaw (fun v=>(qxt v).ev) v:=qab _
def qF1:qdA:=LE (τ:=qf0) (hD qFo) (qt4) qXy
theorem qWS:Go.Eng.Told IP (qah F53 0).1 (qah F53 0).2 (qF1):=lp (inferInstance:Inhabited qf0) (hs:=qFo) qxt qDj qt5
abbrev qB5:Type:=Int
def qGX:PArgs:=⟨[.view 3,.int .i64,.int .i64],[]⟩
def qHS:List PRes:=[⟨false,.int .i64,[]⟩]
def qgx (x0:List AV) (x1 x2:Int):DT qB5:=
 .bi (pj 0
 (qt4
 (x0,x1,x2,0,[AV.str [43],AV.str [45],AV.str [42],AV.str [47],AV.str [61,61],AV.str [33,61],AV.str [60],AV.str [60,61]],
 [.int .i64 5,.int .i64 6,.int .i64 7,.int .i64 8,.int .i64 10,.int .i64 11,.int .i64 12,
 .int .i64 13]))) (fun y0=>
 .at (intOf (qfl y0.2.2.2.2.2 y0.2.2.2.1.toNat 0)))
 (.bi (pj 1
 (qt4
 (x0,x1,x2,0,[AV.str [43],AV.str [45],AV.str [42],AV.str [47],AV.str [61,61],AV.str [33,61],AV.str [60],AV.str [60,61]],
 [.int .i64 5,.int .i64 6,.int .i64 7,.int .i64 8,.int .i64 10,.int .i64 11,.int .i64 12,
 .int .i64 13]))) (fun y0=>
 .bi (qeo 14) (fun y1=>
 .bi (br (y0.2.2.1 == y1) (br (sm (qa3 y0.1 y0.2.1 5 [97,110,100])) (some (gv (qa3 y0.1 y0.2.1 5 [97,110,100]))) none) (some false)) (fun y2=>
 .br (y2)
 (.at (14))
 (.bi (qeo 15) (fun y3=>
 .bi (br (y0.2.2.1 == y3) (br (sm (qa3 y0.1 y0.2.1 5 [111,114])) (some (gv (qa3 y0.1 y0.2.1 5 [111,114]))) none) (some false)) (fun y4=>
 .br (y4) (.at (15)) (.at (0)))
 (.no))
 (.no)))
 (.no))
 (.no))
 (.no))
def qdl (x0:List AV) (x1 x2:Int):Option qB5:=qa2 (qgx x0 x1 x2).ev
theorem qhz (x0 x1 x2):qdl x0 x1 x2 = (qgx x0 x1 x2).ev:=qab _
theorem qRd:FH IP 53 qGX qHS (k3 qdl):=qak (F:=F53) (L:=[(1005300,qF1)]) (t:=(k3 qgx)) qDj (qae (l:=[qah F53 0]) (by kernel_rfl) ⟨qaH (by kernel_rfl) qWS,trivial⟩) (by kernel_rfl) (fun v=>by kernel_rfl) (fun _=>qab _)
def T78:Tab:=(53,FE qGX qHS (k3 qdl)) :: T77
theorem qNX:qao IP T78:=⟨qan qRd,qDj⟩
abbrev qee:Type:=Int × Int × List UInt8 × List AV × Int × Bool
def qnL:PArgs:=⟨[.view 3,.int .i64,.int .i64],[]⟩
def qn7:List PRes:=[⟨false,.tup [.agg [.int .i64,.int .i64,.str,.view 4],.int .i64,.bool],[]⟩]
abbrev qar:Type:=(List AV) -> Int -> Int -> Option qee
abbrev qCG:Type:=Int × Int × List UInt8 × List AV × Int × Bool
def quJ:PArgs:=⟨[.view 3,.int .i64],[]⟩
def quY:List PRes:=[⟨false,.tup [.agg [.int .i64,.int .i64,.str,.view 4],.int .i64,.bool],[]⟩]
abbrev qaB:Type:=(List AV) -> Int -> Option qCG
abbrev qvJ:Type:=Int × Int × List UInt8 × List AV × Int × Bool
def qnN:PArgs:=⟨[.view 3,.int .i64,.int .i64,.int .i64],[]⟩
def qn9:List PRes:=[⟨false,.tup [.agg [.int .i64,.int .i64,.str,.view 4],.int .i64,.bool],[]⟩]
abbrev qas:Type:=(List AV) -> Int -> Int -> Int -> Option qvJ
abbrev qvx:Type:=Int × Int × List UInt8 × List AV × Int × Bool
def qnz:PArgs:=⟨[.view 3,.int .i64],[]⟩
def qnV:List PRes:=[⟨false,.tup [.agg [.int .i64,.int .i64,.str,.view 4],.int .i64,.bool],[]⟩]
abbrev qap:Type:=(List AV) -> Int -> Option qvx
abbrev qvA:Type:=Int × Int × List UInt8 × List AV × Int × Bool
def qnC:PArgs:=⟨[.view 3,.int .i64,.int .i64],[]⟩
def qnY:List PRes:=[⟨false,.tup [.agg [.int .i64,.int .i64,.str,.view 4],.int .i64,.bool],[]⟩]
abbrev qaq:Type:=(List AV) -> Int -> Int -> Option qvA
def qiJ (G_u153q:qar) (G_u67q:qaB) (G_u156q:qas) (G_u109q:qap) (G_u132q:qaq):Prop:=FH IP 30 qnL qn7 (k3 G_u153q) /\ FH IP 50 quJ quY (k2 G_u67q) /\ FH IP 51 qnN qn9 (k4 G_u156q) /\ FH IP 52 qnz qnV (k2 G_u109q) /\ FH IP 82 qnC qnY (k3 G_u132q)
def qJ2 (G_u153q:qar) (G_u67q:qaB) (G_u156q:qas) (G_u109q:qap) (G_u132q:qaq):Tab:=(30,FE qnL qn7 (k3 G_u153q)) :: (50,FE quJ quY (k2 G_u67q)) :: (51,FE qnN qn9 (k4 G_u156q)) :: (52,FE qnz qnV (k2 G_u109q)) :: (82,FE qnC qnY (k3 G_u132q)) :: T78
theorem qca (G_u153q:qar) (G_u67q:qaB) (G_u156q:qas) (G_u109q:qap) (G_u132q:qaq) (hG:qiJ G_u153q G_u67q G_u156q G_u109q G_u132q):qao IP (qJ2 G_u153q G_u67q G_u156q G_u109q G_u132q):=⟨qan (hG.1),qan (hG.2.1),qan (hG.2.2.1),qan (hG.2.2.2.1),qan (hG.2.2.2.2),qNX⟩
abbrev qe5:Type:=(List AV × Int × Int × Int × Int × List UInt8 × List AV × Int × Int × List UInt8) ⊕ (List AV × Int × Int × Int × Int × List UInt8 × List AV × Int × Int × List UInt8 × List AV)
def qFa:List PSt:=[⟨[(1005000,.junk),(0,.view 3),(1,.int .i64),(4,.ref 0 0 0),(7,.own 1 0),(8,.ref 2 0 0),(9,.int .i64)],[(0,.box [.int .i64,.int .i64,.str,.nils 4] false),(1,.arr 1 false),(2,.box [.int .i64,.int .i64,.str,.nils 4] false)],3,0⟩,⟨[(1005000,.junk),(0,.view 3),(1,.int .i64),(4,.ref 0 0 0),(7,.own 1 0),(8,.ref 2 0 0),(9,.int .i64)],[(0,.box [.int .i64,.int .i64,.str,.nils 4] false),(1,.arr 1 false),(2,.box [.int .i64,.int .i64,.str,.own 3 0] false),(3,.arr 4 false)],4,0⟩]
def qLN (G_u153q:qar) (G_u67q:qaB) (G_u156q:qas) (G_u109q:qap) (G_u132q:qaq) (x0:List AV) (x1 x2:Int) (x3 x4:Int) (x5:List UInt8) (x6:List AV) (x7 x8:Int) (x9:List UInt8):X × St:=(.ret,
 ⟨[(1,.int .i64 x1),(4,.ref 0 0 0),(5,.int .i64 x1),(6,.bool false),(8,.ref 1 0 0)],[(0,.box [.int .i64 0,.int .i64 0,.str [],.nils ⟨4,.nil⟩] false),
 (1,.box [.int .i64 x7,.int .i64 x8,.str x9,.nils ⟨4,.nil⟩] false)],2,0⟩)
def qLO (G_u153q:qar) (G_u67q:qaB) (G_u156q:qas) (G_u109q:qap) (G_u132q:qaq) (x0:List AV) (x1 x2:Int) (x3 x4:Int) (x5:List UInt8) (x6:List AV) (x7 x8:Int) (x9:List UInt8):X × St:=(.ret,
 ⟨[(1,.int .i64 x1),(4,.ref 0 0 0),(5,.int .i64 (gv (G_u153q x0 (IntKind.i64.wrap (x1 + 1)) 0)).2.2.2.2.1),(6,.bool false),
 (8,.ref 1 0 0)],[(0,.box [.int .i64 0,.int .i64 0,.str [],.nils ⟨4,.nil⟩] false),
 (1,.box [.int .i64 x7,.int .i64 x8,.str x9,.nils ⟨4,.nil⟩] false)],2,0⟩)
def qLP (G_u153q:qar) (G_u67q:qaB) (G_u156q:qas) (G_u109q:qap) (G_u132q:qaq) (x0:List AV) (x1 x2:Int) (x3 x4:Int) (x5:List UInt8) (x6:List AV) (x7 x8:Int) (x9:List UInt8):X × St:=(.exit 0,
 ⟨[(1,.int .i64 x1),(4,.ref 0 0 0),(5,.junk),(6,.junk),(8,.ref 1 0 0)],[(0,.box [.int .i64 x3,.int .i64 x4,.str x5,.nils ⟨4,.nil⟩] false),
 (1,.box [.int .i64 x7,.int .i64 x8,.str x9,.nils ⟨4,.nil⟩] false)],2,0⟩)
def qLQ (G_u153q:qar) (G_u67q:qaB) (G_u156q:qas) (G_u109q:qap) (G_u132q:qaq) (x0:List AV) (x1 x2:Int) (x3 x4:Int) (x5:List UInt8) (x6:List AV) (x7 x8:Int) (x9:List UInt8) (x10:List AV):X × St:=(.ret,
 ⟨[(1,.int .i64 x1),(4,.ref 0 0 0),(5,.int .i64 x1),(6,.bool false),(8,.ref 1 0 0)],[(0,.box [.int .i64 0,.int .i64 0,.str [],.nils ⟨4,.nil⟩] false),
 (1,.box [.int .i64 x7,.int .i64 x8,.str x9,.own 2 0 none] false),(2,.arr 4 x10 false)],3,0⟩)
def qLR (G_u153q:qar) (G_u67q:qaB) (G_u156q:qas) (G_u109q:qap) (G_u132q:qaq) (x0:List AV) (x1 x2:Int) (x3 x4:Int) (x5:List UInt8) (x6:List AV) (x7 x8:Int) (x9:List UInt8) (x10:List AV):X × St:=(.ret,
 ⟨[(1,.int .i64 x1),(4,.ref 0 0 0),(5,.int .i64 (gv (G_u153q x0 (IntKind.i64.wrap (x1 + 1)) 0)).2.2.2.2.1),(6,.bool false),
 (8,.ref 1 0 0)],[(0,.box [.int .i64 0,.int .i64 0,.str [],.nils ⟨4,.nil⟩] false),
 (1,.box [.int .i64 x7,.int .i64 x8,.str x9,.own 2 0 none] false),(2,.arr 4 x10 false)],3,0⟩)
def qLS (G_u153q:qar) (G_u67q:qaB) (G_u156q:qas) (G_u109q:qap) (G_u132q:qaq) (x0:List AV) (x1 x2:Int) (x3 x4:Int) (x5:List UInt8) (x6:List AV) (x7 x8:Int) (x9:List UInt8) (x10:List AV):X × St:=(.exit 0,
 ⟨[(1,.int .i64 x1),(4,.ref 0 0 0),(5,.junk),(6,.junk),(8,.ref 1 0 0)],[(0,.box [.int .i64 x3,.int .i64 x4,.str x5,.nils ⟨4,.nil⟩] false),
 (1,.box [.int .i64 x7,.int .i64 x8,.str x9,.own 2 0 none] false),(2,.arr 4 x10 false)],3,0⟩)
def qXk (G_u153q:qar) (G_u67q:qaB) (G_u156q:qas) (G_u109q:qap) (G_u132q:qaq):List (qe5 -> X × St):=[fun w=>(k10 (qLN G_u153q G_u67q G_u156q G_u109q G_u132q)) ((sl w)),fun w=>(k10 (qLO G_u153q G_u67q G_u156q G_u109q G_u132q)) ((sl w)),fun w=>(k10 (qLP G_u153q G_u67q G_u156q G_u109q G_u132q)) ((sl w)),fun w=>(k11 (qLQ G_u153q G_u67q G_u156q G_u109q G_u132q)) ((sr w)),fun w=>(k11 (qLR G_u153q G_u67q G_u156q G_u109q G_u132q)) ((sr w)),fun w=>(k11 (qLS G_u153q G_u67q G_u156q G_u109q G_u132q)) ((sr w))]
def qIK (G_u153q:qar) (G_u67q:qaB) (G_u156q:qas) (G_u109q:qap) (G_u132q:qaq) (x0:List AV) (x1 x2:Int) (x3 x4:Int) (x5:List UInt8) (x6:List AV) (x7 x8:Int) (x9:List UInt8):DT (Rd qe5):=
 .br (decide (x2 < (x6.length:Int)))
 (.br (inB x6.length x2)
 (.br (okP [.str] x6 x2.toNat 0)
 (.bi (qa3 x0 x1 5 (strOf (qfl x6 x2.toNat 0))) (fun y0=>
 .br (!y0)
 (.at (.done 0))
 (.bi (G_u153q x0 (IntKind.i64.wrap (x1 + 1)) 0) (fun y1=>
 .br (!y1.2.2.2.2.2)
 (.at (.done 1))
 (.at (.next ((.inr (x0,y1.2.2.2.2.1,IntKind.i64.wrap (x2 + 1),x3,x4,x5,x6,x7,x8,x9,[AV.agg [.int .i64 y1.1,.int .i64 y1.2.1,AV.str y1.2.2.1,AV.view 4 y1.2.2.2.1]]))))))
 (.no)))
 (.no))
 (.no))
 (.no))
 (.at (.done 2))
def qIL (G_u153q:qar) (G_u67q:qaB) (G_u156q:qas) (G_u109q:qap) (G_u132q:qaq) (x0:List AV) (x1 x2:Int) (x3 x4:Int) (x5:List UInt8) (x6:List AV) (x7 x8:Int) (x9:List UInt8) (x10:List AV):DT (Rd qe5):=
 .br (decide (x2 < (x6.length:Int)))
 (.br (inB x6.length x2)
 (.br (okP [.str] x6 x2.toNat 0)
 (.bi (qa3 x0 x1 5 (strOf (qfl x6 x2.toNat 0))) (fun y0=>
 .br (!y0)
 (.at (.done 3))
 (.bi (G_u153q x0 (IntKind.i64.wrap (x1 + 1)) 0) (fun y1=>
 .br (!y1.2.2.2.2.2)
 (.at (.done 4))
 (.br (room (x10.length + 1) 56)
 (.at (.next ((.inr (x0,y1.2.2.2.2.1,IntKind.i64.wrap (x2 + 1),x3,x4,x5,x6,x7,x8,x9,x10 ++ [AV.agg [.int .i64 y1.1,.int .i64 y1.2.1,AV.str y1.2.2.1,AV.view 4 y1.2.2.2.1]])))))
 (.no)))
 (.no)))
 (.no))
 (.no))
 (.no))
 (.at (.done 5))
def qxr (G_u153q:qar) (G_u67q:qaB) (G_u156q:qas) (G_u109q:qap) (G_u132q:qaq):qe5 -> DT (Rd qe5):=(Sum.elim (fun v=>qIK G_u153q G_u67q G_u156q G_u109q G_u132q v.1 v.2.1 v.2.2.1 v.2.2.2.1 v.2.2.2.2.1 v.2.2.2.2.2.1 v.2.2.2.2.2.2.1 v.2.2.2.2.2.2.2.1 v.2.2.2.2.2.2.2.2.1 v.2.2.2.2.2.2.2.2.2) (fun v=>qIL G_u153q G_u67q G_u156q G_u109q G_u132q v.1 v.2.1 v.2.2.1 v.2.2.2.1 v.2.2.2.2.1 v.2.2.2.2.2.1 v.2.2.2.2.2.2.1 v.2.2.2.2.2.2.2.1 v.2.2.2.2.2.2.2.2.1 v.2.2.2.2.2.2.2.2.2.1 v.2.2.2.2.2.2.2.2.2.2))
def qcK (G_u153q:qar) (G_u67q:qaB) (G_u156q:qas) (G_u109q:qap) (G_u132q:qaq) (v:qe5):Option (Nat × qe5):=qa2 (qaw (fun v=>(qxr G_u153q G_u67q G_u156q G_u109q G_u132q v).ev) v)
theorem qbU (G_u153q G_u67q G_u156q G_u109q G_u132q v):qcK G_u153q G_u67q G_u156q G_u109q G_u132q v = qaw (fun v=>(qxr G_u153q G_u67q G_u156q G_u109q G_u132q v).ev) v:=qab _
def qFN (G_u153q:qar) (G_u67q:qaB) (G_u156q:qas) (G_u109q:qap) (G_u132q:qaq):qdA:=LE (τ:=qe5) (hD qFa) (qcK G_u153q G_u67q G_u156q G_u109q G_u132q) (qXk G_u153q G_u67q G_u156q G_u109q G_u132q)
theorem qWE (G_u153q:qar) (G_u67q:qaB) (G_u156q:qas) (G_u109q:qap) (G_u132q:qaq) (hG:qiJ G_u153q G_u67q G_u156q G_u109q G_u132q):Go.Eng.Told IP (qah F50 0).1 (qah F50 0).2 (qFN G_u153q G_u67q G_u156q G_u109q G_u132q):=qaF (inferInstance:Inhabited qe5) (hs:=qFa) (st:=qxr G_u153q G_u67q G_u156q G_u109q G_u132q) (L:=[]) (qca G_u153q G_u67q G_u156q G_u109q G_u132q hG) (qae (l:=[]) (by kernel_rfl) trivial) (qbU G_u153q G_u67q G_u156q G_u109q G_u132q) (fun v=>match v with | (.inl v)=>by kernel_rfl | (.inr v)=>by kernel_rfl) (fun v=>match v with | (.inl v)=>by kernel_rfl | (.inr v)=>by kernel_rfl)
abbrev qe7:Type:=(List AV × Int × Int × Int × Int × List UInt8 × List AV × Int × Int × List UInt8) ⊕ (List AV × Int × Int × Int × Int × List UInt8 × List AV × Int × Int × List UInt8 × List AV)
def qFp:List PSt:=[⟨[(1008200,.junk),(0,.view 3),(1,.int .i64),(6,.ref 0 0 0),(9,.own 1 0),(10,.ref 2 0 0),(11,.int .i64)],[(0,.box [.int .i64,.int .i64,.str,.nils 4] false),(1,.arr 1 false),(2,.box [.int .i64,.int .i64,.str,.nils 4] false)],3,0⟩,⟨[(1008200,.junk),(0,.view 3),(1,.int .i64),(6,.ref 0 0 0),(9,.own 1 0),(10,.ref 2 0 0),(11,.int .i64)],[(0,.box [.int .i64,.int .i64,.str,.nils 4] false),(1,.arr 1 false),(2,.box [.int .i64,.int .i64,.str,.own 3 0] false),(3,.arr 4 false)],4,0⟩]
def qMe (G_u153q:qar) (G_u67q:qaB) (G_u156q:qas) (G_u109q:qap) (G_u132q:qaq) (x0:List AV) (x1 x2:Int) (x3 x4:Int) (x5:List UInt8) (x6:List AV) (x7 x8:Int) (x9:List UInt8):X × St:=(.ret,
 ⟨[(1,.int .i64 x1),(6,.ref 0 0 0),(7,.int .i64 x1),(8,.bool false),(10,.ref 1 0 0)],[(0,.box [.int .i64 0,.int .i64 0,.str [],.nils ⟨4,.nil⟩] false),
 (1,.box [.int .i64 x7,.int .i64 x8,.str x9,.nils ⟨4,.nil⟩] false)],2,0⟩)
def qMf (G_u153q:qar) (G_u67q:qaB) (G_u156q:qas) (G_u109q:qap) (G_u132q:qaq) (x0:List AV) (x1 x2:Int) (x3 x4:Int) (x5:List UInt8) (x6:List AV) (x7 x8:Int) (x9:List UInt8):X × St:=(.exit 0,
 ⟨[(1,.int .i64 (IntKind.i64.wrap (x1 + 1))),(6,.ref 0 0 0),(7,.junk),(8,.junk),(10,.ref 1 0 0)],[(0,.box [.int .i64 x3,.int .i64 x4,.str x5,.nils ⟨4,.nil⟩] false),
 (1,.box [.int .i64 x7,.int .i64 x8,.str x9,.nils ⟨4,.nil⟩] false)],2,0⟩)
def qMg (G_u153q:qar) (G_u67q:qaB) (G_u156q:qas) (G_u109q:qap) (G_u132q:qaq) (x0:List AV) (x1 x2:Int) (x3 x4:Int) (x5:List UInt8) (x6:List AV) (x7 x8:Int) (x9:List UInt8):X × St:=(.ret,
 ⟨[(1,.int .i64 (IntKind.i64.wrap (x1 + 1))),(6,.ref 0 0 0),(7,.int .i64 (gv (G_u153q x0 (IntKind.i64.wrap (x1 + 1)) 0)).2.2.2.2.1),
 (8,.bool false),(10,.ref 1 0 0)],[(0,.box [.int .i64 0,.int .i64 0,.str [],.nils ⟨4,.nil⟩] false),
 (1,.box [.int .i64 x7,.int .i64 x8,.str x9,.nils ⟨4,.nil⟩] false)],2,0⟩)
def qMh (G_u153q:qar) (G_u67q:qaB) (G_u156q:qas) (G_u109q:qap) (G_u132q:qaq) (x0:List AV) (x1 x2:Int) (x3 x4:Int) (x5:List UInt8) (x6:List AV) (x7 x8:Int) (x9:List UInt8):X × St:=(.exit 0,
 ⟨[(1,.int .i64 x1),(6,.ref 0 0 0),(7,.junk),(8,.junk),(10,.ref 1 0 0)],[(0,.box [.int .i64 x3,.int .i64 x4,.str x5,.nils ⟨4,.nil⟩] false),
 (1,.box [.int .i64 x7,.int .i64 x8,.str x9,.nils ⟨4,.nil⟩] false)],2,0⟩)
def qMi (G_u153q:qar) (G_u67q:qaB) (G_u156q:qas) (G_u109q:qap) (G_u132q:qaq) (x0:List AV) (x1 x2:Int) (x3 x4:Int) (x5:List UInt8) (x6:List AV) (x7 x8:Int) (x9:List UInt8) (x10:List AV):X × St:=(.ret,
 ⟨[(1,.int .i64 x1),(6,.ref 0 0 0),(7,.int .i64 x1),(8,.bool false),(10,.ref 1 0 0)],[(0,.box [.int .i64 0,.int .i64 0,.str [],.nils ⟨4,.nil⟩] false),
 (1,.box [.int .i64 x7,.int .i64 x8,.str x9,.own 2 0 none] false),(2,.arr 4 x10 false)],3,0⟩)
def qMj (G_u153q:qar) (G_u67q:qaB) (G_u156q:qas) (G_u109q:qap) (G_u132q:qaq) (x0:List AV) (x1 x2:Int) (x3 x4:Int) (x5:List UInt8) (x6:List AV) (x7 x8:Int) (x9:List UInt8) (x10:List AV):X × St:=(.exit 0,
 ⟨[(1,.int .i64 (IntKind.i64.wrap (x1 + 1))),(6,.ref 0 0 0),(7,.junk),(8,.junk),(10,.ref 1 0 0)],[(0,.box [.int .i64 x3,.int .i64 x4,.str x5,.nils ⟨4,.nil⟩] false),
 (1,.box [.int .i64 x7,.int .i64 x8,.str x9,.own 2 0 none] false),(2,.arr 4 x10 false)],3,0⟩)
def qMk (G_u153q:qar) (G_u67q:qaB) (G_u156q:qas) (G_u109q:qap) (G_u132q:qaq) (x0:List AV) (x1 x2:Int) (x3 x4:Int) (x5:List UInt8) (x6:List AV) (x7 x8:Int) (x9:List UInt8) (x10:List AV):X × St:=(.ret,
 ⟨[(1,.int .i64 (IntKind.i64.wrap (x1 + 1))),(6,.ref 0 0 0),(7,.int .i64 (gv (G_u153q x0 (IntKind.i64.wrap (x1 + 1)) 0)).2.2.2.2.1),
 (8,.bool false),(10,.ref 1 0 0)],[(0,.box [.int .i64 0,.int .i64 0,.str [],.nils ⟨4,.nil⟩] false),
 (1,.box [.int .i64 x7,.int .i64 x8,.str x9,.own 2 0 none] false),(2,.arr 4 x10 false)],3,0⟩)
def qMl (G_u153q:qar) (G_u67q:qaB) (G_u156q:qas) (G_u109q:qap) (G_u132q:qaq) (x0:List AV) (x1 x2:Int) (x3 x4:Int) (x5:List UInt8) (x6:List AV) (x7 x8:Int) (x9:List UInt8) (x10:List AV):X × St:=(.exit 0,
 ⟨[(1,.int .i64 x1),(6,.ref 0 0 0),(7,.junk),(8,.junk),(10,.ref 1 0 0)],[(0,.box [.int .i64 x3,.int .i64 x4,.str x5,.nils ⟨4,.nil⟩] false),
 (1,.box [.int .i64 x7,.int .i64 x8,.str x9,.own 2 0 none] false),(2,.arr 4 x10 false)],3,0⟩)
def qXz (G_u153q:qar) (G_u67q:qaB) (G_u156q:qas) (G_u109q:qap) (G_u132q:qaq):List (qe7 -> X × St):=[fun w=>(k10 (qMe G_u153q G_u67q G_u156q G_u109q G_u132q)) ((sl w)),fun w=>(k10 (qMf G_u153q G_u67q G_u156q G_u109q G_u132q)) ((sl w)),fun w=>(k10 (qMg G_u153q G_u67q G_u156q G_u109q G_u132q)) ((sl w)),fun w=>(k10 (qMh G_u153q G_u67q G_u156q G_u109q G_u132q)) ((sl w)),fun w=>(k11 (qMi G_u153q G_u67q G_u156q G_u109q G_u132q)) ((sr w)),fun w=>(k11 (qMj G_u153q G_u67q G_u156q G_u109q G_u132q)) ((sr w)),fun w=>(k11 (qMk G_u153q G_u67q G_u156q G_u109q G_u132q)) ((sr w)),fun w=>(k11 (qMl G_u153q G_u67q G_u156q G_u109q G_u132q)) ((sr w))]
def qIO (G_u153q:qar) (G_u67q:qaB) (G_u156q:qas) (G_u109q:qap) (G_u132q:qaq) (x0:List AV) (x1 x2:Int) (x3 x4:Int) (x5:List UInt8) (x6:List AV) (x7 x8:Int) (x9:List UInt8):DT (Rd qe7):=
 .br (decide (x2 < (x6.length:Int)))
 (.br (inB x6.length x2)
 (.br (okP [.str] x6 x2.toNat 0)
 (.bi (qa3 x0 x1 4 (strOf (qfl x6 x2.toNat 0))) (fun y0=>
 .br (!y0)
 (.at (.done 0))
 (.br (x2 == 2)
 (.at (.done 1))
 (.bi (G_u153q x0 (IntKind.i64.wrap (x1 + 1)) 0) (fun y1=>
 .br (!y1.2.2.2.2.2)
 (.at (.done 2))
 (.at (.next ((.inr (x0,y1.2.2.2.2.1,IntKind.i64.wrap (x2 + 1),x3,x4,x5,x6,x7,x8,x9,[AV.agg [.int .i64 y1.1,.int .i64 y1.2.1,AV.str y1.2.2.1,AV.view 4 y1.2.2.2.1]]))))))
 (.no))))
 (.no))
 (.no))
 (.no))
 (.at (.done 3))
def qIP (G_u153q:qar) (G_u67q:qaB) (G_u156q:qas) (G_u109q:qap) (G_u132q:qaq) (x0:List AV) (x1 x2:Int) (x3 x4:Int) (x5:List UInt8) (x6:List AV) (x7 x8:Int) (x9:List UInt8) (x10:List AV):DT (Rd qe7):=
 .br (decide (x2 < (x6.length:Int)))
 (.br (inB x6.length x2)
 (.br (okP [.str] x6 x2.toNat 0)
 (.bi (qa3 x0 x1 4 (strOf (qfl x6 x2.toNat 0))) (fun y0=>
 .br (!y0)
 (.at (.done 4))
 (.br (x2 == 2)
 (.at (.done 5))
 (.bi (G_u153q x0 (IntKind.i64.wrap (x1 + 1)) 0) (fun y1=>
 .br (!y1.2.2.2.2.2)
 (.at (.done 6))
 (.br (room (x10.length + 1) 56)
 (.at (.next ((.inr (x0,y1.2.2.2.2.1,IntKind.i64.wrap (x2 + 1),x3,x4,x5,x6,x7,x8,x9,x10 ++ [AV.agg [.int .i64 y1.1,.int .i64 y1.2.1,AV.str y1.2.2.1,AV.view 4 y1.2.2.2.1]])))))
 (.no)))
 (.no))))
 (.no))
 (.no))
 (.no))
 (.at (.done 7))
def qxu (G_u153q:qar) (G_u67q:qaB) (G_u156q:qas) (G_u109q:qap) (G_u132q:qaq):qe7 -> DT (Rd qe7):=(Sum.elim (fun v=>qIO G_u153q G_u67q G_u156q G_u109q G_u132q v.1 v.2.1 v.2.2.1 v.2.2.2.1 v.2.2.2.2.1 v.2.2.2.2.2.1 v.2.2.2.2.2.2.1 v.2.2.2.2.2.2.2.1 v.2.2.2.2.2.2.2.2.1 v.2.2.2.2.2.2.2.2.2) (fun v=>qIP G_u153q G_u67q G_u156q G_u109q G_u132q v.1 v.2.1 v.2.2.1 v.2.2.2.1 v.2.2.2.2.1 v.2.2.2.2.2.1 v.2.2.2.2.2.2.1 v.2.2.2.2.2.2.2.1 v.2.2.2.2.2.2.2.2.1 v.2.2.2.2.2.2.2.2.2.1 v.2.2.2.2.2.2.2.2.2.2))
def qcL (G_u153q:qar) (G_u67q:qaB) (G_u156q:qas) (G_u109q:qap) (G_u132q:qaq) (v:qe7):Option (Nat × qe7):=qa2 (qaw (fun v=>(qxu G_u153q G_u67q G_u156q G_u109q G_u132q v).ev) v)
theorem qcf (G_u153q G_u67q G_u156q G_u109q G_u132q v):qcL G_u153q G_u67q G_u156q G_u109q G_u132q v = qaw (fun v=>(qxu G_u153q G_u67q G_u156q G_u109q G_u132q v).ev) v:=qab _
def qF2 (G_u153q:qar) (G_u67q:qaB) (G_u156q:qas) (G_u109q:qap) (G_u132q:qaq):qdA:=LE (τ:=qe7) (hD qFp) (qcL G_u153q G_u67q G_u156q G_u109q G_u132q) (qXz G_u153q G_u67q G_u156q G_u109q G_u132q)
theorem qWT (G_u153q:qar) (G_u67q:qaB) (G_u156q:qas) (G_u109q:qap) (G_u132q:qaq) (hG:qiJ G_u153q G_u67q G_u156q G_u109q G_u132q):Go.Eng.Told IP (qah F82 0).1 (qah F82 0).2 (qF2 G_u153q G_u67q G_u156q G_u109q G_u132q):=qaF (inferInstance:Inhabited qe7) (hs:=qFp) (st:=qxu G_u153q G_u67q G_u156q G_u109q G_u132q) (L:=[]) (qca G_u153q G_u67q G_u156q G_u109q G_u132q hG) (qae (l:=[]) (by kernel_rfl) trivial) (qcf G_u153q G_u67q G_u156q G_u109q G_u132q) (fun v=>match v with | (.inl v)=>by kernel_rfl | (.inr v)=>by kernel_rfl) (fun v=>match v with | (.inl v)=>by kernel_rfl | (.inr v)=>by kernel_rfl)
abbrev qc0:Type:=(List AV × Int × Int × Bool × Int × Int × List UInt8 × Int × Int × List UInt8 × List AV) ⊕ (List AV × Int × Int × Bool × Int × Int × List UInt8 × Int × Int × List UInt8 × List AV)
def qyk:List PSt:=[⟨[(1003000,.junk),(0,.view 3),(2,.int .i64),(6,.ref 0 0 0),(9,.ref 1 0 0),(10,.int .i64),(11,.bool)],[(0,.box [.int .i64,.int .i64,.str,.nils 4] false),(1,.box [.int .i64,.int .i64,.str,.view 4] false)],2,0⟩,⟨[(1003000,.junk),(0,.view 3),(2,.int .i64),(6,.ref 0 0 0),(9,.ref 1 0 0),(10,.int .i64),(11,.bool)],[(0,.box [.int .i64,.int .i64,.str,.nils 4] false),(1,.box [.int .i64,.int .i64,.str,.own 2 0] false),(2,.arr 4 false)],3,0⟩]
def qJo (G_u153q:qar) (G_u67q:qaB) (G_u156q:qas) (G_u109q:qap) (G_u132q:qaq) (x0:List AV) (x1 x2:Int) (x3:Bool) (x4 x5:Int) (x6:List UInt8) (x7 x8:Int) (x9:List UInt8) (x10:List AV):X × St:=(.exit 1,
 ⟨[(6,.ref 0 0 0),(7,.junk),(8,.junk),(9,.ref 1 0 0),(10,.int .i64 x2),(11,.bool x3)],[(0,.box [.int .i64 x4,.int .i64 x5,.str x6,.nils ⟨4,.nil⟩] false),
 (1,.box [.int .i64 x7,.int .i64 x8,.str x9,.view 4 x10] false)],2,0⟩)
def qJp (G_u153q:qar) (G_u67q:qaB) (G_u156q:qas) (G_u109q:qap) (G_u132q:qaq) (x0:List AV) (x1 x2:Int) (x3:Bool) (x4 x5:Int) (x6:List UInt8) (x7 x8:Int) (x9:List UInt8) (x10:List AV):X × St:=(.ret,
 ⟨[(6,.ref 0 0 0),(7,.int .i64 (gv (G_u153q x0 (IntKind.i64.wrap (x2 + 1)) (IntKind.i64.wrap (x1 + 1)))).2.2.2.2.1),(8,.bool false),
 (9,.ref 1 0 0),(10,.int .i64 x2),(11,.bool x3)],[(0,
 .box
 [.int .i64 (gv (G_u153q x0 (IntKind.i64.wrap (x2 + 1)) (IntKind.i64.wrap (x1 + 1)))).1,
 .int .i64 (gv (G_u153q x0 (IntKind.i64.wrap (x2 + 1)) (IntKind.i64.wrap (x1 + 1)))).2.1,
 .str (gv (G_u153q x0 (IntKind.i64.wrap (x2 + 1)) (IntKind.i64.wrap (x1 + 1)))).2.2.1,
 .view 4 (gv (G_u153q x0 (IntKind.i64.wrap (x2 + 1)) (IntKind.i64.wrap (x1 + 1)))).2.2.2.1]
 false),
 (1,.box [.int .i64 x7,.int .i64 x8,.str x9,.view 4 x10] false)],2,0⟩)
def qJq (G_u153q:qar) (G_u67q:qaB) (G_u156q:qas) (G_u109q:qap) (G_u132q:qaq) (x0:List AV) (x1 x2:Int) (x3:Bool) (x4 x5:Int) (x6:List UInt8) (x7 x8:Int) (x9:List UInt8) (x10:List AV):X × St:=(.exit 1,
 ⟨[(6,.ref 0 0 0),(7,.junk),(8,.junk),(9,.ref 1 0 0),
 (10,.int .i64 (gv (G_u153q x0 (IntKind.i64.wrap (x2 + 1)) (IntKind.i64.wrap (x1 + 1)))).2.2.2.2.1),(11,.bool x3)],[(0,.box [.int .i64 x4,.int .i64 x5,.str x6,.nils ⟨4,.nil⟩] false),
 (1,.box [.int .i64 (gv (qdl x0 x2 x1)),.int .i64 0,.str [],.own 2 0 none] false),
 (2,
 .arr 4
 [.agg [.int .i64 x7,.int .i64 x8,.str x9,.view 4 x10],
 .agg
 [.int .i64 (gv (G_u153q x0 (IntKind.i64.wrap (x2 + 1)) (IntKind.i64.wrap (x1 + 1)))).1,
 .int .i64 (gv (G_u153q x0 (IntKind.i64.wrap (x2 + 1)) (IntKind.i64.wrap (x1 + 1)))).2.1,
 .str (gv (G_u153q x0 (IntKind.i64.wrap (x2 + 1)) (IntKind.i64.wrap (x1 + 1)))).2.2.1,
 .view 4 (gv (G_u153q x0 (IntKind.i64.wrap (x2 + 1)) (IntKind.i64.wrap (x1 + 1)))).2.2.2.1]]
 false)],3,0⟩)
def qJr (G_u153q:qar) (G_u67q:qaB) (G_u156q:qas) (G_u109q:qap) (G_u132q:qaq) (x0:List AV) (x1 x2:Int) (x3:Bool) (x4 x5:Int) (x6:List UInt8) (x7 x8:Int) (x9:List UInt8) (x10:List AV):X × St:=(.exit 1,
 ⟨[(6,.ref 0 0 0),(7,.junk),(8,.junk),(9,.ref 1 0 0),(10,.int .i64 x2),(11,.bool x3)],[(0,.box [.int .i64 x4,.int .i64 x5,.str x6,.nils ⟨4,.nil⟩] false),
 (1,.box [.int .i64 x7,.int .i64 x8,.str x9,.own 2 0 none] false),(2,.arr 4 x10 false)],3,0⟩)
def qJs (G_u153q:qar) (G_u67q:qaB) (G_u156q:qas) (G_u109q:qap) (G_u132q:qaq) (x0:List AV) (x1 x2:Int) (x3:Bool) (x4 x5:Int) (x6:List UInt8) (x7 x8:Int) (x9:List UInt8) (x10:List AV):X × St:=(.ret,
 ⟨[(6,.ref 0 0 0),(7,.int .i64 (gv (G_u153q x0 (IntKind.i64.wrap (x2 + 1)) (IntKind.i64.wrap (x1 + 1)))).2.2.2.2.1),(8,.bool false),
 (9,.ref 1 0 0),(10,.int .i64 x2),(11,.bool x3)],[(0,
 .box
 [.int .i64 (gv (G_u153q x0 (IntKind.i64.wrap (x2 + 1)) (IntKind.i64.wrap (x1 + 1)))).1,
 .int .i64 (gv (G_u153q x0 (IntKind.i64.wrap (x2 + 1)) (IntKind.i64.wrap (x1 + 1)))).2.1,
 .str (gv (G_u153q x0 (IntKind.i64.wrap (x2 + 1)) (IntKind.i64.wrap (x1 + 1)))).2.2.1,
 .view 4 (gv (G_u153q x0 (IntKind.i64.wrap (x2 + 1)) (IntKind.i64.wrap (x1 + 1)))).2.2.2.1]
 false),
 (1,.box [.int .i64 x7,.int .i64 x8,.str x9,.own 2 0 none] false),(2,.arr 4 x10 false)],3,0⟩)
def qJt (G_u153q:qar) (G_u67q:qaB) (G_u156q:qas) (G_u109q:qap) (G_u132q:qaq) (x0:List AV) (x1 x2:Int) (x3:Bool) (x4 x5:Int) (x6:List UInt8) (x7 x8:Int) (x9:List UInt8) (x10:List AV):X × St:=(.exit 1,
 ⟨[(6,.ref 0 0 0),(7,.junk),(8,.junk),(9,.ref 1 0 0),
 (10,.int .i64 (gv (G_u153q x0 (IntKind.i64.wrap (x2 + 1)) (IntKind.i64.wrap (x1 + 1)))).2.2.2.2.1),(11,.bool x3)],[(0,.box [.int .i64 x4,.int .i64 x5,.str x6,.nils ⟨4,.nil⟩] false),
 (1,.box [.int .i64 (gv (qdl x0 x2 x1)),.int .i64 0,.str [],.own 2 0 none] false),
 (2,
 .arr 4
 [.agg [.int .i64 x7,.int .i64 x8,.str x9,.view 4 x10],
 .agg
 [.int .i64 (gv (G_u153q x0 (IntKind.i64.wrap (x2 + 1)) (IntKind.i64.wrap (x1 + 1)))).1,
 .int .i64 (gv (G_u153q x0 (IntKind.i64.wrap (x2 + 1)) (IntKind.i64.wrap (x1 + 1)))).2.1,
 .str (gv (G_u153q x0 (IntKind.i64.wrap (x2 + 1)) (IntKind.i64.wrap (x1 + 1)))).2.2.1,
 .view 4 (gv (G_u153q x0 (IntKind.i64.wrap (x2 + 1)) (IntKind.i64.wrap (x1 + 1)))).2.2.2.1]]
 false)],3,0⟩)
def qTa (G_u153q:qar) (G_u67q:qaB) (G_u156q:qas) (G_u109q:qap) (G_u132q:qaq):List (qc0 -> X × St):=[fun w=>(k11 (qJo G_u153q G_u67q G_u156q G_u109q G_u132q)) ((sl w)),fun w=>(k11 (qJp G_u153q G_u67q G_u156q G_u109q G_u132q)) ((sl w)),fun w=>(k11 (qJq G_u153q G_u67q G_u156q G_u109q G_u132q)) ((sl w)),fun w=>(k11 (qJr G_u153q G_u67q G_u156q G_u109q G_u132q)) ((sr w)),fun w=>(k11 (qJs G_u153q G_u67q G_u156q G_u109q G_u132q)) ((sr w)),fun w=>(k11 (qJt G_u153q G_u67q G_u156q G_u109q G_u132q)) ((sr w))]
def qBG (G_u153q:qar) (G_u67q:qaB) (G_u156q:qas) (G_u109q:qap) (G_u132q:qaq) (x0:List AV) (x1 x2:Int) (x3:Bool) (x4 x5:Int) (x6:List UInt8) (x7 x8:Int) (x9:List UInt8) (x10:List AV):DT (Rd qc0):=
 .br (x3)
 (.bi (qdl x0 x2 x1) (fun y0=>
 .br (y0 == 0)
 (.at (.done 0))
 (.bi (G_u153q x0 (IntKind.i64.wrap (x2 + 1)) (IntKind.i64.wrap (x1 + 1))) (fun y1=>
 .br (!y1.2.2.2.2.2)
 (.at (.done 1))
 (.br (x1 == 4)
 (.at (.done 2))
 (.at (.next ((.inr (x0,x1,y1.2.2.2.2.1,x3,x4,x5,x6,y0,0,[],[AV.agg [.int .i64 x7,.int .i64 x8,AV.str x9,AV.view 4 x10],
 AV.agg [.int .i64 y1.1,.int .i64 y1.2.1,AV.str y1.2.2.1,AV.view 4 y1.2.2.2.1]])))))))
 (.no)))
 (.no))
 (.at (.done 0))
def qBH (G_u153q:qar) (G_u67q:qaB) (G_u156q:qas) (G_u109q:qap) (G_u132q:qaq) (x0:List AV) (x1 x2:Int) (x3:Bool) (x4 x5:Int) (x6:List UInt8) (x7 x8:Int) (x9:List UInt8) (x10:List AV):DT (Rd qc0):=
 .br (x3)
 (.bi (qdl x0 x2 x1) (fun y0=>
 .br (y0 == 0)
 (.at (.done 3))
 (.bi (G_u153q x0 (IntKind.i64.wrap (x2 + 1)) (IntKind.i64.wrap (x1 + 1))) (fun y1=>
 .br (!y1.2.2.2.2.2)
 (.at (.done 4))
 (.br (x1 == 4)
 (.at (.done 5))
 (.at (.next ((.inr (x0,x1,y1.2.2.2.2.1,x3,x4,x5,x6,y0,0,[],[AV.agg [.int .i64 x7,.int .i64 x8,AV.str x9,AV.view 4 x10],
 AV.agg [.int .i64 y1.1,.int .i64 y1.2.1,AV.str y1.2.2.1,AV.view 4 y1.2.2.2.1]])))))))
 (.no)))
 (.no))
 (.at (.done 3))
def qrO (G_u153q:qar) (G_u67q:qaB) (G_u156q:qas) (G_u109q:qap) (G_u132q:qaq):qc0 -> DT (Rd qc0):=(Sum.elim (fun v=>qBG G_u153q G_u67q G_u156q G_u109q G_u132q v.1 v.2.1 v.2.2.1 v.2.2.2.1 v.2.2.2.2.1 v.2.2.2.2.2.1 v.2.2.2.2.2.2.1 v.2.2.2.2.2.2.2.1 v.2.2.2.2.2.2.2.2.1 v.2.2.2.2.2.2.2.2.2.1 v.2.2.2.2.2.2.2.2.2.2) (fun v=>qBH G_u153q G_u67q G_u156q G_u109q G_u132q v.1 v.2.1 v.2.2.1 v.2.2.2.1 v.2.2.2.2.1 v.2.2.2.2.2.1 v.2.2.2.2.2.2.1 v.2.2.2.2.2.2.2.1 v.2.2.2.2.2.2.2.2.1 v.2.2.2.2.2.2.2.2.2.1 v.2.2.2.2.2.2.2.2.2.2))
def qc3 (G_u153q:qar) (G_u67q:qaB) (G_u156q:qas) (G_u109q:qap) (G_u132q:qaq) (v:qc0):Option (Nat × qc0):=qa2 (qaw (fun v=>(qrO G_u153q G_u67q G_u156q G_u109q G_u132q v).ev) v)
theorem qds (G_u153q G_u67q G_u156q G_u109q G_u132q v):qc3 G_u153q G_u67q G_u156q G_u109q G_u132q v = qaw (fun v=>(qrO G_u153q G_u67q G_u156q G_u109q G_u132q v).ev) v:=qab _
def qyU (G_u153q:qar) (G_u67q:qaB) (G_u156q:qas) (G_u109q:qap) (G_u132q:qaq):qdA:=LE (τ:=qc0) (hD qyk) (qc3 G_u153q G_u67q G_u156q G_u109q G_u132q) (qTa G_u153q G_u67q G_u156q G_u109q G_u132q)
theorem qSQ (G_u153q:qar) (G_u67q:qaB) (G_u156q:qas) (G_u109q:qap) (G_u132q:qaq) (hG:qiJ G_u153q G_u67q G_u156q G_u109q G_u132q):Go.Eng.Told IP (qah F30 0).1 (qah F30 0).2 (qyU G_u153q G_u67q G_u156q G_u109q G_u132q):=qaF (inferInstance:Inhabited qc0) (hs:=qyk) (st:=qrO G_u153q G_u67q G_u156q G_u109q G_u132q) (L:=[]) (qca G_u153q G_u67q G_u156q G_u109q G_u132q hG) (qae (l:=[]) (by kernel_rfl) trivial) (qds G_u153q G_u67q G_u156q G_u109q G_u132q) (fun v=>match v with | (.inl v)=>by kernel_rfl | (.inr v)=>by kernel_rfl) (fun v=>match v with | (.inl v)=>by kernel_rfl | (.inr v)=>by kernel_rfl)
def qbD (G_u153q:qar) (G_u67q:qaB) (G_u156q:qas) (G_u109q:qap) (G_u132q:qaq) (x0:List AV) (x1 x2:Int):DT qee:=
 .bi (br (x2 == 0) (br (sm (qa3 x0 x1 5 [105,102])) (some (gv (qa3 x0 x1 5 [105,102]))) none) (some false)) (fun y0=>
 .br (y0)
 (.bi (G_u67q x0 x1) (fun y1=>
 .at ((y1.1,y1.2.1,y1.2.2.1,y1.2.2.2.1,y1.2.2.2.2.1,y1.2.2.2.2.2)))
 (.no))
 (.br (x2 == 0)
 (.bi (G_u153q x0 x1 1) (fun y1=>
 .at ((y1.1,y1.2.1,y1.2.2.1,y1.2.2.2.1,y1.2.2.2.2.1,y1.2.2.2.2.2)))
 (.no))
 (.bi (br (x2 == 3) (br (sm (qa3 x0 x1 5 [110,111,116])) (some (gv (qa3 x0 x1 5 [110,111,116]))) none) (some false)) (fun y1=>
 .br (y1)
 (.bi (G_u156q x0 x1 x2 16) (fun y2=>
 .at ((y2.1,y2.2.1,y2.2.2.1,y2.2.2.2.1,y2.2.2.2.2.1,y2.2.2.2.2.2)))
 (.no))
 (.bi (br (x2 == 7) (br (sm (qa3 x0 x1 4 [45])) (some (gv (qa3 x0 x1 4 [45]))) none) (some false)) (fun y2=>
 .br (y2)
 (.bi (G_u156q x0 x1 x2 9) (fun y3=>
 .at ((y3.1,y3.2.1,y3.2.2.1,y3.2.2.2.1,y3.2.2.2.2.1,y3.2.2.2.2.2)))
 (.no))
 (.bi (br (x2 == 3) (some true) (some (x2 == 7))) (fun y3=>
 .br (y3)
 (.bi (G_u153q x0 x1 (IntKind.i64.wrap (x2 + 1))) (fun y4=>
 .at ((y4.1,y4.2.1,y4.2.2.1,y4.2.2.2.1,y4.2.2.2.2.1,y4.2.2.2.2.2)))
 (.no))
 (.br (x2 == 8)
 (.bi (G_u109q x0 x1) (fun y4=>
 .at ((y4.1,y4.2.1,y4.2.2.1,y4.2.2.2.1,y4.2.2.2.2.1,y4.2.2.2.2.2)))
 (.no))
 (.bi (G_u153q x0 x1 (IntKind.i64.wrap (x2 + 1))) (fun y4=>
 .bi (pj 0
 (qc3 G_u153q G_u67q G_u156q G_u109q G_u132q
 (Sum.inl (x0,x2,y4.2.2.2.2.1,y4.2.2.2.2.2,0,0,[],y4.1,y4.2.1,y4.2.2.1,y4.2.2.2.1)))) (fun y5=>
 .at (((sl y5).2.2.2.2.2.2.2.1,(sl y5).2.2.2.2.2.2.2.2.1,(sl y5).2.2.2.2.2.2.2.2.2.1,(sl y5).2.2.2.2.2.2.2.2.2.2,(sl y5).2.2.1,(sl y5).2.2.2.1)))
 (.bi (pj 1
 (qc3 G_u153q G_u67q G_u156q G_u109q G_u132q
 (Sum.inl (x0,x2,y4.2.2.2.2.1,y4.2.2.2.2.2,0,0,[],y4.1,y4.2.1,y4.2.2.1,y4.2.2.2.1)))) (fun y5=>
 .at (((gv (G_u153q (sl y5).1 (IntKind.i64.wrap ((sl y5).2.2.1 + 1)) (IntKind.i64.wrap ((sl y5).2.1 + 1)))).1,(gv (G_u153q (sl y5).1 (IntKind.i64.wrap ((sl y5).2.2.1 + 1)) (IntKind.i64.wrap ((sl y5).2.1 + 1)))).2.1,(gv (G_u153q (sl y5).1 (IntKind.i64.wrap ((sl y5).2.2.1 + 1)) (IntKind.i64.wrap ((sl y5).2.1 + 1)))).2.2.1,(gv (G_u153q (sl y5).1 (IntKind.i64.wrap ((sl y5).2.2.1 + 1)) (IntKind.i64.wrap ((sl y5).2.1 + 1)))).2.2.2.1,(gv (G_u153q (sl y5).1 (IntKind.i64.wrap ((sl y5).2.2.1 + 1)) (IntKind.i64.wrap ((sl y5).2.1 + 1)))).2.2.2.2.1,false)))
 (.bi (pj 2
 (qc3 G_u153q G_u67q G_u156q G_u109q G_u132q
 (Sum.inl (x0,x2,y4.2.2.2.2.1,y4.2.2.2.2.2,0,0,[],y4.1,y4.2.1,y4.2.2.1,y4.2.2.2.1)))) (fun y5=>
 .at ((gv (qdl (sl y5).1 (sl y5).2.2.1 (sl y5).2.1),0,[],[AV.agg
 [.int .i64 (sl y5).2.2.2.2.2.2.2.1,.int .i64 (sl y5).2.2.2.2.2.2.2.2.1,
 AV.str (sl y5).2.2.2.2.2.2.2.2.2.1,AV.view 4 (sl y5).2.2.2.2.2.2.2.2.2.2],
 AV.agg
 [.int .i64 (gv (G_u153q (sl y5).1 (IntKind.i64.wrap ((sl y5).2.2.1 + 1)) (IntKind.i64.wrap ((sl y5).2.1 + 1)))).1,
 .int .i64 (gv (G_u153q (sl y5).1 (IntKind.i64.wrap ((sl y5).2.2.1 + 1)) (IntKind.i64.wrap ((sl y5).2.1 + 1)))).2.1,
 AV.str (gv (G_u153q (sl y5).1 (IntKind.i64.wrap ((sl y5).2.2.1 + 1)) (IntKind.i64.wrap ((sl y5).2.1 + 1)))).2.2.1,
 AV.view 4 (gv (G_u153q (sl y5).1 (IntKind.i64.wrap ((sl y5).2.2.1 + 1)) (IntKind.i64.wrap ((sl y5).2.1 + 1)))).2.2.2.1]],(gv (G_u153q (sl y5).1 (IntKind.i64.wrap ((sl y5).2.2.1 + 1)) (IntKind.i64.wrap ((sl y5).2.1 + 1)))).2.2.2.2.1,(sl y5).2.2.2.1)))
 (.bi (pj 3
 (qc3 G_u153q G_u67q G_u156q G_u109q G_u132q
 (Sum.inl (x0,x2,y4.2.2.2.2.1,y4.2.2.2.2.2,0,0,[],y4.1,y4.2.1,y4.2.2.1,y4.2.2.2.1)))) (fun y5=>
 .at (((sr y5).2.2.2.2.2.2.2.1,(sr y5).2.2.2.2.2.2.2.2.1,(sr y5).2.2.2.2.2.2.2.2.2.1,(sr y5).2.2.2.2.2.2.2.2.2.2,(sr y5).2.2.1,(sr y5).2.2.2.1)))
 (.bi (pj 4
 (qc3 G_u153q G_u67q G_u156q G_u109q G_u132q
 (Sum.inl (x0,x2,y4.2.2.2.2.1,y4.2.2.2.2.2,0,0,[],y4.1,y4.2.1,y4.2.2.1,y4.2.2.2.1)))) (fun y5=>
 .at (((gv (G_u153q (sr y5).1 (IntKind.i64.wrap ((sr y5).2.2.1 + 1)) (IntKind.i64.wrap ((sr y5).2.1 + 1)))).1,(gv (G_u153q (sr y5).1 (IntKind.i64.wrap ((sr y5).2.2.1 + 1)) (IntKind.i64.wrap ((sr y5).2.1 + 1)))).2.1,(gv (G_u153q (sr y5).1 (IntKind.i64.wrap ((sr y5).2.2.1 + 1)) (IntKind.i64.wrap ((sr y5).2.1 + 1)))).2.2.1,(gv (G_u153q (sr y5).1 (IntKind.i64.wrap ((sr y5).2.2.1 + 1)) (IntKind.i64.wrap ((sr y5).2.1 + 1)))).2.2.2.1,(gv (G_u153q (sr y5).1 (IntKind.i64.wrap ((sr y5).2.2.1 + 1)) (IntKind.i64.wrap ((sr y5).2.1 + 1)))).2.2.2.2.1,false)))
 (.bi (pj 5
 (qc3 G_u153q G_u67q G_u156q G_u109q G_u132q
 (Sum.inl (x0,x2,y4.2.2.2.2.1,y4.2.2.2.2.2,0,0,[],y4.1,y4.2.1,y4.2.2.1,y4.2.2.2.1)))) (fun y5=>
 .at ((gv (qdl (sr y5).1 (sr y5).2.2.1 (sr y5).2.1),0,[],[AV.agg
 [.int .i64 (sr y5).2.2.2.2.2.2.2.1,.int .i64 (sr y5).2.2.2.2.2.2.2.2.1,
 AV.str (sr y5).2.2.2.2.2.2.2.2.2.1,AV.view 4 (sr y5).2.2.2.2.2.2.2.2.2.2],
 AV.agg
 [.int .i64 (gv (G_u153q (sr y5).1 (IntKind.i64.wrap ((sr y5).2.2.1 + 1)) (IntKind.i64.wrap ((sr y5).2.1 + 1)))).1,
 .int .i64 (gv (G_u153q (sr y5).1 (IntKind.i64.wrap ((sr y5).2.2.1 + 1)) (IntKind.i64.wrap ((sr y5).2.1 + 1)))).2.1,
 AV.str (gv (G_u153q (sr y5).1 (IntKind.i64.wrap ((sr y5).2.2.1 + 1)) (IntKind.i64.wrap ((sr y5).2.1 + 1)))).2.2.1,
 AV.view 4 (gv (G_u153q (sr y5).1 (IntKind.i64.wrap ((sr y5).2.2.1 + 1)) (IntKind.i64.wrap ((sr y5).2.1 + 1)))).2.2.2.1]],(gv (G_u153q (sr y5).1 (IntKind.i64.wrap ((sr y5).2.2.1 + 1)) (IntKind.i64.wrap ((sr y5).2.1 + 1)))).2.2.2.2.1,(sr y5).2.2.2.1)))
 (.no)))))))
 (.no))))
 (.no)))
 (.no)))
 (.no))))
 (.no)
def qsF (G_u153q:qar) (G_u67q:qaB) (G_u156q:qas) (G_u109q:qap) (G_u132q:qaq) (x0:List AV) (x1:Int):DT qCG:=
 .bi (pj 0
 (qcK G_u153q G_u67q G_u156q G_u109q G_u132q
 (Sum.inl (x0,x1,0,0,0,[],[AV.str [105,102],AV.str [116,104,101,110],AV.str [101,108,115,101]],19,0,[])))) (fun y0=>
 .at ((0,0,[],[],(sl y0).2.1,false)))
 (.bi (pj 1
 (qcK G_u153q G_u67q G_u156q G_u109q G_u132q
 (Sum.inl (x0,x1,0,0,0,[],[AV.str [105,102],AV.str [116,104,101,110],AV.str [101,108,115,101]],19,0,[])))) (fun y0=>
 .at ((0,0,[],[],(gv (G_u153q (sl y0).1 (IntKind.i64.wrap ((sl y0).2.1 + 1)) 0)).2.2.2.2.1,false)))
 (.bi (pj 2
 (qcK G_u153q G_u67q G_u156q G_u109q G_u132q
 (Sum.inl (x0,x1,0,0,0,[],[AV.str [105,102],AV.str [116,104,101,110],AV.str [101,108,115,101]],19,0,[])))) (fun y0=>
 .at (((sl y0).2.2.2.2.2.2.2.1,(sl y0).2.2.2.2.2.2.2.2.1,(sl y0).2.2.2.2.2.2.2.2.2,[],(sl y0).2.1,true)))
 (.bi (pj 3
 (qcK G_u153q G_u67q G_u156q G_u109q G_u132q
 (Sum.inl (x0,x1,0,0,0,[],[AV.str [105,102],AV.str [116,104,101,110],AV.str [101,108,115,101]],19,0,[])))) (fun y0=>
 .at ((0,0,[],[],(sr y0).2.1,false)))
 (.bi (pj 4
 (qcK G_u153q G_u67q G_u156q G_u109q G_u132q
 (Sum.inl (x0,x1,0,0,0,[],[AV.str [105,102],AV.str [116,104,101,110],AV.str [101,108,115,101]],19,0,[])))) (fun y0=>
 .at ((0,0,[],[],(gv (G_u153q (sr y0).1 (IntKind.i64.wrap ((sr y0).2.1 + 1)) 0)).2.2.2.2.1,false)))
 (.bi (pj 5
 (qcK G_u153q G_u67q G_u156q G_u109q G_u132q
 (Sum.inl (x0,x1,0,0,0,[],[AV.str [105,102],AV.str [116,104,101,110],AV.str [101,108,115,101]],19,0,[])))) (fun y0=>
 .at (((sr y0).2.2.2.2.2.2.2.1,(sr y0).2.2.2.2.2.2.2.2.1,(sr y0).2.2.2.2.2.2.2.2.2.1,(sr y0).2.2.2.2.2.2.2.2.2.2,(sr y0).2.1,true)))
 (.no))))))
def qhT (G_u153q:qar) (G_u67q:qaB) (G_u156q:qas) (G_u109q:qap) (G_u132q:qaq) (x0:List AV) (x1 x2 x3:Int):DT qvJ:=
 .bi (G_u153q x0 (IntKind.i64.wrap (x1 + 1)) x2) (fun y0=>
 .br (!y0.2.2.2.2.2)
 (.at ((0,0,[],[],y0.2.2.2.2.1,false)))
 (.at ((x3,0,[],[AV.agg [.int .i64 y0.1,.int .i64 y0.2.1,AV.str y0.2.2.1,AV.view 4 y0.2.2.2.1]],y0.2.2.2.2.1,true))))
 (.no)
end
end Go.Proofs.H10

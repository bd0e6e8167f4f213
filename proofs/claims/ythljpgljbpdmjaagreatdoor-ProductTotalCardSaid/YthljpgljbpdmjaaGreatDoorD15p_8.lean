/- Functions over plain data. Printed by a program of mine. -/
import Derived.Test.YthljpgljbpdmjaaGreatDoorD15p_7
import Derived.KernelRfl
set_option linter.unusedVariables false
set_option linter.unusedSimpArgs false
set_option linter.unnecessarySimpa false
namespace Go.Proofs.H15p
open Go Go.Eng
set_option maxRecDepth 100000
noncomputable section
abbrev qbS:Type:=(List AV × List AV × List AV × Int × Int × Int × Int × List UInt8 × List AV × Int × Int) ⊕ (List AV × List AV × List AV × Int × Int × Int × Int × List UInt8 × List AV × Int × Int × List AV)
def qBh:List PSt:=[⟨[(1006401,.junk),(1,.view 2),(2,.view 2),(3,.ref 0 0 0),(6,.ref 1 0 0),(12,.nils 2),(82,.view 4),(83,.int .i64),(84,.int .i64)],[(0,.box [.int .i64,.int .i64,.str,.view 4] false),(1,.box [.int .i64,.int .i64] false)],2,0⟩,⟨[(1006401,.junk),(1,.view 2),(2,.view 2),(3,.ref 0 0 0),(6,.ref 1 0 0),(12,.own 2 0),(82,.view 4),(83,.int .i64),(84,.int .i64)],[(0,.box [.int .i64,.int .i64,.str,.view 4] false),(1,.box [.int .i64,.int .i64] false),(2,.arr 2 false)],3,0⟩]
def qQf (G_u196q:qba) (x0 x1 x2:List AV) (x3 x4:Int) (x5 x6:Int) (x7:List UInt8) (x8:List AV) (x9 x10:Int):X × St:=(.ret,
 ⟨[(3,.ref 0 0 0),(6,.ref 1 0 0),
 (7,.int .i64 (gv (G_u196q (intOf (cellAt x2 x4 0)) (intOf (cellAt x2 x4 1)) (strOf (cellAt x2 x4 2)) (qaq (cellAt x2 x4 3)) x0 x1)).2.2),
 (12,.nils ⟨2,.nil⟩)],[(0,.box [.int .i64 x5,.int .i64 x6,.str x7,.view 4 x8] false),(1,.box [.int .i64 0,.int .i64 0] false)],2,0⟩)
def qQg (G_u196q:qba) (x0 x1 x2:List AV) (x3 x4:Int) (x5 x6:Int) (x7:List UInt8) (x8:List AV) (x9 x10:Int):X × St:=(.exit 3,
 ⟨[(3,.ref 0 0 0),(6,.ref 1 0 0),(7,.junk),(12,.nils ⟨2,.nil⟩)],[(0,.box [.int .i64 x5,.int .i64 x6,.str x7,.view 4 x8] false),(1,.box [.int .i64 x9,.int .i64 x10] false)],2,0⟩)
def qQh (G_u196q:qba) (x0 x1 x2:List AV) (x3 x4:Int) (x5 x6:Int) (x7:List UInt8) (x8:List AV) (x9 x10:Int) (x11:List AV):X × St:=(.ret,
 ⟨[(3,.ref 0 0 0),(6,.ref 1 0 0),
 (7,.int .i64 (gv (G_u196q (intOf (cellAt x2 x4 0)) (intOf (cellAt x2 x4 1)) (strOf (cellAt x2 x4 2)) (qaq (cellAt x2 x4 3)) x0 x1)).2.2),
 (12,.own 2 0 none)],[(0,.box [.int .i64 x5,.int .i64 x6,.str x7,.view 4 x8] false),(1,.box [.int .i64 0,.int .i64 0] false),
 (2,.arr 2 x11 false)],3,0⟩)
def qQi (G_u196q:qba) (x0 x1 x2:List AV) (x3 x4:Int) (x5 x6:Int) (x7:List UInt8) (x8:List AV) (x9 x10:Int) (x11:List AV):X × St:=(.exit 3,
 ⟨[(3,.ref 0 0 0),(6,.ref 1 0 0),(7,.junk),(12,.own 2 0 none)],[(0,.box [.int .i64 x5,.int .i64 x6,.str x7,.view 4 x8] false),(1,.box [.int .i64 x9,.int .i64 x10] false),
 (2,.arr 2 x11 false)],3,0⟩)
def q00 (G_u196q:qba):List (qbS -> X × St):=[fun w=>(k11 (qQf G_u196q)) ((sl w)),fun w=>(k11 (qQg G_u196q)) ((sl w)),fun w=>(k12 (qQh G_u196q)) ((sr w)),fun w=>(k12 (qQi G_u196q)) ((sr w))]
def qhc (G_u196q:qba) (x0 x1 x2:List AV) (x3 x4:Int) (x5 x6:Int) (x7:List UInt8) (x8:List AV) (x9 x10:Int):DT (Rd qbS):=
 .br (decide (x4 < x3))
 (.br (qaD [.int .i64,.int .i64,.str,.slice 4] x2 x4)
 (.bi (G_u196q (intOf (cellAt x2 x4 0)) (intOf (cellAt x2 x4 1)) (strOf (cellAt x2 x4 2)) (qaq (cellAt x2 x4 3)) x0 x1) (fun y0=>
 .br (y0.2.2 != 0)
 (.at (.done 0))
 (.at (.next ((.inr (x0,x1,x2,x3,IntKind.i64.wrap (x4 + 1),x5,x6,x7,x8,x9,x10,[AV.agg [.int .i64 y0.1,.int .i64 y0.2.1]]))))))
 (.no))
 (.no))
 (.at (.done 1))
def qhd (G_u196q:qba) (x0 x1 x2:List AV) (x3 x4:Int) (x5 x6:Int) (x7:List UInt8) (x8:List AV) (x9 x10:Int) (x11:List AV):DT (Rd qbS):=
 .br (decide (x4 < x3))
 (.br (qaD [.int .i64,.int .i64,.str,.slice 4] x2 x4)
 (.bi (G_u196q (intOf (cellAt x2 x4 0)) (intOf (cellAt x2 x4 1)) (strOf (cellAt x2 x4 2)) (qaq (cellAt x2 x4 3)) x0 x1) (fun y0=>
 .br (y0.2.2 != 0)
 (.at (.done 2))
 (.br (room (x11.length + 1) 16)
 (.at (.next ((.inr (x0,x1,x2,x3,IntKind.i64.wrap (x4 + 1),x5,x6,x7,x8,x9,x10,x11 ++ [AV.agg [.int .i64 y0.1,.int .i64 y0.2.1]])))))
 (.no)))
 (.no))
 (.no))
 (.at (.done 3))
def qcR (G_u196q:qba):qbS -> DT (Rd qbS):=(Sum.elim (fun v=>qhc G_u196q v.1 v.2.1 v.2.2.1 v.2.2.2.1 v.2.2.2.2.1 v.2.2.2.2.2.1 v.2.2.2.2.2.2.1 v.2.2.2.2.2.2.2.1 v.2.2.2.2.2.2.2.2.1 v.2.2.2.2.2.2.2.2.2.1 v.2.2.2.2.2.2.2.2.2.2) (fun v=>qhd G_u196q v.1 v.2.1 v.2.2.1 v.2.2.2.1 v.2.2.2.2.1 v.2.2.2.2.2.1 v.2.2.2.2.2.2.1 v.2.2.2.2.2.2.2.1 v.2.2.2.2.2.2.2.2.1 v.2.2.2.2.2.2.2.2.2.1 v.2.2.2.2.2.2.2.2.2.2.1 v.2.2.2.2.2.2.2.2.2.2.2))
def qj9 (G_u196q:qba) (v:qbS):Option (Nat × qbS):=qay (qap (fun v=>(qcR G_u196q v).ev) v)
theorem qgS (G_u196q v):qj9 G_u196q v = qap (fun v=>(qcR G_u196q v).ev) v:=qaa _
def qBX (G_u196q:qba):qbz:=LE (τ:=qbS) (hD qBh) (qj9 G_u196q) (q00 G_u196q)
theorem q0t (G_u196q:qba) (hG:qtg G_u196q):Go.Eng.Told IP (qae F64 1).1 (qae F64 1).2 (qBX G_u196q):=qar (inferInstance:Inhabited qbS) (hs:=qBh) (st:=qcR G_u196q) (L:=[]) (qng G_u196q hG) (qab (l:=[]) (by kernel_rfl) trivial) (qgS G_u196q) (fun v=>match v with | (.inl v)=>by kernel_rfl | (.inr v)=>by kernel_rfl) (fun v=>match v with | (.inl v)=>by kernel_rfl | (.inr v)=>by kernel_rfl)
def evI (G:Int -> Int -> List UInt8 -> List AV -> List AV -> List AV -> Option qeX) (x3 x4 x5:List AV):DT qeX:=
 (.br (qaD [.int .i64,.int .i64,.str,.slice 4] x3 0)
 (.bi (G (intOf (cellAt x3 0 0)) (intOf (cellAt x3 0 1)) (strOf (cellAt x3 0 2)) (qaq (cellAt x3 0 3)) x4 x5) (fun y0=>
 .br (y0.2.2 != 0)
 (.at ((0,0,y0.2.2)))
 (.br (qaD [.int .i64,.int .i64,.str,.slice 4] x3 (IntKind.i64.wrap (2 - y0.2.1)))
 (.bi (G (intOf (cellAt x3 (IntKind.i64.wrap (2 - y0.2.1)) 0)) (intOf (cellAt x3 (IntKind.i64.wrap (2 - y0.2.1)) 1))
 (strOf (cellAt x3 (IntKind.i64.wrap (2 - y0.2.1)) 2)) (qaq (cellAt x3 (IntKind.i64.wrap (2 - y0.2.1)) 3)) x4 x5) (fun y1=>
 .at ((y1.1,y1.2.1,y1.2.2)))
 (.no))
 (.no)))
 (.no))
 (.no))
def evT (G:Int -> Int -> List UInt8 -> List AV -> List AV -> List AV -> Option qeX) (y:Option (Nat × qbS)):DT qeX:=
 (.bi (pj 0 y) (fun y0=>
 .at ((0,0,(gv
 (G (intOf (cellAt (sl y0).2.2.1 (sl y0).2.2.2.2.1 0)) (intOf (cellAt (sl y0).2.2.1 (sl y0).2.2.2.2.1 1))
 (strOf (cellAt (sl y0).2.2.1 (sl y0).2.2.2.2.1 2)) (qaq (cellAt (sl y0).2.2.1 (sl y0).2.2.2.2.1 3)) (sl y0).1 (sl y0).2.1)).2.2)))
 (.bi (pj 1 y) (fun y0=>
 .bi (qdM (sl y0).2.2.2.2.2.1 []) (fun y1=>
 .at ((y1.1,y1.2.1,y1.2.2)))
 (.no))
 (.bi (pj 2 y) (fun y0=>
 .at ((0,0,(gv
 (G (intOf (cellAt (sr y0).2.2.1 (sr y0).2.2.2.2.1 0)) (intOf (cellAt (sr y0).2.2.1 (sr y0).2.2.2.2.1 1))
 (strOf (cellAt (sr y0).2.2.1 (sr y0).2.2.2.2.1 2)) (qaq (cellAt (sr y0).2.2.1 (sr y0).2.2.2.2.1 3)) (sr y0).1 (sr y0).2.1)).2.2)))
 (.bi (pj 3 y) (fun y0=>
 .bi (qdM (sr y0).2.2.2.2.2.1 (sr y0).2.2.2.2.2.2.2.2.2.2.2) (fun y1=>
 .at ((y1.1,y1.2.1,y1.2.2)))
 (.no))
 (.no)))))
def qcr (G_u196q:qba) (x0 x1:Int) (x2:List UInt8) (x3 x4 x5:List AV):DT qeX:=
 .br (x0 == 1)
 (.at ((1,x1,0)))
 (.br (x0 == 2)
 (.at ((2,x1,0)))
 (.br (x0 == 3)
 (.at ((3,x1,0)))
 (.br (x0 == 4)
 (.bi (pj 0 (qoX (x4,x5,x4,(x4.length:Int),0,x0,x1,x2,x3,0,0))) (fun y0=>
 .at ((intOf (cellAt y0.2.1 y0.2.2.2.2.1 0),intOf (cellAt y0.2.1 y0.2.2.2.2.1 1),0)))
 (.bi (pj 1 (qoX (x4,x5,x4,(x4.length:Int),0,x0,x1,x2,x3,0,0))) (fun y0=>
 (evT G_u196q (qj9 G_u196q (Sum.inl (y0.1,y0.2.1,y0.2.2.2.2.2.2.2.2.1,(y0.2.2.2.2.2.2.2.2.1.length:Int),0,y0.2.2.2.2.2.1,y0.2.2.2.2.2.2.1,y0.2.2.2.2.2.2.2.1,y0.2.2.2.2.2.2.2.2.1,y0.2.2.2.2.2.2.2.2.2.1,y0.2.2.2.2.2.2.2.2.2.2)))))
 (.no)))
 (.br (x0 == 19)
 ((evI G_u196q x3 x4 x5))
 ((evT G_u196q (qj9 G_u196q (Sum.inl (x4,x5,x3,(x3.length:Int),0,x0,x1,x2,x3,0,0)))))))))
def qck:Nat -> qba
 | 0=>fun _ _ _ _ _ _=>none
 | n + 1=>fun x0 x1 x2 x3 x4 x5=>(qcr ((qck n)) x0 x1 x2 x3 x4 x5).ev
def qtM (x0 x1:Int) (x2:List UInt8) (x3 x4 x5:List AV):Option qeX:=qka fun n=>(qck n) x0 x1 x2 x3 x4 x5
theorem qrw:∀ n,qtg ((qck n))
 | 0=>(fun v y h=>nomatch h)
 | n + 1=>have hG:=qrw n
 qag (F:=F64) (L:=[(1006400,qBW),(1006401,qBX ((qck n)))]) (t:=(k6 (qcr ((qck n))))) (qng ((qck n)) hG) (qab (l:=[qae F64 0,qae F64 1]) (by kernel_rfl) ⟨qas (by kernel_rfl) q0s,qas (by kernel_rfl) (q0t ((qck n)) hG),trivial⟩) (by kernel_rfl) (fun v=>by kernel_rfl) (fun v=>rfl)
theorem qYN:FH IP 64 qpv qpL (k6 qtM):=qbK (p:=qpv) (rs:=qpL) (s:=fun n=>(k6 ((qck n)))) fun n=>(qrw n)
def q99:Tab:=(64,FE qpv qpL (k6 qtM)) :: q6O
theorem qHD:qai IP q99:=⟨qaj qYN,qHC⟩
abbrev qGL:Type:=Int × Int × Int
def qMU:PArgs:=⟨[.agg [.int .i64,.int .i64,.str,.view 4],.view 2,.view 2],[]⟩
def qOB:List PRes:=[⟨false,.tup [.agg [.int .i64,.int .i64],.int .i64],[]⟩]
def qmx (x0 x1:Int) (x2:List UInt8) (x3 x4 x5:List AV):DT qGL:=
 .bi (qnS x4) (fun y0=>
 .br (y0 != 0)
 (.at ((0,0,y0)))
 (.bi (qjN x0 x1 x2 x3 x4) (fun y1=>
 .br (y1.2 != 0)
 (.at ((0,0,y1.2)))
 (.bi (qnW x4 x5) (fun y2=>
 .br (!y2)
 (.at ((0,0,1)))
 (.bi (qtM x0 x1 x2 x3 x4 x5) (fun y3=>
 .at ((y3.1,y3.2.1,y3.2.2)))
 (.no)))
 (.no)))
 (.no)))
 (.no)
def qob (x0 x1:Int) (x2:List UInt8) (x3 x4 x5:List AV):Option qGL:=qay (qmx x0 x1 x2 x3 x4 x5).ev
theorem qDV (x0 x1 x2 x3 x4 x5):qob x0 x1 x2 x3 x4 x5 = (qmx x0 x1 x2 x3 x4 x5).ev:=qaa _
theorem qYM:FH IP 48 qMU qOB (k6 qob):=fh F48 (k6 qmx) qHD
def zaa:Tab:=(48,FE qMU qOB (k6 qob)) :: q99
theorem qyw:qai IP zaa:=⟨qaj qYM,qHD⟩
abbrev qds:Type:=List UInt8 × Int
def qBk:List PSt:=[⟨[(1009300,.junk),(0,.str),(3,.int .i64)],[],0,0⟩]
def qQp (x0:List UInt8) (x1:Int):X × St:=(.ret,⟨[(2,.bool false)],[],0,0⟩)
def qQq (x0:List UInt8) (x1:Int):X × St:=(.exit 0,⟨[(2,.junk)],[],0,0⟩)
def q03:List (qds -> X × St):=[(k2 qQp),(k2 qQq)]
def qkz (x0:List UInt8) (x1:Int):DT (Rd qds):=
 .br (decide (x1 < (x0.length:Int)))
 (.br (inB x0.length x1)
 (.bi (br (decide (qaO x0 x1 < 97)) (some true) (br (inB x0.length x1) (some (decide (qaO x0 x1 > 122))) none)) (fun y0=>
 .bi (br y0 (br (inB x0.length x1) (br (decide (qaO x0 x1 < 48)) (some true) (br (inB x0.length x1) (some (decide (qaO x0 x1 > 57))) none)) none) (some false)) (fun y1=>
 .bi (br y1 (br (inB x0.length x1) (some (qaO x0 x1 != 95)) none) (some false)) (fun y2=>
 .br (y2) (.at (.done 0)) (.at (.next ((x0,IntKind.i64.wrap (x1 + 1))))))
 (.no))
 (.no))
 (.no))
 (.no))
 (.at (.done 1))
def qi9:qds -> DT (Rd qds):=(fun v=>qkz v.1 v.2)
def qoZ (v:qds):Option (Nat × qds):=qay (qap (fun v=>(qi9 v).ev) v)
theorem qss (v):qoZ v = qap (fun v=>(qi9 v).ev) v:=qaa _
def qB0:qbz:=LE (τ:=qds) (hD qBk) (qoZ) q03
theorem q0w:Go.Eng.Told IP (qae F93 0).1 (qae F93 0).2 (qB0):=lp (inferInstance:Inhabited qds) (hs:=qBk) qi9 qyw qss
abbrev qGS:Type:=Bool
def qM1:PArgs:=⟨[.str],[]⟩
def qOI:List PRes:=[⟨false,.bool,[]⟩]
def qmG (x0:List UInt8):DT qGS:=
 .bi (br (decide ((x0.length:Int) < 1)) (some true) (some (decide ((x0.length:Int) > 16)))) (fun y0=>
 .bi (br y0 (some true) (br (inB x0.length 0) (some (decide (qaO x0 0 < 97))) none)) (fun y1=>
 .bi (br y1 (some true) (br (inB x0.length 0) (some (decide (qaO x0 0 > 122))) none)) (fun y2=>
 .br (y2)
 (.at (false))
 (.bi (pj 0 (qoZ (x0,0))) (fun y3=>
 .at (false))
 (.bi (pj 1 (qoZ (x0,0))) (fun y3=>
 .at (true))
 (.no))))
 (.no))
 (.no))
 (.no)
def qoh (x0:List UInt8):Option qGS:=qay (qmG x0).ev
theorem qD3 (x0):qoh x0 = (qmG x0).ev:=qaa _
theorem qYX:FH IP 93 qM1 qOI qoh:=qag (F:=F93) (L:=[(1009300,qB0)]) (t:=qmG) qyw (qab (l:=[qae F93 0]) (by kernel_rfl) ⟨qas (by kernel_rfl) q0w,trivial⟩) (by kernel_rfl) (fun v=>by kernel_rfl) (fun _=>qaa _)
def zab:Tab:=(93,FE qM1 qOI qoh) :: zaa
theorem qHE:qai IP zab:=⟨qaj qYX,qyw⟩
abbrev qGH:Type:=List AV
def qMP:PArgs:=⟨[],[]⟩
def qOw:List PRes:=[⟨false,.view 1,[]⟩]
def qmt:DT qGH:=
 .at ([AV.str [112,114,111,100,117,99,116],AV.str [99,117,114,114,101,110,99,121],AV.str [99,97,108,101,110,100,97,114],AV.str [102,114,111,109],
 AV.str [101,118,101,114,121],AV.str [111,118,101,114,100,114,97,102,116],AV.str [116,97,120],AV.str [99,114,101,100,105,116],
 AV.str [100,101,98,105,116],AV.str [109,97,114,103,105,110,97,108],AV.str [119,104,111,108,101],AV.str [97,99,116,51,54,48],
 AV.str [97,99,116,51,54,53],AV.str [97,99,116,117,97,108],AV.str [116,104,105,114,116,121],AV.str [100,111,119,110],AV.str [117,112],
 AV.str [102,108,111,111,114],AV.str [99,101,105,108],AV.str [104,97,108,102,95,117,112],AV.str [104,97,108,102,95,101,118,101,110],
 AV.str [107,101,101,112],AV.str [100,114,111,112],AV.str [102,101,101],AV.str [108,105,109,105,116],AV.str [119,104,101,110],
 AV.str [97,109,111,117,110,116,95,111,102],AV.str [115,105,110,103,108,101],AV.str [100,97,105,108,121],AV.str [109,111,110,116,104,108,121],
 AV.str [109,111,110,116,104],AV.str [114,101,116,117,114,110],AV.str [99,108,111,115,101],AV.str [101,118,101,110,116],AV.str [105,102],
 AV.str [116,104,101,110],AV.str [101,108,115,101],AV.str [97,110,100],AV.str [111,114],AV.str [110,111,116],AV.str [109,105,110],AV.str [109,97,120]])
def qn7:Option qGH:=qay (qmt).ev
theorem qDR:qn7 = (qmt).ev:=qaa _
theorem qYC:FH IP 121 qMP qOw (fun _=>qn7):=qag (F:=q5V) (L:=[]) (t:=(fun _=>qmt)) qHE (qab (l:=[]) (by kernel_rfl) trivial) (by kernel_rfl) (fun v=>by kernel_rfl) (fun _=>qaa _)
def zac:Tab:=(121,FE qMP qOw (fun _=>qn7)) :: zab
theorem qyx:qai IP zac:=⟨qaj qYC,qHE⟩
abbrev qdt:Type:=List UInt8 × List AV × Int
def qBl:List PSt:=[⟨[(1009400,.junk),(0,.str),(3,.view 1),(4,.int .i64)],[],0,0⟩]
def qQr (x0:List UInt8) (x1:List AV) (x2:Int):X × St:=(.ret,⟨[(2,.bool true)],[],0,0⟩)
def qQs (x0:List UInt8) (x1:List AV) (x2:Int):X × St:=(.exit 0,⟨[(2,.junk)],[],0,0⟩)
def q04:List (qdt -> X × St):=[(k3 qQr),(k3 qQs)]
def qkA (x0:List UInt8) (x1:List AV) (x2:Int):DT (Rd qdt):=
 .br (decide (x2 < (x1.length:Int)))
 (.br (qaD [.str] x1 x2)
 (.br (strOf (cellAt x1 x2 0) == x0) (.at (.done 0)) (.at (.next ((x0,x1,IntKind.i64.wrap (x2 + 1))))))
 (.no))
 (.at (.done 1))
def qja:qdt -> DT (Rd qdt):=(fun v=>qkA v.1 v.2.1 v.2.2)
def qo0 (v:qdt):Option (Nat × qdt):=qay (qap (fun v=>(qja v).ev) v)
theorem qst (v):qo0 v = qap (fun v=>(qja v).ev) v:=qaa _
def qB1:qbz:=LE (τ:=qdt) (hD qBl) (qo0) q04
theorem q0x:Go.Eng.Told IP (qae F94 0).1 (qae F94 0).2 (qB1):=lp (inferInstance:Inhabited qdt) (hs:=qBl) qja qyx qst
abbrev qGT:Type:=Bool
def qM2:PArgs:=⟨[.str],[]⟩
def qOJ:List PRes:=[⟨false,.bool,[]⟩]
def qmH (x0:List UInt8):DT qGT:=
 .bi (qn7) (fun y0=>
 .bi (pj 0 (qo0 (x0,y0,0))) (fun y1=>
 .at (true))
 (.bi (pj 1 (qo0 (x0,y0,0))) (fun y1=>
 .at (false))
 (.no)))
 (.no)
def qjO (x0:List UInt8):Option qGT:=qay (qmH x0).ev
theorem qD4 (x0):qjO x0 = (qmH x0).ev:=qaa _
theorem qYY:FH IP 94 qM2 qOJ qjO:=qag (F:=F94) (L:=[(1009400,qB1)]) (t:=qmH) qyx (qab (l:=[qae F94 0]) (by kernel_rfl) ⟨qas (by kernel_rfl) q0x,trivial⟩) (by kernel_rfl) (fun v=>by kernel_rfl) (fun _=>qaa _)
def zad:Tab:=(94,FE qM2 qOJ qjO) :: zac
theorem qHF:qai IP zad:=⟨qaj qYY,qyx⟩
abbrev qUb:Type:=Bool
def qWr:PArgs:=⟨[.str],[]⟩
def qXd:List PRes:=[⟨false,.bool,[]⟩]
def qvu (x0:List UInt8):DT qUb:=
 .bi (qoh x0) (fun y0=>
 .bi (br y0 (br (sm (qjO x0)) (some !gv (qjO x0)) none) (some false)) (fun y1=>
 .at (y1))
 (.no))
 (.no)
def qrZ (x0:List UInt8):Option qUb:=qay (qvu x0).ev
theorem qJT (x0):qrZ x0 = (qvu x0).ev:=qaa _
theorem q2V:FH IP 78 qWr qXd qrZ:=fh F78 qvu qHF
def zae:Tab:=(78,FE qWr qXd qrZ) :: zad
theorem qyy:qai IP zae:=⟨qaj q2V,qHF⟩
abbrev qdv:Type:=List AV × Int × Int
def qBn:List PSt:=[⟨[(1006501,.junk),(0,.view 2),(3,.int .i64),(4,.int .i64)],[],0,0⟩]
def qQx (x0:List AV) (x1 x2:Int):X × St:=(.ret,⟨[(0,.view 2 x0),(2,.int .i64 12),(3,.int .i64 x1)],[],0,0⟩)
def qQy (x0:List AV) (x1 x2:Int):X × St:=(.exit 2,⟨[(0,.view 2 x0),(2,.junk),(3,.int .i64 x1)],[],0,0⟩)
def q06:List (qdv -> X × St):=[(k3 qQx),(k3 qQy)]
def qkC (x0:List AV) (x1 x2:Int):DT (Rd qdv):=
 .br (decide (x2 < x1))
 (.br (qaD [.str,.int .i64] x0 x2)
 (.br (qaD [.str,.int .i64] x0 x1)
 (.br (strOf (cellAt x0 x2 0) == strOf (cellAt x0 x1 0)) (.at (.done 0)) (.at (.next ((x0,x1,IntKind.i64.wrap (x2 + 1))))))
 (.no))
 (.no))
 (.at (.done 1))
def qjc:qdv -> DT (Rd qdv):=(fun v=>qkC v.1 v.2.1 v.2.2)
def qo1 (v:qdv):Option (Nat × qdv):=qay (qap (fun v=>(qjc v).ev) v)
theorem qsv (v):qo1 v = qap (fun v=>(qjc v).ev) v:=qaa _
def qB3:qbz:=LE (τ:=qdv) (hD qBn) (qo1) q06
theorem q0z:Go.Eng.Told IP (qae F65 1).1 (qae F65 1).2 (qB3):=lp (inferInstance:Inhabited qdv) (hs:=qBn) qjc qyy qsv
abbrev qGV:Type:=Bool
def qM4:PArgs:=⟨[.int .i64],[]⟩
def qOL:List PRes:=[⟨false,.bool,[]⟩]
def qmJ (x0:Int):DT qGV:=
 .bi (br (decide (x0 >= 1)) (some (decide (x0 <= 5))) (some false)) (fun y0=>
 .at (y0))
 (.no)
def qh1 (x0:Int):Option qGV:=qay (qmJ x0).ev
theorem qD6 (x0):qh1 x0 = (qmJ x0).ev:=qaa _
theorem qY0:FH IP 79 qM4 qOL qh1:=fh F79 qmJ qyy
def zaf:Tab:=(79,FE qM4 qOL qh1) :: zae
theorem qyz:qai IP zaf:=⟨qaj qY0,qyy⟩
abbrev qdu:Type:=List AV × Int
def qBm:List PSt:=[⟨[(1006500,.junk),(0,.view 2),(3,.int .i64)],[],0,0⟩]
def qQt (x0:List AV) (x1:Int):X × St:=(.ret,⟨[(2,.int .i64 4)],[],0,0⟩)
def qQu (x0:List AV) (x1:Int):X × St:=(.ret,⟨[(2,.int .i64 12)],[],0,0⟩)
def qQv (x0:List AV) (x1:Int):X × St:=(.ret,⟨[(2,.int .i64 3)],[],0,0⟩)
def qQw (x0:List AV) (x1:Int):X × St:=(.exit 0,⟨[(2,.junk)],[],0,0⟩)
def q05:List (qdu -> X × St):=[(k2 qQt),(k2 qQu),(k2 qQv),(k2 qQw)]
def qkB (x0:List AV) (x1:Int):DT (Rd qdu):=
 .br (decide (x1 < (x0.length:Int)))
 (.br (qaD [.str,.int .i64] x0 x1)
 (.bi (qrZ (strOf (cellAt x0 x1 0))) (fun y0=>
 .br (!y0)
 (.at (.done 0))
 (.bi (pj 0 (qo1 (x0,x1,0))) (fun y1=>
 .at (.done 1))
 (.bi (pj 1 (qo1 (x0,x1,0))) (fun y1=>
 .br (qaD [.str,.int .i64] y1.1 y1.2.1)
 (.bi (qh1 (intOf (cellAt y1.1 y1.2.1 1))) (fun y2=>
 .br (!y2) (.at (.done 2)) (.at (.next ((y1.1,IntKind.i64.wrap (y1.2.1 + 1))))))
 (.no))
 (.no))
 (.no))))
 (.no))
 (.no))
 (.at (.done 3))
def qjb:qdu -> DT (Rd qdu):=(fun v=>qkB v.1 v.2)
def qig (v:qdu):Option (Nat × qdu):=qay (qap (fun v=>(qjb v).ev) v)
theorem qsu (v):qig v = qap (fun v=>(qjb v).ev) v:=qaa _
def qB2:qbz:=LE (τ:=qdu) (hD qBm) (qig) q05
theorem q0y:Go.Eng.Told IP (qae F65 0).1 (qae F65 0).2 (qB2):=qar (inferInstance:Inhabited qdu) (hs:=qBm) (st:=qjb) (L:=[(1006501,qB3)]) qyz (qab (l:=[qae F65 1]) (by kernel_rfl) ⟨qas (by kernel_rfl) q0z,trivial⟩) (qsu) (fun v=>by kernel_rfl) (fun v=>by kernel_rfl)
abbrev qGW:Type:=Int
def qM5:PArgs:=⟨[.view 2],[]⟩
def qOM:List PRes:=[⟨false,.int .i64,[]⟩]
def qmK (x0:List AV):DT qGW:=
 .br (decide ((x0.length:Int) > 64))
 (.at (5))
 (.bi (pj 0 (qig (x0,0))) (fun y0=>
 .at (4))
 (.bi (pj 1 (qig (x0,0))) (fun y0=>
 .at (12))
 (.bi (pj 2 (qig (x0,0))) (fun y0=>
 .at (3))
 (.bi (pj 3 (qig (x0,0))) (fun y0=>
 .at (0))
 (.no)))))
def qoj (x0:List AV):Option qGW:=qay (qmK x0).ev
theorem qD7 (x0):qoj x0 = (qmK x0).ev:=qaa _
theorem qY1:FH IP 65 qM5 qOM qoj:=qag (F:=F65) (L:=[(1006500,qB2)]) (t:=qmK) qyz (qab (l:=[qae F65 0,qae F65 1]) (by kernel_rfl) ⟨qas (by kernel_rfl) q0y,qCr (by kernel_rfl),trivial⟩) (by kernel_rfl) (fun v=>by kernel_rfl) (fun _=>qaa _)
def q6P:Tab:=(65,FE qM5 qOM qoj) :: zaf
theorem qHH:qai IP q6P:=⟨qaj qY1,qyz⟩
abbrev qyp:Type:=Int
def qps:PArgs:=⟨[.agg [.int .i64,.int .i64,.str,.view 4],.int .i64],[]⟩
def qpI:List PRes:=[⟨false,.int .i64,[]⟩]
abbrev qcf:Type:=Int -> Int -> (List UInt8) -> (List AV) -> Int -> Option qyp
def qtd (G_u189q:qcf):Prop:=FH IP 122 qps qpI (k5 G_u189q)
def qQ1 (G_u189q:qcf):Tab:=(122,FE qps qpI (k5 G_u189q)) :: q6P
theorem qnd (G_u189q:qcf) (hG:qtd G_u189q):qai IP (qQ1 G_u189q):=⟨qaj (hG),qHH⟩
abbrev qdm:Type:=Int × Int × Int × Int × Int × List UInt8 × List AV
def qBa:List PSt:=[⟨[(1012200,.junk),(1,.int .i64),(2,.ref 0 0 0),(5,.int .i64),(6,.int .i64)],[(0,.box [.int .i64,.int .i64,.str,.view 4] false)],1,0⟩]
def qP0 (x0 x1:Int) (x2 x3 x4:Int) (x5:List UInt8) (x6:List AV):X × St:=(.exit 0,⟨[(5,.int .i64 x1)],[],0,0⟩)
def q0T:List (qdm -> X × St):=[(k7 qP0)]
def qg8 (G_u189q:qcf) (x0 x1:Int) (x2 x3 x4:Int) (x5:List UInt8) (x6:List AV):DT (Rd qdm):=
 .bi (br (decide (x2 < (x6.length:Int))) (some (decide (x1 <= x0))) (some false)) (fun y0=>
 .br (y0)
 (.br (qaD [.int .i64,.int .i64,.str,.slice 4] x6 x2)
 (.bi (G_u189q (intOf (cellAt x6 x2 0)) (intOf (cellAt x6 x2 1)) (strOf (cellAt x6 x2 2)) (qaq (cellAt x6 x2 3)) (IntKind.i64.wrap (x0 - x1))) (fun y1=>
 .at (.next ((x0,IntKind.i64.wrap (x1 + y1),IntKind.i64.wrap (x2 + 1),x3,x4,x5,x6))))
 (.no))
 (.no))
 (.at (.done 0)))
 (.no)
def qfS (G_u189q:qcf):qdm -> DT (Rd qdm):=(fun v=>qg8 G_u189q v.1 v.2.1 v.2.2.1 v.2.2.2.1 v.2.2.2.2.1 v.2.2.2.2.2.1 v.2.2.2.2.2.2)
def qoU (G_u189q:qcf) (v:qdm):Option (Nat × qdm):=qay (qap (fun v=>(qfS G_u189q v).ev) v)
theorem qgQ (G_u189q v):qoU G_u189q v = qap (fun v=>(qfS G_u189q v).ev) v:=qaa _
def qBQ (G_u189q:qcf):qbz:=LE (τ:=qdm) (hD qBa) (qoU G_u189q) q0T
theorem q0m (G_u189q:qcf) (hG:qtd G_u189q):Go.Eng.Told IP (qae q1i 0).1 (qae q1i 0).2 (qBQ G_u189q):=qar (inferInstance:Inhabited qdm) (hs:=qBa) (st:=qfS G_u189q) (L:=[]) (qnd G_u189q hG) (qab (l:=[]) (by kernel_rfl) trivial) (qgQ G_u189q) (fun v=>by kernel_rfl) (fun v=>by kernel_rfl)
def quP (G_u189q:qcf) (x0 x1:Int) (x2:List UInt8) (x3:List AV) (x4:Int):DT qyp:=
 .bi (pj 0 (qoU G_u189q (x4,1,0,x0,x1,x2,x3))) (fun y0=>
 .at (y0.2.1))
 (.no)
def qcx:Nat -> qcf
 | 0=>fun _ _ _ _ _=>none
 | n + 1=>fun x0 x1 x2 x3 x4=>(quP ((qcx n)) x0 x1 x2 x3 x4).ev
def qtJ (x0 x1:Int) (x2:List UInt8) (x3:List AV) (x4:Int):Option qyp:=qka fun n=>(qcx n) x0 x1 x2 x3 x4
theorem qrt:∀ n,qtd ((qcx n))
 | 0=>(fun v y h=>nomatch h)
 | n + 1=>have hG:=qrt n
 qag (F:=q1i) (L:=[(1012200,qBQ ((qcx n)))]) (t:=(k5 (quP ((qcx n))))) (qnd ((qcx n)) hG) (qab (l:=[qae q1i 0]) (by kernel_rfl) ⟨qas (by kernel_rfl) (q0m ((qcx n)) hG),trivial⟩) (by kernel_rfl) (fun v=>by kernel_rfl) (fun v=>rfl)
theorem qYG:FH IP 122 qps qpI (k5 qtJ):=qbK (p:=qps) (rs:=qpI) (s:=fun n=>(k5 ((qcx n)))) fun n=>(qrt n)
def zag:Tab:=(122,FE qps qpI (k5 qtJ)) :: q6P
theorem qHI:qai IP zag:=⟨qaj qYG,qHH⟩
abbrev qGI:Type:=Bool
def qMQ:PArgs:=⟨[.agg [.int .i64,.int .i64,.str,.view 4],.int .i64],[]⟩
def qOx:List PRes:=[⟨false,.bool,[]⟩]
def qmu (x0 x1:Int) (x2:List UInt8) (x3:List AV) (x4:Int):DT qGI:=
 .bi (qtJ x0 x1 x2 x3 x4) (fun y0=>
 .at (decide (y0 > x4)))
 (.no)
def qn9 (x0 x1:Int) (x2:List UInt8) (x3:List AV) (x4:Int):Option qGI:=qay (qmu x0 x1 x2 x3 x4).ev
theorem qDS (x0 x1 x2 x3 x4):qn9 x0 x1 x2 x3 x4 = (qmu x0 x1 x2 x3 x4).ev:=qaa _
theorem qYE:FH IP 95 qMQ qOx (k5 qn9):=fh F95 (k5 qmu) qHI
def q6Q:Tab:=(95,FE qMQ qOx (k5 qn9)) :: zag
theorem qHJ:qai IP q6Q:=⟨qaj qYE,qHI⟩
abbrev qyo:Type:=Int
def qpq:PArgs:=⟨[.agg [.int .i64,.int .i64,.str,.view 4]],[]⟩
def qpG:List PRes:=[⟨false,.int .i64,[]⟩]
abbrev qce:Type:=Int -> Int -> (List UInt8) -> (List AV) -> Option qyo
def qtb (G_u186q:qce):Prop:=FH IP 96 qpq qpG (k4 G_u186q)
def qQZ (G_u186q:qce):Tab:=(96,FE qpq qpG (k4 G_u186q)) :: q6Q
theorem qnb (G_u186q:qce) (hG:qtb G_u186q):qai IP (qQZ G_u186q):=⟨qaj (hG),qHJ⟩
abbrev qdl:Type:=Int × Int × Int × Int × List UInt8 × List AV
def qA7:List PSt:=[⟨[(1009600,.junk),(1,.ref 0 0 0),(3,.int .i64),(4,.int .i64)],[(0,.box [.int .i64,.int .i64,.str,.view 4] false)],1,0⟩]
def qPT (x0 x1:Int) (x2 x3:Int) (x4:List UInt8) (x5:List AV):X × St:=(.exit 0,⟨[(3,.int .i64 x0)],[],0,0⟩)
def q0Q:List (qdl -> X × St):=[(k6 qPT)]
def qkp (G_u186q:qce) (x0 x1:Int) (x2 x3:Int) (x4:List UInt8) (x5:List AV):DT (Rd qdl):=
 .br (decide (x1 < (x5.length:Int)))
 (.br (qaD [.int .i64,.int .i64,.str,.slice 4] x5 x1)
 (.bi (G_u186q (intOf (cellAt x5 x1 0)) (intOf (cellAt x5 x1 1)) (strOf (cellAt x5 x1 2)) (qaq (cellAt x5 x1 3))) (fun y0=>
 .at (.next ((if y0 > x0 then y0 else x0,IntKind.i64.wrap (x1 + 1),x2,x3,x4,x5))))
 (.no))
 (.no))
 (.at (.done 0))
def qi4 (G_u186q:qce):qdl -> DT (Rd qdl):=(fun v=>qkp G_u186q v.1 v.2.1 v.2.2.1 v.2.2.2.1 v.2.2.2.2.1 v.2.2.2.2.2)
def qt4 (G_u186q:qce) (v:qdl):Option (Nat × qdl):=qay (qap (fun v=>(qi4 G_u186q v).ev) v)
theorem qsm (G_u186q v):qt4 G_u186q v = qap (fun v=>(qi4 G_u186q v).ev) v:=qaa _
def qBN (G_u186q:qce):qbz:=LE (τ:=qdl) (hD qA7) (qt4 G_u186q) q0Q
theorem q0j (G_u186q:qce) (hG:qtb G_u186q):Go.Eng.Told IP (qae F96 0).1 (qae F96 0).2 (qBN G_u186q):=qar (inferInstance:Inhabited qdl) (hs:=qA7) (st:=qi4 G_u186q) (L:=[]) (qnb G_u186q hG) (qab (l:=[]) (by kernel_rfl) trivial) (qsm G_u186q) (fun v=>by kernel_rfl) (fun v=>by kernel_rfl)
def quN (G_u186q:qce) (x0 x1:Int) (x2:List UInt8) (x3:List AV):DT qyo:=
 .bi (pj 0 (qt4 G_u186q (0,0,x0,x1,x2,x3))) (fun y0=>
 .at (IntKind.i64.wrap (y0.1 + 1)))
 (.no)
def qeo:Nat -> qce
 | 0=>fun _ _ _ _=>none
 | n + 1=>fun x0 x1 x2 x3=>(quN ((qeo n)) x0 x1 x2 x3).ev
def qn8 (x0 x1:Int) (x2:List UInt8) (x3:List AV):Option qyo:=qka fun n=>(qeo n) x0 x1 x2 x3
theorem qrr:∀ n,qtb ((qeo n))
 | 0=>(fun v y h=>nomatch h)
 | n + 1=>have hG:=qrr n
 qag (F:=F96) (L:=[(1009600,qBN ((qeo n)))]) (t:=(k4 (quN ((qeo n))))) (qnb ((qeo n)) hG) (qab (l:=[qae F96 0]) (by kernel_rfl) ⟨qas (by kernel_rfl) (q0j ((qeo n)) hG),trivial⟩) (by kernel_rfl) (fun v=>by kernel_rfl) (fun v=>rfl)
theorem qYD:FH IP 96 qpq qpG (k4 qn8):=qbK (p:=qpq) (rs:=qpG) (s:=fun n=>(k4 ((qeo n)))) fun n=>(qrr n)
def zah:Tab:=(96,FE qpq qpG (k4 qn8)) :: q6Q
theorem qHK:qai IP zah:=⟨qaj qYD,qHJ⟩
abbrev qT9:Type:=Int
def qWp:PArgs:=⟨[.int .i64],[]⟩
def qXb:List PRes:=[⟨false,.int .i64,[]⟩]
def qvs (x0:Int):DT qT9:=
 .bi (br (decide (x0 < 1)) (some true) (some (decide (x0 > 19)))) (fun y0=>
 .br (y0)
 (.at (-1))
 (.br (decide (x0 <= 4))
 (.at (0))
 (.bi (br (x0 == 9) (some true) (some (x0 == 16))) (fun y1=>
 .br (y1)
 (.at (1))
 (.br (x0 == 19) (.at (3)) (.at (2))))
 (.no))))
 (.no)
def qwo (x0:Int):Option qT9:=qay (qvs x0).ev
theorem qJR (x0):qwo x0 = (qvs x0).ev:=qaa _
theorem q2T:FH IP 123 qWp qXb qwo:=fh q5W qvs qHK
def zai:Tab:=(123,FE qWp qXb qwo) :: zah
theorem qHL:qai IP zai:=⟨qaj q2T,qHK⟩
abbrev qGU:Type:=Int
def qM3:PArgs:=⟨[.int .i64],[]⟩
def qOK:List PRes:=[⟨false,.int .i64,[]⟩]
def qmI (x0:Int):DT qGU:=
 .br (x0 == 1)
 (.at (9223372036854775807))
 (.br (x0 == 2)
 (.at (1000000000000))
 (.br (x0 == 3) (.at (1000000)) (.at (0))))
def qoi (x0:Int):Option qGU:=qay (qmI x0).ev
theorem qD5 (x0):qoi x0 = (qmI x0).ev:=qaa _
theorem qYZ:FH IP 124 qM3 qOK qoi:=fh q5X qmI qHL
def q6R:Tab:=(124,FE qM3 qOK qoi) :: zai
theorem qHM:qai IP q6R:=⟨qaj qYZ,qHL⟩
abbrev qyq:Type:=Bool
def qpt:PArgs:=⟨[.agg [.int .i64,.int .i64,.str,.view 4]],[]⟩
def qpJ:List PRes:=[⟨false,.bool,[]⟩]
abbrev qcg:Type:=Int -> Int -> (List UInt8) -> (List AV) -> Option qyq
def qte (G_u190q:qcg):Prop:=FH IP 97 qpt qpJ (k4 G_u190q)
def qQ2 (G_u190q:qcg):Tab:=(97,FE qpt qpJ (k4 G_u190q)) :: q6R
theorem qne (G_u190q:qcg) (hG:qte G_u190q):qai IP (qQ2 G_u190q):=⟨qaj (hG),qHM⟩
abbrev qdn:Type:=Int × Int × Int × List UInt8 × List AV
def qBb:List PSt:=[⟨[(1009700,.junk),(1,.ref 0 0 0),(3,.int .i64)],[(0,.box [.int .i64,.int .i64,.str,.view 4] false)],1,0⟩]
def qP1 (x0 x1 x2:Int) (x3:List UInt8) (x4:List AV):X × St:=(.ret,⟨[(2,.bool false)],[],0,0⟩)
def qP2 (x0 x1 x2:Int) (x3:List UInt8) (x4:List AV):X × St:=(.exit 0,⟨[(2,.junk)],[],0,0⟩)
def q0U:List (qdn -> X × St):=[(k5 qP1),(k5 qP2)]
def qkt (G_u190q:qcg) (x0 x1 x2:Int) (x3:List UInt8) (x4:List AV):DT (Rd qdn):=
 .br (decide (x0 < (x4.length:Int)))
 (.br (qaD [.int .i64,.int .i64,.str,.slice 4] x4 x0)
 (.bi (G_u190q (intOf (cellAt x4 x0 0)) (intOf (cellAt x4 x0 1)) (strOf (cellAt x4 x0 2)) (qaq (cellAt x4 x0 3))) (fun y0=>
 .br (!y0) (.at (.done 0)) (.at (.next ((IntKind.i64.wrap (x0 + 1),x1,x2,x3,x4)))))
 (.no))
 (.no))
 (.at (.done 1))
def qi5 (G_u190q:qcg):qdn -> DT (Rd qdn):=(fun v=>qkt G_u190q v.1 v.2.1 v.2.2.1 v.2.2.2.1 v.2.2.2.2)
def qif (G_u190q:qcg) (v:qdn):Option (Nat × qdn):=qay (qap (fun v=>(qi5 G_u190q v).ev) v)
theorem qsn (G_u190q v):qif G_u190q v = qap (fun v=>(qi5 G_u190q v).ev) v:=qaa _
def qBR (G_u190q:qcg):qbz:=LE (τ:=qdn) (hD qBb) (qif G_u190q) q0U
theorem q0n (G_u190q:qcg) (hG:qte G_u190q):Go.Eng.Told IP (qae F97 0).1 (qae F97 0).2 (qBR G_u190q):=qar (inferInstance:Inhabited qdn) (hs:=qBb) (st:=qi5 G_u190q) (L:=[]) (qne G_u190q hG) (qab (l:=[]) (by kernel_rfl) trivial) (qsn G_u190q) (fun v=>by kernel_rfl) (fun v=>by kernel_rfl)
def quQ (G_u190q:qcg) (x0 x1:Int) (x2:List UInt8) (x3:List AV):DT qyq:=
 .bi (qwo x0) (fun y0=>
 .br ((x3.length:Int) != y0)
 (.at (false))
 (.br (decide (x1 < 0))
 (.at (false))
 (.bi (qoi x0) (fun y1=>
 .br (decide (x1 > y1))
 (.at (false))
 (.br (x0 != 4)
 (.br (!x2 == [])
 (.at (false))
 (.bi (pj 0 (qif G_u190q (0,x0,x1,x2,x3))) (fun y2=>
 .at (false))
 (.bi (pj 1 (qif G_u190q (0,x0,x1,x2,x3))) (fun y2=>
 .at (true))
 (.no))))
 (.bi (pj 0 (qif G_u190q (0,x0,x1,x2,x3))) (fun y2=>
 .at (false))
 (.bi (pj 1 (qif G_u190q (0,x0,x1,x2,x3))) (fun y2=>
 .at (true))
 (.no)))))
 (.no))))
 (.no)
def qdB:Nat -> qcg
 | 0=>fun _ _ _ _=>none
 | n + 1=>fun x0 x1 x2 x3=>(quQ ((qdB n)) x0 x1 x2 x3).ev
def qtK (x0 x1:Int) (x2:List UInt8) (x3:List AV):Option qyq:=qka fun n=>(qdB n) x0 x1 x2 x3
theorem qru:∀ n,qte ((qdB n))
 | 0=>(fun v y h=>nomatch h)
 | n + 1=>have hG:=qru n
 qag (F:=F97) (L:=[(1009700,qBR ((qdB n)))]) (t:=(k4 (quQ ((qdB n))))) (qne ((qdB n)) hG) (qab (l:=[qae F97 0]) (by kernel_rfl) ⟨qas (by kernel_rfl) (q0n ((qdB n)) hG),trivial⟩) (by kernel_rfl) (fun v=>by kernel_rfl) (fun v=>rfl)
theorem qYH:FH IP 97 qpt qpJ (k4 qtK):=qbK (p:=qpt) (rs:=qpJ) (s:=fun n=>(k4 ((qdB n)))) fun n=>(qru n)
def zaj:Tab:=(97,FE qpt qpJ (k4 qtK)) :: q6R
theorem qyA:qai IP zaj:=⟨qaj qYH,qHM⟩
abbrev qfk:Type:=List AV × List UInt8 × Int
def qKA:List PSt:=[⟨[(1012500,.junk),(0,.view 1),(1,.str),(5,.int .i64)],[],0,0⟩]
def qTg (x0:List AV) (x1:List UInt8) (x2:Int):X × St:=(.exit 0,⟨[(0,.view 1 x0),(1,.str x1),(5,.int .i64 x2)],[],0,0⟩)
def q49:List (qfk -> X × St):=[(k3 qTg)]
def qjh (x0:List AV) (x1:List UInt8) (x2:Int):DT (Rd qfk):=
 .bi (br (decide (x2 < (x0.length:Int))) (br (qaD [.str] x0 x2) (some (qbL (strOf (cellAt x0 x2 0)) x1)) none) (some false)) (fun y0=>
 .br (y0) (.at (.next ((x0,x1,IntKind.i64.wrap (x2 + 1))))) (.at (.done 0)))
 (.no)
def qkN:qfk -> DT (Rd qfk):=(fun v=>qjh v.1 v.2.1 v.2.2)
def qBE (v:qfk):Option (Nat × qfk):=qay (qap (fun v=>(qkN v).ev) v)
theorem qxa (v):qBE v = qap (fun v=>(qkN v).ev) v:=qaa _
def qLk:qbz:=LE (τ:=qfk) (hD qKA) (qBE) q49
theorem q4v:Go.Eng.Told IP (qae q1j 0).1 (qae q1j 0).2 (qLk):=lp (inferInstance:Inhabited qfk) (hs:=qKA) qkN qyA qxa
abbrev qGg:Type:=List AV
def qMo:PArgs:=⟨[.view 1,.str],[]⟩
def qN4:List PRes:=[⟨false,.view 1,[]⟩]
def ql6 (x0:List AV) (x1:List UInt8):DT qGg:=
 .bi (pj 0 (qBE (x0,x1,0))) (fun y0=>
 .bi (br (decide (y0.2.2 < (y0.1.length:Int))) (br (qaD [.str] y0.1 y0.2.2) (some (strOf (cellAt y0.1 y0.2.2 0) == y0.2.1)) none) (some false)) (fun y1=>
 .br (y1)
 (.at (y0.1))
 (.br (leB y0.2.2 y0.1.length && true)
 (.br (decide ((List.take y0.2.2.toNat y0.1).length = 0) && decide (1 = 1))
 (.br (leB y0.2.2 y0.1.length)
 (.br (decide ((List.drop y0.2.2.toNat y0.1).length = 0) && decide (1 = 1))
 (.at ([AV.str y0.2.1]))
 (.br (decide ((List.drop y0.2.2.toNat y0.1).length ≠ 0) && room (1 + (List.drop y0.2.2.toNat y0.1).length) 16)
 (.at (AV.str y0.2.1 :: List.drop y0.2.2.toNat y0.1))
 (.no)))
 (.no))
 (.br (decide ((List.take y0.2.2.toNat y0.1).length ≠ 0) && room (List.take y0.2.2.toNat y0.1).length 16)
 (.br (room ((List.take y0.2.2.toNat y0.1).length + 1) 16)
 (.br (leB y0.2.2 y0.1.length)
 (.br (decide ((List.drop y0.2.2.toNat y0.1).length = 0) && decide (1 = 1))
 (.at (List.take y0.2.2.toNat y0.1 ++ [AV.str y0.2.1]))
 (.br (decide ((List.drop y0.2.2.toNat y0.1).length ≠ 0) && room ((List.take y0.2.2.toNat y0.1 ++ [AV.str y0.2.1]).length + (List.drop y0.2.2.toNat y0.1).length) 16)
 (.at (List.take y0.2.2.toNat y0.1 ++ [AV.str y0.2.1] ++ List.drop y0.2.2.toNat y0.1))
 (.no)))
 (.no))
 (.no))
 (.no)))
 (.no)))
 (.no))
 (.no)
def qgk (x0:List AV) (x1:List UInt8):Option qGg:=qay (ql6 x0 x1).ev
theorem qDt (x0 x1):qgk x0 x1 = (ql6 x0 x1).ev:=qaa _
theorem qX8:FH IP 125 qMo qN4 (k2 qgk):=qag (F:=q1j) (L:=[(1012500,qLk)]) (t:=(k2 ql6)) qyA (qab (l:=[qae q1j 0]) (by kernel_rfl) ⟨qas (by kernel_rfl) q4v,trivial⟩) (by kernel_rfl) (fun v=>by kernel_rfl) (fun _=>qaa _)
def q6S:Tab:=(125,FE qMo qN4 (k2 qgk)) :: zaj
theorem qyB:qai IP q6S:=⟨qaj qX8,qyA⟩
abbrev qbQ:Type:=(Int × List AV × Int × Int × Int × List UInt8 × List AV × List AV) ⊕ (Int × List AV × Int × Int × Int × List UInt8 × List AV) ⊕ (List AV × Int × List AV × Int × Int × Int × List UInt8 × List AV)
def qA9:List PSt:=[⟨[(1009801,.junk),(1,.ref 0 0 0),(3,.own 1 0),(4,.int .i64),(5,.view 1),(6,.int .i64)],[(0,.box [.int .i64,.int .i64,.str,.view 4] false),(1,.arr 1 false)],2,0⟩,⟨[(1009801,.junk),(1,.ref 0 0 0),(3,.nils 1),(4,.int .i64),(5,.view 1),(6,.int .i64)],[(0,.box [.int .i64,.int .i64,.str,.view 4] false)],1,0⟩,⟨[(1009801,.junk),(1,.ref 0 0 0),(3,.view 1),(4,.int .i64),(5,.view 1),(6,.int .i64)],[(0,.box [.int .i64,.int .i64,.str,.view 4] false)],1,0⟩]
def qPX (x0:Int) (x1:List AV) (x2 x3 x4:Int) (x5:List UInt8) (x6 x7:List AV):X × St:=(.exit 2,
 ⟨[(1,.ref 0 0 0),(3,.own 1 0 none),(4,.int .i64 x0)],[(0,.box [.int .i64 x3,.int .i64 x4,.str x5,.view 4 x6] false),(1,.arr 1 x7 false)],2,0⟩)
def qPY (x0:Int) (x1:List AV) (x2 x3 x4:Int) (x5:List UInt8) (x6:List AV):X × St:=(.exit 2,
 ⟨[(1,.ref 0 0 0),(3,.nils ⟨1,.nil⟩),(4,.int .i64 x0)],[(0,.box [.int .i64 x3,.int .i64 x4,.str x5,.view 4 x6] false)],1,0⟩)
def qPZ (x0:List AV) (x1:Int) (x2:List AV) (x3 x4 x5:Int) (x6:List UInt8) (x7:List AV):X × St:=(.exit 2,
 ⟨[(1,.ref 0 0 0),(3,.view 1 x0),(4,.int .i64 x1)],[(0,.box [.int .i64 x4,.int .i64 x5,.str x6,.view 4 x7] false)],1,0⟩)
def q0S:List (qbQ -> X × St):=[fun w=>(k8 qPX) ((sl w)),fun w=>(k7 qPY) ((sl (sr w))),fun w=>(k8 qPZ) ((sr (sr w)))]
def qkq (x0:Int) (x1:List AV) (x2 x3 x4:Int) (x5:List UInt8) (x6 x7:List AV):DT (Rd qbQ):=
 .br (decide (x2 < (x1.length:Int)))
 (.br (qaD [.str] x1 x2)
 (.bi (qgk x7 (strOf (cellAt x1 x2 0))) (fun y0=>
 .at (.next ((.inr (.inr (y0,x0,x1,IntKind.i64.wrap (x2 + 1),x3,x4,x5,x6))))))
 (.no))
 (.no))
 (.at (.done 0))
def qkr (x0:Int) (x1:List AV) (x2 x3 x4:Int) (x5:List UInt8) (x6:List AV):DT (Rd qbQ):=
 .br (decide (x2 < (x1.length:Int)))
 (.br (qaD [.str] x1 x2)
 (.bi (qgk [] (strOf (cellAt x1 x2 0))) (fun y0=>
 .at (.next ((.inr (.inr (y0,x0,x1,IntKind.i64.wrap (x2 + 1),x3,x4,x5,x6))))))
 (.no))
 (.no))
 (.at (.done 1))
def qks (x0:List AV) (x1:Int) (x2:List AV) (x3 x4 x5:Int) (x6:List UInt8) (x7:List AV):DT (Rd qbQ):=
 .br (decide (x3 < (x2.length:Int)))
 (.br (qaD [.str] x2 x3)
 (.bi (qgk x0 (strOf (cellAt x2 x3 0))) (fun y0=>
 .at (.next ((.inr (.inr (y0,x1,x2,IntKind.i64.wrap (x3 + 1),x4,x5,x6,x7))))))
 (.no))
 (.no))
 (.at (.done 2))
def qcP:qbQ -> DT (Rd qbQ):=(Sum.elim (fun v=>qkq v.1 v.2.1 v.2.2.1 v.2.2.2.1 v.2.2.2.2.1 v.2.2.2.2.2.1 v.2.2.2.2.2.2.1 v.2.2.2.2.2.2.2) (Sum.elim (fun v=>qkr v.1 v.2.1 v.2.2.1 v.2.2.2.1 v.2.2.2.2.1 v.2.2.2.2.2.1 v.2.2.2.2.2.2) (fun v=>qks v.1 v.2.1 v.2.2.1 v.2.2.2.1 v.2.2.2.2.1 v.2.2.2.2.2.1 v.2.2.2.2.2.2.1 v.2.2.2.2.2.2.2)))
def qcE (v:qbQ):Option (Nat × qbQ):=qay (qap (fun v=>(qcP v).ev) v)
theorem qj7 (v):qcE v = qap (fun v=>(qcP v).ev) v:=qaa _
def qBP:qbz:=LE (τ:=qbQ) (hD qA9) (qcE) q0S
theorem q0l:Go.Eng.Told IP (qae F98 1).1 (qae F98 1).2 (qBP):=qar (inferInstance:Inhabited qbQ) (hs:=qA9) (st:=qcP) (L:=[]) qyB (qab (l:=[]) (by kernel_rfl) trivial) (qj7) (fun v=>match v with | (.inl v)=>by kernel_rfl | (.inr (.inl v))=>by kernel_rfl | (.inr (.inr v))=>by kernel_rfl) (fun v=>match v with | (.inl v)=>by kernel_rfl | (.inr (.inl v))=>by kernel_rfl | (.inr (.inr v))=>by kernel_rfl)
abbrev qm7:Type:=List AV
def qpr:PArgs:=⟨[.agg [.int .i64,.int .i64,.str,.view 4]],[]⟩
def qpH:List PRes:=[⟨false,.view 1,[]⟩]
abbrev qbF:Type:=Int -> Int -> (List UInt8) -> (List AV) -> Option qm7
def qtc (G_u188q:qbF):Prop:=FH IP 98 qpr qpH (k4 G_u188q)
def qQ0 (G_u188q:qbF):Tab:=(98,FE qpr qpH (k4 G_u188q)) :: q6S
theorem qnc (G_u188q:qbF) (hG:qtc G_u188q):qai IP (qQ0 G_u188q):=⟨qaj (hG),qyB⟩
end
end Go.Proofs.H15p

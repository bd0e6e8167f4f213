/- Functions over plain data. Printed by a program of mine. -/
import Derived.Test.YthljpgljbpdmjaaGreatDoorD15p_10
import Derived.KernelRfl
set_option linter.unusedVariables false
set_option linter.unusedSimpArgs false
set_option linter.unnecessarySimpa false
namespace Go.Proofs.H15p
open Go Go.Eng
set_option maxRecDepth 100000
noncomputable section
abbrev qep:Type:=Int × List UInt8 × List UInt8 × List UInt8 × Int × Int × Int × Int × List AV × Bool × Int × Int × Bool × List AV × Bool × Int × Int × Bool × List AV × List AV × Int × Int × Int × Int × Int × Int × Int
def qKc:List PSt:=[⟨[(1000700,.junk),(2,.ref 0 0 0),(3,.ref 1 0 0),(7,.int .i64)],[(0,.box [.str,.str,.str,.int .i64,.int .i64,.int .i64,.int .i64,.view 2,.bool,.int .i64,.int .i64,.bool,.view 2,.bool,.int .i64,.int .i64,.bool,.view 10,.view 6] false),(1,.box [.int .i64,.int .i64,.int .i64,.int .i64,.int .i64,.int .i64,.int .i64] false)],2,0⟩]
def qSt (x0:Int) (x1 x2 x3:List UInt8) (x4 x5:Int) (x6 x7:Int) (x8:List AV) (x9:Bool) (x10 x11:Int) (x12:Bool) (x13:List AV) (x14:Bool) (x15 x16:Int) (x17:Bool) (x18 x19:List AV) (x20 x21:Int) (x22 x23:Int) (x24 x25 x26:Int):X × St:=(.ret,
 ⟨[(2,.ref 0 0 0),(3,.ref 1 0 0),(4,.bool false)],[(0,
 .box
 [.str x1,.str x2,.str x3,.int .i64 x4,.int .i64 x5,.int .i64 x6,.int .i64 x7,.view 2 x8,.bool x9,
 .int .i64 x10,.int .i64 x11,.bool x12,.view 2 x13,.bool x14,.int .i64 x15,.int .i64 x16,.bool x17,.view 10 x18,
 .view 6 x19]
 false),
 (1,
 .box
 [.int .i64 x20,.int .i64 x21,.int .i64 x22,.int .i64 x23,.int .i64 x24,.int .i64 x25,.int .i64 x26]
 false)],2,0⟩)
def qSu (x0:Int) (x1 x2 x3:List UInt8) (x4 x5:Int) (x6 x7:Int) (x8:List AV) (x9:Bool) (x10 x11:Int) (x12:Bool) (x13:List AV) (x14:Bool) (x15 x16:Int) (x17:Bool) (x18 x19:List AV) (x20 x21:Int) (x22 x23:Int) (x24 x25 x26:Int):X × St:=(.exit 0,
 ⟨[(2,.ref 0 0 0),(3,.ref 1 0 0),(4,.junk)],[(0,
 .box
 [.str x1,.str x2,.str x3,.int .i64 x4,.int .i64 x5,.int .i64 x6,.int .i64 x7,.view 2 x8,.bool x9,
 .int .i64 x10,.int .i64 x11,.bool x12,.view 2 x13,.bool x14,.int .i64 x15,.int .i64 x16,.bool x17,.view 10 x18,
 .view 6 x19]
 false),
 (1,
 .box
 [.int .i64 x20,.int .i64 x21,.int .i64 x22,.int .i64 x23,.int .i64 x24,.int .i64 x25,.int .i64 x26]
 false)],2,0⟩)
def q4L:List (qep -> X × St):=[(k27 qSt),(k27 qSu)]
def qqc (x0:Int) (x1 x2 x3:List UInt8) (x4 x5:Int) (x6 x7:Int) (x8:List AV) (x9:Bool) (x10 x11:Int) (x12:Bool) (x13:List AV) (x14:Bool) (x15 x16:Int) (x17:Bool) (x18 x19:List AV) (x20 x21:Int) (x22 x23:Int) (x24 x25 x26:Int):DT (Rd qep):=
 .br (decide (x0 < (x18.length:Int)))
 (.br (qaD [.str,.int .i64,.int .i64,.int .i64,.str,.slice 4,.int .i64,.int .i64,.str,.slice 4] x18 x0)
 (.bi (qhY (intOf (cellAt x18 x0 2)) (intOf (cellAt x18 x0 3)) (strOf (cellAt x18 x0 4)) (qaq (cellAt x18 x0 5)) x20 x21 x22 x23 x24 x25 x26 5) (fun y0=>
 .br (!y0)
 (.at (.done 0))
 (.br (qaD [.str,.int .i64,.int .i64,.int .i64,.str,.slice 4,.int .i64,.int .i64,.str,.slice 4] x18 x0)
 (.bi (qhY (intOf (cellAt x18 x0 6)) (intOf (cellAt x18 x0 7)) (strOf (cellAt x18 x0 8)) (qaq (cellAt x18 x0 9)) x20 x21 x22 x23 x24 x25 x26 2) (fun y1=>
 .br (!y1)
 (.at (.done 0))
 (.at (.next ((IntKind.i64.wrap (x0 + 1),x1,x2,x3,x4,x5,x6,x7,x8,x9,x10,x11,x12,x13,x14,x15,x16,x17,x18,x19,x20,x21,x22,x23,x24,x25,x26)))))
 (.no))
 (.no)))
 (.no))
 (.no))
 (.at (.done 1))
def qqb:qep -> DT (Rd qep):=(fun v=>qqc v.1 v.2.1 v.2.2.1 v.2.2.2.1 v.2.2.2.2.1 v.2.2.2.2.2.1 v.2.2.2.2.2.2.1 v.2.2.2.2.2.2.2.1 v.2.2.2.2.2.2.2.2.1 v.2.2.2.2.2.2.2.2.2.1 v.2.2.2.2.2.2.2.2.2.2.1 v.2.2.2.2.2.2.2.2.2.2.2.1 v.2.2.2.2.2.2.2.2.2.2.2.2.1 v.2.2.2.2.2.2.2.2.2.2.2.2.2.1 v.2.2.2.2.2.2.2.2.2.2.2.2.2.2.1 v.2.2.2.2.2.2.2.2.2.2.2.2.2.2.2.1 v.2.2.2.2.2.2.2.2.2.2.2.2.2.2.2.2.1 v.2.2.2.2.2.2.2.2.2.2.2.2.2.2.2.2.2.1 v.2.2.2.2.2.2.2.2.2.2.2.2.2.2.2.2.2.2.1 v.2.2.2.2.2.2.2.2.2.2.2.2.2.2.2.2.2.2.2.1 v.2.2.2.2.2.2.2.2.2.2.2.2.2.2.2.2.2.2.2.2.1 v.2.2.2.2.2.2.2.2.2.2.2.2.2.2.2.2.2.2.2.2.2.1 v.2.2.2.2.2.2.2.2.2.2.2.2.2.2.2.2.2.2.2.2.2.2.1 v.2.2.2.2.2.2.2.2.2.2.2.2.2.2.2.2.2.2.2.2.2.2.2.1 v.2.2.2.2.2.2.2.2.2.2.2.2.2.2.2.2.2.2.2.2.2.2.2.2.1 v.2.2.2.2.2.2.2.2.2.2.2.2.2.2.2.2.2.2.2.2.2.2.2.2.2.1 v.2.2.2.2.2.2.2.2.2.2.2.2.2.2.2.2.2.2.2.2.2.2.2.2.2.2)
def qsA (v:qep):Option (Nat × qep):=qay (qap (fun v=>(qqb v).ev) v)
theorem qwG (v):qsA v = qap (fun v=>(qqb v).ev) v:=qaa _
def qKW:qbz:=LE (τ:=qep) (hD qKc) (qsA) q4L
theorem q37:Go.Eng.Told IP (qae F7 0).1 (qae F7 0).2 (qKW):=lp (inferInstance:Inhabited qep) (hs:=qKc) qqb qtu qwG
abbrev qe3:Type:=Int × List UInt8 × List UInt8 × List UInt8 × Int × Int × Int × Int × List AV × Bool × Int × Int × Bool × List AV × Bool × Int × Int × Bool × List AV × List AV × Int × Int × Int × Int × Int × Int × Int
def qKd:List PSt:=[⟨[(1000701,.junk),(2,.ref 0 0 0),(3,.ref 1 0 0),(8,.int .i64)],[(0,.box [.str,.str,.str,.int .i64,.int .i64,.int .i64,.int .i64,.view 2,.bool,.int .i64,.int .i64,.bool,.view 2,.bool,.int .i64,.int .i64,.bool,.view 10,.view 6] false),(1,.box [.int .i64,.int .i64,.int .i64,.int .i64,.int .i64,.int .i64,.int .i64] false)],2,0⟩]
def qSv (x0:Int) (x1 x2 x3:List UInt8) (x4 x5:Int) (x6 x7:Int) (x8:List AV) (x9:Bool) (x10 x11:Int) (x12:Bool) (x13:List AV) (x14:Bool) (x15 x16:Int) (x17:Bool) (x18 x19:List AV) (x20 x21:Int) (x22 x23:Int) (x24 x25 x26:Int):X × St:=(.ret,⟨[(4,.bool false)],[],0,0⟩)
def qSw (x0:Int) (x1 x2 x3:List UInt8) (x4 x5:Int) (x6 x7:Int) (x8:List AV) (x9:Bool) (x10 x11:Int) (x12:Bool) (x13:List AV) (x14:Bool) (x15 x16:Int) (x17:Bool) (x18 x19:List AV) (x20 x21:Int) (x22 x23:Int) (x24 x25 x26:Int):X × St:=(.exit 2,⟨[(4,.junk)],[],0,0⟩)
def q4M:List (qe3 -> X × St):=[(k27 qSv),(k27 qSw)]
def qqe (x0:Int) (x1 x2 x3:List UInt8) (x4 x5:Int) (x6 x7:Int) (x8:List AV) (x9:Bool) (x10 x11:Int) (x12:Bool) (x13:List AV) (x14:Bool) (x15 x16:Int) (x17:Bool) (x18 x19:List AV) (x20 x21:Int) (x22 x23:Int) (x24 x25 x26:Int):DT (Rd qe3):=
 .br (decide (x0 < (x19.length:Int)))
 (.br (qaD [.str,.int .i64,.int .i64,.int .i64,.str,.slice 4] x19 x0)
 (.bi (qhY (intOf (cellAt x19 x0 2)) (intOf (cellAt x19 x0 3)) (strOf (cellAt x19 x0 4)) (qaq (cellAt x19 x0 5)) x20 x21 x22 x23 x24 x25 x26 2) (fun y0=>
 .br (!y0)
 (.at (.done 0))
 (.at (.next ((IntKind.i64.wrap (x0 + 1),x1,x2,x3,x4,x5,x6,x7,x8,x9,x10,x11,x12,x13,x14,x15,x16,x17,x18,x19,x20,x21,x22,x23,x24,x25,x26)))))
 (.no))
 (.no))
 (.at (.done 1))
def qqd:qe3 -> DT (Rd qe3):=(fun v=>qqe v.1 v.2.1 v.2.2.1 v.2.2.2.1 v.2.2.2.2.1 v.2.2.2.2.2.1 v.2.2.2.2.2.2.1 v.2.2.2.2.2.2.2.1 v.2.2.2.2.2.2.2.2.1 v.2.2.2.2.2.2.2.2.2.1 v.2.2.2.2.2.2.2.2.2.2.1 v.2.2.2.2.2.2.2.2.2.2.2.1 v.2.2.2.2.2.2.2.2.2.2.2.2.1 v.2.2.2.2.2.2.2.2.2.2.2.2.2.1 v.2.2.2.2.2.2.2.2.2.2.2.2.2.2.1 v.2.2.2.2.2.2.2.2.2.2.2.2.2.2.2.1 v.2.2.2.2.2.2.2.2.2.2.2.2.2.2.2.2.1 v.2.2.2.2.2.2.2.2.2.2.2.2.2.2.2.2.2.1 v.2.2.2.2.2.2.2.2.2.2.2.2.2.2.2.2.2.2.1 v.2.2.2.2.2.2.2.2.2.2.2.2.2.2.2.2.2.2.2.1 v.2.2.2.2.2.2.2.2.2.2.2.2.2.2.2.2.2.2.2.2.1 v.2.2.2.2.2.2.2.2.2.2.2.2.2.2.2.2.2.2.2.2.2.1 v.2.2.2.2.2.2.2.2.2.2.2.2.2.2.2.2.2.2.2.2.2.2.1 v.2.2.2.2.2.2.2.2.2.2.2.2.2.2.2.2.2.2.2.2.2.2.2.1 v.2.2.2.2.2.2.2.2.2.2.2.2.2.2.2.2.2.2.2.2.2.2.2.2.1 v.2.2.2.2.2.2.2.2.2.2.2.2.2.2.2.2.2.2.2.2.2.2.2.2.2.1 v.2.2.2.2.2.2.2.2.2.2.2.2.2.2.2.2.2.2.2.2.2.2.2.2.2.2)
def qsB (v:qe3):Option (Nat × qe3):=qay (qap (fun v=>(qqd v).ev) v)
theorem qwH (v):qsB v = qap (fun v=>(qqd v).ev) v:=qaa _
def qKX:qbz:=LE (τ:=qe3) (hD qKd) (qsB) q4M
theorem q38:Go.Eng.Told IP (qae F7 1).1 (qae F7 1).2 (qKX):=lp (inferInstance:Inhabited qe3) (hs:=qKd) qqd qtu qwH
abbrev qTG:Type:=Bool
def qNu:PArgs:=⟨[.agg [.str,.str,.str,.int .i64,.int .i64,.int .i64,.int .i64,.view 2,.bool,.int .i64,.int .i64,.bool,.view 2,.bool,.int .i64,.int .i64,.bool,.view 10,.view 6],.agg [.int .i64,.int .i64,.int .i64,.int .i64,.int .i64,.int .i64,.int .i64]],[]⟩
def qWH:List PRes:=[⟨false,.bool,[]⟩]
def qu0 (x0 x1 x2:List UInt8) (x3 x4:Int) (x5 x6:Int) (x7:List AV) (x8:Bool) (x9 x10:Int) (x11:Bool) (x12:List AV) (x13:Bool) (x14 x15:Int) (x16:Bool) (x17 x18:List AV) (x19 x20:Int) (x21 x22:Int) (x23 x24 x25:Int):DT qTG:=
 .bi (qor x0 x1 x2 x3 x4 x5 x6 x7 x8 x9 x10 x11 x12 x13 x14 x15 x16 x17 x18) (fun y0=>
 .br (!y0)
 (.bi (qgn) (fun y1=>
 .at (y1))
 (.no))
 (.bi (qhw x0 x1 x2 x3 x4 x5 x6 x7 x8 x9 x10 x11 x12 x13 x14 x15 x16 x17 x18 [AV.agg [AV.str x1,.int .i64 0]] [AV.agg [AV.str x2,AV.view 1 [],AV.view 1 []]]) (fun y1=>
 .br (y1 != 0)
 (.bi (qgn) (fun y2=>
 .at (y2))
 (.no))
 (.bi (qjQ) (fun y2=>
 .bi (qhW x19 x20 x21 x22 x23 x24 x25) (fun y3=>
 .bi (qjM y2 y3) (fun y4=>
 .br (!y4)
 (.bi (qgn) (fun y5=>
 .at (y5))
 (.no))
 (.bi (pj 0 (qsA (0,x0,x1,x2,x3,x4,x5,x6,x7,x8,x9,x10,x11,x12,x13,x14,x15,x16,x17,x18,x19,x20,x21,x22,x23,x24,x25))) (fun y5=>
 .at (false))
 (.bi (pj 1 (qsA (0,x0,x1,x2,x3,x4,x5,x6,x7,x8,x9,x10,x11,x12,x13,x14,x15,x16,x17,x18,x19,x20,x21,x22,x23,x24,x25))) (fun y5=>
 .bi (pj 0
 (qsB
 (0,y5.2.1,y5.2.2.1,y5.2.2.2.1,y5.2.2.2.2.1,y5.2.2.2.2.2.1,y5.2.2.2.2.2.2.1,y5.2.2.2.2.2.2.2.1,
 y5.2.2.2.2.2.2.2.2.1,y5.2.2.2.2.2.2.2.2.2.1,y5.2.2.2.2.2.2.2.2.2.2.1,
 y5.2.2.2.2.2.2.2.2.2.2.2.1,y5.2.2.2.2.2.2.2.2.2.2.2.2.1,y5.2.2.2.2.2.2.2.2.2.2.2.2.2.1,
 y5.2.2.2.2.2.2.2.2.2.2.2.2.2.2.1,y5.2.2.2.2.2.2.2.2.2.2.2.2.2.2.2.1,
 y5.2.2.2.2.2.2.2.2.2.2.2.2.2.2.2.2.1,y5.2.2.2.2.2.2.2.2.2.2.2.2.2.2.2.2.2.1,
 y5.2.2.2.2.2.2.2.2.2.2.2.2.2.2.2.2.2.2.1,y5.2.2.2.2.2.2.2.2.2.2.2.2.2.2.2.2.2.2.2.1,
 y5.2.2.2.2.2.2.2.2.2.2.2.2.2.2.2.2.2.2.2.2.1,
 y5.2.2.2.2.2.2.2.2.2.2.2.2.2.2.2.2.2.2.2.2.2.1,
 y5.2.2.2.2.2.2.2.2.2.2.2.2.2.2.2.2.2.2.2.2.2.2.1,
 y5.2.2.2.2.2.2.2.2.2.2.2.2.2.2.2.2.2.2.2.2.2.2.2.1,
 y5.2.2.2.2.2.2.2.2.2.2.2.2.2.2.2.2.2.2.2.2.2.2.2.2.1,
 y5.2.2.2.2.2.2.2.2.2.2.2.2.2.2.2.2.2.2.2.2.2.2.2.2.2.1,
 y5.2.2.2.2.2.2.2.2.2.2.2.2.2.2.2.2.2.2.2.2.2.2.2.2.2.2))) (fun y6=>
 .at (false))
 (.bi (pj 1
 (qsB
 (0,y5.2.1,y5.2.2.1,y5.2.2.2.1,y5.2.2.2.2.1,y5.2.2.2.2.2.1,y5.2.2.2.2.2.2.1,y5.2.2.2.2.2.2.2.1,
 y5.2.2.2.2.2.2.2.2.1,y5.2.2.2.2.2.2.2.2.2.1,y5.2.2.2.2.2.2.2.2.2.2.1,
 y5.2.2.2.2.2.2.2.2.2.2.2.1,y5.2.2.2.2.2.2.2.2.2.2.2.2.1,y5.2.2.2.2.2.2.2.2.2.2.2.2.2.1,
 y5.2.2.2.2.2.2.2.2.2.2.2.2.2.2.1,y5.2.2.2.2.2.2.2.2.2.2.2.2.2.2.2.1,
 y5.2.2.2.2.2.2.2.2.2.2.2.2.2.2.2.2.1,y5.2.2.2.2.2.2.2.2.2.2.2.2.2.2.2.2.2.1,
 y5.2.2.2.2.2.2.2.2.2.2.2.2.2.2.2.2.2.2.1,y5.2.2.2.2.2.2.2.2.2.2.2.2.2.2.2.2.2.2.2.1,
 y5.2.2.2.2.2.2.2.2.2.2.2.2.2.2.2.2.2.2.2.2.1,
 y5.2.2.2.2.2.2.2.2.2.2.2.2.2.2.2.2.2.2.2.2.2.1,
 y5.2.2.2.2.2.2.2.2.2.2.2.2.2.2.2.2.2.2.2.2.2.2.1,
 y5.2.2.2.2.2.2.2.2.2.2.2.2.2.2.2.2.2.2.2.2.2.2.2.1,
 y5.2.2.2.2.2.2.2.2.2.2.2.2.2.2.2.2.2.2.2.2.2.2.2.2.1,
 y5.2.2.2.2.2.2.2.2.2.2.2.2.2.2.2.2.2.2.2.2.2.2.2.2.2.1,
 y5.2.2.2.2.2.2.2.2.2.2.2.2.2.2.2.2.2.2.2.2.2.2.2.2.2.2))) (fun y6=>
 .bi (qgn) (fun y7=>
 .at (y7))
 (.no))
 (.no)))
 (.no))))
 (.no))
 (.no))
 (.no)))
 (.no)))
 (.no)
def qAY (x0 x1 x2:List UInt8) (x3 x4:Int) (x5 x6:Int) (x7:List AV) (x8:Bool) (x9 x10:Int) (x11:Bool) (x12:List AV) (x13:Bool) (x14 x15:Int) (x16:Bool) (x17 x18:List AV) (x19 x20:Int) (x21 x22:Int) (x23 x24 x25:Int):Option qTG:=qay (qu0 x0 x1 x2 x3 x4 x5 x6 x7 x8 x9 x10 x11 x12 x13 x14 x15 x16 x17 x18 x19 x20 x21 x22 x23 x24 x25).ev
theorem qJn (x0 x1 x2 x3 x4 x5 x6 x7 x8 x9 x10 x11 x12 x13 x14 x15 x16 x17 x18 x19 x20 x21 x22 x23 x24 x25):qAY x0 x1 x2 x3 x4 x5 x6 x7 x8 x9 x10 x11 x12 x13 x14 x15 x16 x17 x18 x19 x20 x21 x22 x23 x24 x25 = (qu0 x0 x1 x2 x3 x4 x5 x6 x7 x8 x9 x10 x11 x12 x13 x14 x15 x16 x17 x18 x19 x20 x21 x22 x23 x24 x25).ev:=qaa _
theorem qVg:FH IP 7 qNu qWH (k26 qAY):=qag (F:=F7) (L:=[(1000700,qKW),(1000701,qKX)]) (t:=(k26 qu0)) qtu (qab (l:=[qae F7 0,qae F7 1]) (by kernel_rfl) ⟨qas (by kernel_rfl) q37,qas (by kernel_rfl) q38,trivial⟩) (by kernel_rfl) (fun v=>by kernel_rfl) (fun _=>qaa _)
end
end Go.Proofs.H15p

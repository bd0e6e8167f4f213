/- Functions over plain data. Printed by a program of mine. -/
import Derived.Test.YtgpbobelbcbcaaaGreatDoorD10_7
import Derived.KernelRfl
set_option linter.unusedVariables false
set_option linter.unusedSimpArgs false
set_option linter.unnecessarySimpa false
namespace Go.Proofs.H10
open Go Go.Eng
set_option maxRecDepth 100000
noncomputable section
abbrev qMS:Type:=Bool × List AV × Int
def qPj:PArgs:=⟨[.ref 0 0 0,.str],[(0,.box [.view 3,.int .i64] false)]⟩
def qP4:List PRes:=[⟨false,.bool,[(0,.box [.view 3,.int .i64] false)]⟩]
def qsz (x0:List UInt8) (x1:List AV) (x2:Int):DT qMS:=
 .br (decide (x2 >= (x1.length:Int)))
 (.at ((false,x1,x2)))
 (.br (qaQ [.int .i64,.int .i64,.str] x1 x2)
 (.br (!strOf (cellAt x1 x2 2) == x0)
 (.at ((false,x1,x2)))
 (.bi (qgV x0) (fun y0=>
 .br (y0)
 (.br (qaQ [.int .i64,.int .i64,.str] x1 x2) (.at ((intOf (cellAt x1 x2 0) == 5,x1,x2))) (.no))
 (.br (qaQ [.int .i64,.int .i64,.str] x1 x2) (.at ((intOf (cellAt x1 x2 0) == 4,x1,x2))) (.no)))
 (.no)))
 (.no))
def qtu (x0:List UInt8) (x1:List AV) (x2:Int):Option qMS:=qa2 (qsz x0 x1 x2).ev
theorem qEt (x0 x1 x2):qtu x0 x1 x2 = (qsz x0 x1 x2).ev:=qab _
theorem qUV:FH IP 76 qPj qP4 (k3 qtu):=fh F76 (k3 qsz) qCR
def q0T:Tab:=(76,FE qPj qP4 (k3 qtu)) :: q0J
theorem qC0:qao IP q0T:=⟨qan qUV,qCR⟩
abbrev qMF:Type:=Bool × List AV × Int
def qO5:PArgs:=⟨[.ref 0 0 0,.str],[(0,.box [.view 3,.int .i64] false)]⟩
def qPQ:List PRes:=[⟨false,.bool,[(0,.box [.view 3,.int .i64] false)]⟩]
def qsg (x0:List UInt8) (x1:List AV) (x2:Int):DT qMF:=
 .bi (qtu x0 x1 x2) (fun y0=>
 .br (!y0.1) (.at ((false,y0.2.1,y0.2.2))) (.at ((true,y0.2.1,IntKind.i64.wrap (y0.2.2 + 1)))))
 (.no)
def qct (x0:List UInt8) (x1:List AV) (x2:Int):Option qMF:=qa2 (qsg x0 x1 x2).ev
theorem qEd (x0 x1 x2):qct x0 x1 x2 = (qsg x0 x1 x2).ev:=qab _
theorem qUF:FH IP 46 qO5 qPQ (k3 qct):=fh F46 (k3 qsg) qC0
def q0U:Tab:=(46,FE qO5 qPQ (k3 qct)) :: q0T
theorem qC1:qao IP q0U:=⟨qan qUF,qC0⟩
abbrev qML:Type:=Int × List AV × Int
def qPc:PArgs:=⟨[.ref 0 0 0],[(0,.box [.view 3,.int .i64] false)]⟩
def qPX:List PRes:=[⟨true,.iface 53 (.agg [.int .i64]),[(0,.box [.view 3,.int .i64] false)]⟩]
def qsq (x0:List AV) (x1:Int):DT qML:=
 .at ((x1,x0,x1))
def qfo (x0:List AV) (x1:Int):Option qML:=qa2 (qsq x0 x1).ev
theorem qEm (x0 x1):qfo x0 x1 = (qsq x0 x1).ev:=qab _
theorem qUP:FH IP 80 qPc qPX (k2 qfo):=fh F80 (k2 qsq) qC1
def q0V:Tab:=(80,FE qPc qPX (k2 qfo)) :: q0U
theorem qC2:qao IP q0V:=⟨qan qUP,qC1⟩
abbrev qCB:Type:=(Int × List AV × Int) ⊕ (Int × List AV × Int)
def qO6:PArgs:=⟨[.ref 0 0 0],[(0,.box [.view 3,.int .i64] false)]⟩
def qPR:List PRes:=[⟨false,.int .i64,[(0,.box [.view 3,.int .i64] false)]⟩,⟨true,.iface 53 (.agg [.int .i64]),[(0,.box [.view 3,.int .i64] false)]⟩]
def qsh (x0:List AV) (x1:Int):DT qCB:=
 .br (decide (x1 >= (x0.length:Int)))
 (.bi (qfo x0 x1) (fun y0=>
 .at ((.inr (y0.1,y0.2.1,y0.2.2))))
 (.no))
 (.br (qaQ [.int .i64,.int .i64,.str] x0 x1)
 (.br (intOf (cellAt x0 x1 0) != 2)
 (.bi (qfo x0 x1) (fun y0=>
 .at ((.inr (y0.1,y0.2.1,y0.2.2))))
 (.no))
 (.br (qaQ [.int .i64,.int .i64,.str] x0 x1)
 (.br (pOk (strOf (cellAt x0 x1 2)) && nOk (Lib.atoiAll (strOf (cellAt x0 x1 2))))
 (.bi (br (gv (some (decide (qJO (Lib.atoiAll (strOf (cellAt x0 x1 2))) < 0)))) (some true)
 (br (decide (-9223372036854775808 <= qJO (Lib.atoiAll (strOf (cellAt x0 x1 2)))) && decide (qJO (Lib.atoiAll (strOf (cellAt x0 x1 2))) <= 9223372036854775807))
 (some !Lib.itoa (qJO (Lib.atoiAll (strOf (cellAt x0 x1 2)))) == strOf (cellAt x0 x1 2)) none)) (fun y0=>
 .br (y0)
 (.bi (qfo x0 x1) (fun y1=>
 .at ((.inr (y1.1,y1.2.1,y1.2.2))))
 (.no))
 (.at ((.inl (qJO (Lib.atoiAll (strOf (cellAt x0 x1 2))),x0,IntKind.i64.wrap (x1 + 1))))))
 (.no))
 (.br (pOk (strOf (cellAt x0 x1 2)) && qg9 (Lib.atoiAll (strOf (cellAt x0 x1 2))))
 (.bi (qfo x0 x1) (fun y0=>
 .at ((.inr (y0.1,y0.2.1,y0.2.2))))
 (.no))
 (.br (pOk (strOf (cellAt x0 x1 2)) && qdu (Lib.atoiAll (strOf (cellAt x0 x1 2))))
 (.bi (qfo x0 x1) (fun y0=>
 .at ((.inr (y0.1,y0.2.1,y0.2.2))))
 (.no))
 (.no))))
 (.no)))
 (.no))
def qdd (x0:List AV) (x1:Int):Option qCB:=qa2 (qsh x0 x1).ev
theorem qEe (x0 x1):qdd x0 x1 = (qsh x0 x1).ev:=qab _
theorem qUH:FH IP 126 qO6 qPR (k2 qdd):=fh qYb (k2 qsh) qC2
def q0W:Tab:=(126,FE qO6 qPR (k2 qdd)) :: q0V
theorem qC3:qao IP q0W:=⟨qan qUH,qC2⟩
abbrev qMM:Type:=(Int × List AV × Int) ⊕ (List AV × Int)
def qPd:PArgs:=⟨[.ref 0 0 0,.str],[(0,.box [.view 3,.int .i64] false)]⟩
def qPY:List PRes:=[⟨true,.iface 53 (.agg [.int .i64]),[(0,.box [.view 3,.int .i64] false)]⟩,⟨false,.tup [],[(0,.box [.view 3,.int .i64] false)]⟩]
def qss (x0:List UInt8) (x1:List AV) (x2:Int):DT qMM:=
 .bi (qct x0 x1 x2) (fun y0=>
 .br (!y0.1)
 (.bi (qfo y0.2.1 y0.2.2) (fun y1=>
 .at ((.inl (y1.1,y1.2.1,y1.2.2))))
 (.no))
 (.at ((.inr (y0.2.1,y0.2.2)))))
 (.no)
def qde (x0:List UInt8) (x1:List AV) (x2:Int):Option qMM:=qa2 (qss x0 x1 x2).ev
theorem qEn (x0 x1 x2):qde x0 x1 x2 = (qss x0 x1 x2).ev:=qab _
theorem qUR:FH IP 48 qPd qPY (k3 qde):=fh F48 (k3 qss) qC3
def q0X:Tab:=(48,FE qPd qPY (k3 qde)) :: q0W
theorem qvW:qao IP q0X:=⟨qan qUR,qC3⟩
abbrev qfK:Type:=List AV × Int × Int × List AV × Int
def qE4:List PSt:=[⟨[(1007900,.junk),(0,.ref 0 0 0),(10,.view 2),(11,.int .i64),(12,.int .i64)],[(0,.box [.view 3,.int .i64] false)],1,1⟩]
def qLu (x0:List AV) (x1 x2:Int) (x3:List AV) (x4:Int):X × St:=(.ret,
 ⟨[(4,.int .i64 (intOf (cellAt x0 x2 1)))],[(0,
 .box
 [.view 3 (gv (qct (strOf (cellAt x0 x2 0)) x3 x4)).2.1,.int .i64 (gv (qct (strOf (cellAt x0 x2 0)) x3 x4)).2.2]
 false)],1,1⟩)
def qLw (x0:List AV) (x1 x2:Int) (x3:List AV) (x4:Int):X × St:=(.exit 0,⟨[(4,.junk)],[(0,.box [.view 3 x3,.int .i64 x4] false)],1,1⟩)
def qXe:List (qfK -> X × St):=[(k5 qLu),(k5 qLw)]
def qhh (x0:List AV) (x1 x2:Int) (x3:List AV) (x4:Int):DT (Rd qfK):=
 .br (decide (x2 < x1))
 (.br (qaQ [.str,.int .i64] x0 x2)
 (.bi (qct (strOf (cellAt x0 x2 0)) x3 x4) (fun y0=>
 .br (y0.1) (.at (.done 0)) (.at (.next ((x0,x1,IntKind.i64.wrap (x2 + 1),y0.2.1,y0.2.2)))))
 (.no))
 (.no))
 (.at (.done 1))
def qxn:qfK -> DT (Rd qfK):=(fun v=>qhh v.1 v.2.1 v.2.2.1 v.2.2.2.1 v.2.2.2.2)
def qtJ (v:qfK):Option (Nat × qfK):=qa2 (qaw (fun v=>(qxn v).ev) v)
theorem qtK (v):qtJ v = qaw (fun v=>(qxn v).ev) v:=qab _
def qFH:qdA:=LE (τ:=qfK) (hD qE4) (qtJ) qXe
theorem qWy:Go.Eng.Told IP (qah F79 0).1 (qah F79 0).2 (qFH):=lp (inferInstance:Inhabited qfK) (hs:=qE4) qxn qvW qtK
abbrev qMC:Type:=Int × List AV × Int
def qO2:PArgs:=⟨[.ref 0 0 0,.int .i64],[(0,.box [.view 3,.int .i64] false)]⟩
def qPN:List PRes:=[⟨false,.int .i64,[(0,.box [.view 3,.int .i64] false)]⟩]
def qsd (x0:Int) (x1:List AV) (x2:Int):DT qMC:=
 .bi (qic) (fun y0=>
 .br (qaQ [.slice 2] y0 x0)
 (.bi (pj 0 (qtJ (qai (cellAt y0 x0 0),((qai (cellAt y0 x0 0)).length:Int),0,x1,x2))) (fun y1=>
 .at ((intOf (cellAt y1.1 y1.2.2.1 1),(gv (qct (strOf (cellAt y1.1 y1.2.2.1 0)) y1.2.2.2.1 y1.2.2.2.2)).2.1,(gv (qct (strOf (cellAt y1.1 y1.2.2.1 0)) y1.2.2.2.1 y1.2.2.2.2)).2.2)))
 (.bi (pj 1 (qtJ (qai (cellAt y0 x0 0),((qai (cellAt y0 x0 0)).length:Int),0,x1,x2))) (fun y1=>
 .at ((0,y1.2.2.2.1,y1.2.2.2.2)))
 (.no)))
 (.no))
 (.no)
def qkM (x0:Int) (x1:List AV) (x2:Int):Option qMC:=qa2 (qsd x0 x1 x2).ev
theorem qEb (x0 x1 x2):qkM x0 x1 x2 = (qsd x0 x1 x2).ev:=qab _
theorem qUB:FH IP 79 qO2 qPN (k3 qkM):=qak (F:=F79) (L:=[(1007900,qFH)]) (t:=(k3 qsd)) qvW (qae (l:=[qah F79 0]) (by kernel_rfl) ⟨qaH (by kernel_rfl) qWy,trivial⟩) (by kernel_rfl) (fun v=>by kernel_rfl) (fun _=>qab _)
def qYx:Tab:=(79,FE qO2 qPN (k3 qkM)) :: q0X
theorem qC4:qao IP qYx:=⟨qan qUB,qvW⟩
abbrev qCC:Type:=(Int × Int × List UInt8 × List AV × List AV × Int) ⊕ (Int × List AV × Int)
def quG:PArgs:=⟨[.ref 0 0 0],[(0,.box [.view 3,.int .i64] false)]⟩
def quV:List PRes:=[⟨false,.agg [.int .i64,.int .i64,.str,.view 4],[(0,.box [.view 3,.int .i64] false)]⟩,⟨true,.iface 53 (.agg [.int .i64]),[(0,.box [.view 3,.int .i64] false)]⟩]
abbrev qbw:Type:=(List AV) -> Int -> Option qCC
abbrev qlX:Type:=(Int × Int × List UInt8 × List AV × List AV × Int) ⊕ (Int × List AV × Int)
def quD:PArgs:=⟨[.ref 0 0 0,.int .i64],[(0,.box [.view 3,.int .i64] false)]⟩
def quS:List PRes:=[⟨false,.agg [.int .i64,.int .i64,.str,.view 4],[(0,.box [.view 3,.int .i64] false)]⟩,⟨true,.iface 53 (.agg [.int .i64]),[(0,.box [.view 3,.int .i64] false)]⟩]
abbrev qbv:Type:=Int -> (List AV) -> Int -> Option qlX
abbrev qCE:Type:=(Int × Int × List UInt8 × List AV × List AV × Int) ⊕ (Int × List AV × Int)
def quI:PArgs:=⟨[.ref 0 0 0],[(0,.box [.view 3,.int .i64] false)]⟩
def quX:List PRes:=[⟨false,.agg [.int .i64,.int .i64,.str,.view 4],[(0,.box [.view 3,.int .i64] false)]⟩,⟨true,.iface 53 (.agg [.int .i64]),[(0,.box [.view 3,.int .i64] false)]⟩]
abbrev qby:Type:=(List AV) -> Int -> Option qCE
abbrev qxK:Type:=(Int × Int × List UInt8 × List AV × List AV × Int) ⊕ (Int × List AV × Int)
def quC:PArgs:=⟨[.ref 0 0 0],[(0,.box [.view 3,.int .i64] false)]⟩
def quR:List PRes:=[⟨false,.agg [.int .i64,.int .i64,.str,.view 4],[(0,.box [.view 3,.int .i64] false)]⟩,⟨true,.iface 53 (.agg [.int .i64]),[(0,.box [.view 3,.int .i64] false)]⟩]
abbrev qbu:Type:=(List AV) -> Int -> Option qxK
abbrev qCD:Type:=(Int × List AV × Int) ⊕ (Int × Int × List UInt8 × List AV × List AV × Int)
def quH:PArgs:=⟨[.ref 0 0 0,.int .i64],[(0,.box [.view 3,.int .i64] false)]⟩
def quW:List PRes:=[⟨true,.iface 53 (.agg [.int .i64]),[(0,.box [.view 3,.int .i64] false)]⟩,⟨false,.agg [.int .i64,.int .i64,.str,.view 4],[(0,.box [.view 3,.int .i64] false)]⟩]
abbrev qbx:Type:=Int -> (List AV) -> Int -> Option qCD
end
end Go.Proofs.H10

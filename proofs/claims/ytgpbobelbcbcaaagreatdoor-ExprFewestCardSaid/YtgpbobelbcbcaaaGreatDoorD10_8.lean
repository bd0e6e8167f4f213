/- Functions over plain data. Printed by a program of mine. -/
import Derived.Test.YtgpbobelbcbcaaaGreatDoorD10_7
import Derived.KernelRfl
set_option linter.unusedVariables false
set_option linter.unusedSimpArgs false
set_option linter.unnecessarySimpa false
namespace Go.Proofs.H10
open Go Go.Eng
set_option maxRecDepth 100000
noncomputable section
def qe4:Nat -> qcU
 | 0=>fun _ _ _ _=>none
 | n + 1=>fun x0 x1 x2 x3=>(qr8 ((qe4 n)) x0 x1 x2 x3).ev
def qq3 (x0 x1:Int) (x2:List UInt8) (x3:List AV):Option qvG:=qfI fun n=>(qe4 n) x0 x1 x2 x3
theorem qpe:∀ n,qqC ((qe4 n))
 | 0=>(fun v y h=>nomatch h)
 | n + 1=>have hG:=qpe n
 qak (F:=F20) (L:=[(1002000,qyS ((qe4 n)))]) (t:=(k4 (qr8 ((qe4 n))))) (ql6 ((qe4 n)) hG) (qae (l:=[qah F20 0]) (by kernel_rfl) ⟨qaH (by kernel_rfl) (qSO ((qe4 n)) hG),trivial⟩) (by kernel_rfl) (fun v=>by kernel_rfl) (fun v=>rfl)
theorem qRw:FH IP 20 qnJ qn5 (k4 qq3):=qbk (p:=qnJ) (rs:=qn5) (s:=fun n=>(k4 ((qe4 n)))) fun n=>(qpe n)
def q0O:Tab:=(20,FE qnJ qn5 (k4 qq3)) :: qYw
theorem qCX:qao IP q0O:=⟨qan qRw,qCW⟩
abbrev qMV:Type:=Bool
def qPn:PArgs:=⟨[.agg [.int .i64,.int .i64,.str,.view 4],.agg [.int .i64,.int .i64,.str,.view 4]],[]⟩
def qP8:List PRes:=[⟨false,.bool,[]⟩]
def qsD (x0 x1:Int) (x2:List UInt8) (x3:List AV) (x4 x5:Int) (x6:List UInt8) (x7:List AV):DT qMV:=
 .bi (qdN x0 x1 x2 x3 300) (fun y0=>
 .bi (br y0 (some true) (br (sm (qdN x4 x5 x6 x7 300)) (some (gv (qdN x4 x5 x6 x7 300))) none)) (fun y1=>
 .br (y1)
 (.bi (qbp) (fun y2=>
 .at (y2))
 (.no))
 (.bi (qe9 x0 x1 x2 x3) (fun y2=>
 .bi (qq3 x0 x1 x2 x3) (fun y3=>
 .br (y2 == y3)
 (.bi (qif x0 x1 x2 x3) (fun y4=>
 .bi (qmE x0 x1 x2 x3) (fun y5=>
 .bi (qh1 y4 y5) (fun y6=>
 .br (y6)
 (.bi (qcD x0 x1 x2 x3 x4 x5 x6 x7) (fun y7=>
 .bi (qaJ x0 x1 x2 x3 x4 x5 x6 x7) (fun y8=>
 .br (if false = true then !y7 == y8 else y7 == y8)
 (.bi (qcD x0 x1 x2 x3 x0 x1 x2 x3) (fun y9=>
 .br (y9)
 (.bi (qbp) (fun y10=>
 .at (y10))
 (.no))
 (.at (false)))
 (.no))
 (.at (false)))
 (.no))
 (.no))
 (.at (false)))
 (.no))
 (.no))
 (.no))
 (.at (false)))
 (.no))
 (.no)))
 (.no))
 (.no)
def qyc (x0 x1:Int) (x2:List UInt8) (x3:List AV) (x4 x5:Int) (x6:List UInt8) (x7:List AV):Option qMV:=qa2 (qsD x0 x1 x2 x3 x4 x5 x6 x7).ev
theorem qEx (x0 x1 x2 x3 x4 x5 x6 x7):qyc x0 x1 x2 x3 x4 x5 x6 x7 = (qsD x0 x1 x2 x3 x4 x5 x6 x7).ev:=qab _
theorem qOj:FH IP 5 qPn qP8 (k8 qyc):=fh F5 (k8 qsD) qCX
def q0P:Tab:=(5,FE qPn qP8 (k8 qyc)) :: q0O
theorem qCY:qao IP q0P:=⟨qan qOj,qCX⟩
abbrev qME:Type:=Bool
def qO4:PArgs:=⟨[.agg [.int .i64,.int .i64,.str,.view 4],.view 3],[]⟩
def qPP:List PRes:=[⟨false,.bool,[]⟩]
def qsf (x0 x1:Int) (x2:List UInt8) (x3 x4:List AV):DT qME:=
 .bi (qdN x0 x1 x2 x3 300) (fun y0=>
 .bi (br y0 (some true) (br (sm (qii x4)) (some !gv (qii x4)) none)) (fun y1=>
 .br (y1)
 (.bi (qbp) (fun y2=>
 .at (y2))
 (.no))
 (.bi (qeT x0 x1 x2 x3) (fun y2=>
 .br (y2 != 0)
 (.bi (qbp) (fun y3=>
 .at (y3))
 (.no))
 (.bi (qf8 x0 x1 x2 x3) (fun y3=>
 .br (Tk.paB IP 10 y3.1 0)
 (.bi (br (y3.2 != 0) (some true) (some (Tk.paE IP 10 y3.1 0 != 0))) (fun y4=>
 .bi (br y4 (some true) (some (Tk.paK IP 10 y3.1 0 != (y3.1.length:Int)))) (fun y5=>
 .bi (br y5 (some true)
 (br (sm (qaJ (Tk.paO IP 10 y3.1 0) (Tk.paN IP 10 y3.1 0) (Tk.paS IP 10 y3.1 0) (Tk.paX IP 10 y3.1 0) x0 x1 x2 x3))
 (some !gv (qaJ (Tk.paO IP 10 y3.1 0) (Tk.paN IP 10 y3.1 0) (Tk.paS IP 10 y3.1 0) (Tk.paX IP 10 y3.1 0) x0 x1 x2 x3)) none)) (fun y6=>
 .br (y6)
 (.at (false))
 (.br (decide (x4.length = 0) && decide (3 = 3))
 (.br (decide (y3.1.length = 0) && decide (3 = 3))
 (.br (Tk.paB IP 10 [AV.agg [.int .i64 4,.int .i64 0,AV.str [59]]] 0)
 (.bi (br (Tk.paE IP 10 [AV.agg [.int .i64 4,.int .i64 0,AV.str [59]]] 0 == 0)
 (some (Tk.paK IP 10 [AV.agg [.int .i64 4,.int .i64 0,AV.str [59]]] 0 == (y3.1.length:Int))) (some false)) (fun y7=>
 .bi (br y7
 (br
 (sm
 (qaJ (Tk.paO IP 10 [AV.agg [.int .i64 4,.int .i64 0,AV.str [59]]] 0)
 (Tk.paN IP 10 [AV.agg [.int .i64 4,.int .i64 0,AV.str [59]]] 0) (Tk.paS IP 10 [AV.agg [.int .i64 4,.int .i64 0,AV.str [59]]] 0)
 (Tk.paX IP 10 [AV.agg [.int .i64 4,.int .i64 0,AV.str [59]]] 0) x0 x1 x2 x3))
 (some
 (gv
 (qaJ (Tk.paO IP 10 [AV.agg [.int .i64 4,.int .i64 0,AV.str [59]]] 0)
 (Tk.paN IP 10 [AV.agg [.int .i64 4,.int .i64 0,AV.str [59]]] 0) (Tk.paS IP 10 [AV.agg [.int .i64 4,.int .i64 0,AV.str [59]]] 0)
 (Tk.paX IP 10 [AV.agg [.int .i64 4,.int .i64 0,AV.str [59]]] 0) x0 x1 x2 x3)))
 none)
 (some false)) (fun y8=>
 .bi (br y8 (br (sm qbp) (some (gv qbp)) none) (some false)) (fun y9=>
 .at (y9))
 (.no))
 (.no))
 (.no))
 (.no))
 (.br (decide (y3.1.length ≠ 0) && room y3.1.length 32)
 (.br (room (y3.1.length + 1) 32)
 (.br (Tk.paB IP 10 (y3.1 ++ [AV.agg [.int .i64 4,.int .i64 0,AV.str [59]]]) 0)
 (.bi (br (Tk.paE IP 10 (y3.1 ++ [AV.agg [.int .i64 4,.int .i64 0,AV.str [59]]]) 0 == 0)
 (some (Tk.paK IP 10 (y3.1 ++ [AV.agg [.int .i64 4,.int .i64 0,AV.str [59]]]) 0 == (y3.1.length:Int))) (some false)) (fun y7=>
 .bi (br y7
 (br
 (sm
 (qaJ (Tk.paO IP 10 (y3.1 ++ [AV.agg [.int .i64 4,.int .i64 0,AV.str [59]]]) 0)
 (Tk.paN IP 10 (y3.1 ++ [AV.agg [.int .i64 4,.int .i64 0,AV.str [59]]]) 0)
 (Tk.paS IP 10 (y3.1 ++ [AV.agg [.int .i64 4,.int .i64 0,AV.str [59]]]) 0)
 (Tk.paX IP 10 (y3.1 ++ [AV.agg [.int .i64 4,.int .i64 0,AV.str [59]]]) 0) x0 x1 x2 x3))
 (some
 (gv
 (qaJ (Tk.paO IP 10 (y3.1 ++ [AV.agg [.int .i64 4,.int .i64 0,AV.str [59]]]) 0)
 (Tk.paN IP 10 (y3.1 ++ [AV.agg [.int .i64 4,.int .i64 0,AV.str [59]]]) 0)
 (Tk.paS IP 10 (y3.1 ++ [AV.agg [.int .i64 4,.int .i64 0,AV.str [59]]]) 0)
 (Tk.paX IP 10 (y3.1 ++ [AV.agg [.int .i64 4,.int .i64 0,AV.str [59]]]) 0) x0 x1 x2 x3)))
 none)
 (some false)) (fun y8=>
 .bi (br y8 (br (sm qbp) (some (gv qbp)) none) (some false)) (fun y9=>
 .at (y9))
 (.no))
 (.no))
 (.no))
 (.no))
 (.no))
 (.no)))
 (.br (decide (x4.length ≠ 0) && room (1 + x4.length) 32)
 (.br (decide (y3.1.length = 0) && decide (3 = 3))
 (.br (decide ((AV.agg [.int .i64 4,.int .i64 0,AV.str [59]] :: x4).length ≠ 0) &&
 room (AV.agg [.int .i64 4,.int .i64 0,AV.str [59]] :: x4).length 32)
 (.br (Tk.paB IP 10 (AV.agg [.int .i64 4,.int .i64 0,AV.str [59]] :: x4) 0)
 (.bi (br (Tk.paE IP 10 (AV.agg [.int .i64 4,.int .i64 0,AV.str [59]] :: x4) 0 == 0)
 (some (Tk.paK IP 10 (AV.agg [.int .i64 4,.int .i64 0,AV.str [59]] :: x4) 0 == (y3.1.length:Int))) (some false)) (fun y7=>
 .bi (br y7
 (br
 (sm
 (qaJ (Tk.paO IP 10 (AV.agg [.int .i64 4,.int .i64 0,AV.str [59]] :: x4) 0)
 (Tk.paN IP 10 (AV.agg [.int .i64 4,.int .i64 0,AV.str [59]] :: x4) 0)
 (Tk.paS IP 10 (AV.agg [.int .i64 4,.int .i64 0,AV.str [59]] :: x4) 0)
 (Tk.paX IP 10 (AV.agg [.int .i64 4,.int .i64 0,AV.str [59]] :: x4) 0) x0 x1 x2 x3))
 (some
 (gv
 (qaJ (Tk.paO IP 10 (AV.agg [.int .i64 4,.int .i64 0,AV.str [59]] :: x4) 0)
 (Tk.paN IP 10 (AV.agg [.int .i64 4,.int .i64 0,AV.str [59]] :: x4) 0)
 (Tk.paS IP 10 (AV.agg [.int .i64 4,.int .i64 0,AV.str [59]] :: x4) 0)
 (Tk.paX IP 10 (AV.agg [.int .i64 4,.int .i64 0,AV.str [59]] :: x4) 0) x0 x1 x2 x3)))
 none)
 (some false)) (fun y8=>
 .bi (br y8 (br (sm qbp) (some (gv qbp)) none) (some false)) (fun y9=>
 .at (y9))
 (.no))
 (.no))
 (.no))
 (.no))
 (.no))
 (.br (decide (y3.1.length ≠ 0) && room y3.1.length 32)
 (.br (decide ((AV.agg [.int .i64 4,.int .i64 0,AV.str [59]] :: x4).length ≠ 0) &&
 room (y3.1.length + (AV.agg [.int .i64 4,.int .i64 0,AV.str [59]] :: x4).length) 32)
 (.br (Tk.paB IP 10 (y3.1 ++ AV.agg [.int .i64 4,.int .i64 0,AV.str [59]] :: x4) 0)
 (.bi (br (Tk.paE IP 10 (y3.1 ++ AV.agg [.int .i64 4,.int .i64 0,AV.str [59]] :: x4) 0 == 0)
 (some (Tk.paK IP 10 (y3.1 ++ AV.agg [.int .i64 4,.int .i64 0,AV.str [59]] :: x4) 0 == (y3.1.length:Int))) (some false)) (fun y7=>
 .bi (br y7
 (br
 (sm
 (qaJ (Tk.paO IP 10 (y3.1 ++ AV.agg [.int .i64 4,.int .i64 0,AV.str [59]] :: x4) 0)
 (Tk.paN IP 10 (y3.1 ++ AV.agg [.int .i64 4,.int .i64 0,AV.str [59]] :: x4) 0)
 (Tk.paS IP 10 (y3.1 ++ AV.agg [.int .i64 4,.int .i64 0,AV.str [59]] :: x4) 0)
 (Tk.paX IP 10 (y3.1 ++ AV.agg [.int .i64 4,.int .i64 0,AV.str [59]] :: x4) 0) x0 x1 x2 x3))
 (some
 (gv
 (qaJ (Tk.paO IP 10 (y3.1 ++ AV.agg [.int .i64 4,.int .i64 0,AV.str [59]] :: x4) 0)
 (Tk.paN IP 10 (y3.1 ++ AV.agg [.int .i64 4,.int .i64 0,AV.str [59]] :: x4) 0)
 (Tk.paS IP 10 (y3.1 ++ AV.agg [.int .i64 4,.int .i64 0,AV.str [59]] :: x4) 0)
 (Tk.paX IP 10 (y3.1 ++ AV.agg [.int .i64 4,.int .i64 0,AV.str [59]] :: x4) 0) x0 x1 x2 x3)))
 none)
 (some false)) (fun y8=>
 .bi (br y8 (br (sm qbp) (some (gv qbp)) none) (some false)) (fun y9=>
 .at (y9))
 (.no))
 (.no))
 (.no))
 (.no))
 (.no))
 (.no)))
 (.no))))
 (.no))
 (.no))
 (.no))
 (.no))
 (.no)))
 (.no)))
 (.no))
 (.no)
def qx7 (x0 x1:Int) (x2:List UInt8) (x3 x4:List AV):Option qME:=qa2 (qsf x0 x1 x2 x3 x4).ev
theorem qEc (x0 x1 x2 x3 x4):qx7 x0 x1 x2 x3 x4 = (qsf x0 x1 x2 x3 x4).ev:=qab _
theorem qOe:FH IP 6 qO4 qPP (k5 qx7):=fh F6 (k5 qsf) qCY
def q0Q:Tab:=(6,FE qO4 qPP (k5 qx7)) :: q0P
theorem qvU:qao IP q0Q:=⟨qan qOe,qCY⟩
abbrev qfU:Type:=List AV × Int × Int
def qFh:List PSt:=[⟨[(1002500,.junk),(0,.view 3),(5,.int .i64),(6,.int .i64)],[],0,0⟩]
def qL1 (x0:List AV) (x1 x2:Int):X × St:=(.ret,⟨[(4,.int .i64 x2)],[],0,0⟩)
def qL2 (x0:List AV) (x1 x2:Int):X × St:=(.exit 0,⟨[(4,.junk)],[],0,0⟩)
def qXr:List (qfU -> X × St):=[(k3 qL1),(k3 qL2)]
def qhl (x0:List AV) (x1 x2:Int):DT (Rd qfU):=
 .br (decide (x2 < (x0.length:Int)))
 (.br (qaQ [.int .i64,.int .i64,.str] x0 x2)
 (.br (strOf (cellAt x0 x2 2) == [40])
 (.br (qaQ [.int .i64,.int .i64,.str] x0 x2)
 (.br (strOf (cellAt x0 x2 2) == [41])
 (.br (IntKind.i64.wrap (IntKind.i64.wrap (x1 + 1) - 1) == 0)
 (.at (.done 0))
 (.at (.next ((x0,IntKind.i64.wrap (IntKind.i64.wrap (x1 + 1) - 1),IntKind.i64.wrap (x2 + 1))))))
 (.br (IntKind.i64.wrap (x1 + 1) == 0) (.at (.done 0)) (.at (.next ((x0,IntKind.i64.wrap (x1 + 1),IntKind.i64.wrap (x2 + 1)))))))
 (.no))
 (.br (qaQ [.int .i64,.int .i64,.str] x0 x2)
 (.br (strOf (cellAt x0 x2 2) == [41])
 (.br (IntKind.i64.wrap (x1 - 1) == 0) (.at (.done 0)) (.at (.next ((x0,IntKind.i64.wrap (x1 - 1),IntKind.i64.wrap (x2 + 1))))))
 (.br (x1 == 0) (.at (.done 0)) (.at (.next ((x0,x1,IntKind.i64.wrap (x2 + 1)))))))
 (.no)))
 (.no))
 (.at (.done 1))
def qrS:qfU -> DT (Rd qfU):=(fun v=>qhl v.1 v.2.1 v.2.2)
def qtY (v:qfU):Option (Nat × qfU):=qa2 (qaw (fun v=>(qrS v).ev) v)
theorem qi3 (v):qtY v = qaw (fun v=>(qrS v).ev) v:=qab _
def qFU:qdA:=LE (τ:=qfU) (hD qFh) (qtY) qXr
theorem qWL:Go.Eng.Told IP (qah F25 0).1 (qah F25 0).2 (qFU):=lp (inferInstance:Inhabited qfU) (hs:=qFh) qrS qvU qi3
abbrev qNd:Type:=Int
def qPF:PArgs:=⟨[.view 3,.int .i64],[]⟩
def qQq:List PRes:=[⟨false,.int .i64,[]⟩]
def qsW (x0:List AV) (x1:Int):DT qNd:=
 .bi (pj 0 (qtY (x0,0,x1))) (fun y0=>
 .at (y0.2.2))
 (.bi (pj 1 (qtY (x0,0,x1))) (fun y0=>
 .at (0))
 (.no))
def qtB (x0:List AV) (x1:Int):Option qNd:=qa2 (qsW x0 x1).ev
theorem qEP (x0 x1):qtB x0 x1 = (qsW x0 x1).ev:=qab _
theorem qVi:FH IP 25 qPF qQq (k2 qtB):=qak (F:=F25) (L:=[(1002500,qFU)]) (t:=(k2 qsW)) qvU (qae (l:=[qah F25 0]) (by kernel_rfl) ⟨qaH (by kernel_rfl) qWL,trivial⟩) (by kernel_rfl) (fun v=>by kernel_rfl) (fun _=>qab _)
def q0R:Tab:=(25,FE qPF qQq (k2 qtB)) :: q0Q
theorem qvV:qao IP q0R:=⟨qan qVi,qvU⟩
abbrev qfL:Type:=List AV × Int × Int × Int × List UInt8 × List AV
def qE6:List PSt:=[⟨[(1000700,.junk),(1,.ref 0 0 0),(3,.view 3),(5,.int .i64)],[(0,.box [.int .i64,.int .i64,.str,.view 4] false)],1,0⟩]
def qLD (x0:List AV) (x1 x2 x3:Int) (x4:List UInt8) (x5:List AV):X × St:=(.ret,⟨[(2,.bool false)],[],0,0⟩)
def qLE (x0:List AV) (x1 x2 x3:Int) (x4:List UInt8) (x5:List AV):X × St:=(.exit 0,⟨[(2,.junk)],[],0,0⟩)
def qXg:List (qfL -> X × St):=[(k6 qLD),(k6 qLE)]
def qhi (x0:List AV) (x1 x2 x3:Int) (x4:List UInt8) (x5:List AV):DT (Rd qfL):=
 .br (decide (x1 < (x0.length:Int)))
 (.br (qaQ [.int .i64,.int .i64,.str] x0 x1)
 (.bi (br (!strOf (cellAt x0 x1 2) == [40]) (some true)
 (br (decide (x1 > 0))
 (br (qaQ [.int .i64,.int .i64,.str] x0 (IntKind.i64.wrap (x1 - 1)))
 (br (strOf (cellAt x0 (IntKind.i64.wrap (x1 - 1)) 2) == [109,105,110]) (some true)
 (br (qaQ [.int .i64,.int .i64,.str] x0 (IntKind.i64.wrap (x1 - 1))) (some (strOf (cellAt x0 (IntKind.i64.wrap (x1 - 1)) 2) == [109,97,120])) none))
 none)
 (some false))) (fun y0=>
 .br (y0)
 (.at (.next ((x0,IntKind.i64.wrap (x1 + 1),x2,x3,x4,x5))))
 (.bi (qtB x0 x1) (fun y1=>
 .br (decide (y1 <= x1))
 (.at (.done 0))
 (.br (leB x1 x0.length && true)
 (.br (decide ((List.take x1.toNat x0).length = 0) && decide (3 = 3))
 (.br (leB y1 x0.length && leB (IntKind.i64.wrap (x1 + 1)) y1.toNat)
 (.br (decide ((List.take (y1.toNat - (IntKind.i64.wrap (x1 + 1)).toNat) (List.drop (IntKind.i64.wrap (x1 + 1)).toNat x0)).length = 0) && decide (3 = 3))
 (.br (leB (IntKind.i64.wrap (y1 + 1)) x0.length)
 (.br (decide ((List.drop (IntKind.i64.wrap (y1 + 1)).toNat x0).length = 0) && decide (3 = 3))
 (.br (Tk.paB IP 10 [] 0)
 (.bi (br (Tk.paE IP 10 [] 0 == 0) (some (Tk.paK IP 10 [] 0 == 0)) (some false)) (fun y2=>
 .bi (br y2
 (br (sm (qaJ (Tk.paO IP 10 [] 0) (Tk.paN IP 10 [] 0) (Tk.paS IP 10 [] 0) (Tk.paX IP 10 [] 0) x2 x3 x4 x5))
 (some (gv (qaJ (Tk.paO IP 10 [] 0) (Tk.paN IP 10 [] 0) (Tk.paS IP 10 [] 0) (Tk.paX IP 10 [] 0) x2 x3 x4 x5))) none)
 (some false)) (fun y3=>
 .br (y3) (.at (.done 0)) (.at (.next ((x0,IntKind.i64.wrap (x1 + 1),x2,x3,x4,x5)))))
 (.no))
 (.no))
 (.no))
 (.br (decide ((List.drop (IntKind.i64.wrap (y1 + 1)).toNat x0).length ≠ 0) && room (List.drop (IntKind.i64.wrap (y1 + 1)).toNat x0).length 32)
 (.br (Tk.paB IP 10 (List.drop (IntKind.i64.wrap (y1 + 1)).toNat x0) 0)
 (.bi (br (Tk.paE IP 10 (List.drop (IntKind.i64.wrap (y1 + 1)).toNat x0) 0 == 0)
 (some (Tk.paK IP 10 (List.drop (IntKind.i64.wrap (y1 + 1)).toNat x0) 0 == ((List.drop (IntKind.i64.wrap (y1 + 1)).toNat x0).length:Int))) (some false)) (fun y2=>
 .bi (br y2
 (br
 (sm
 (qaJ (Tk.paO IP 10 (List.drop (IntKind.i64.wrap (y1 + 1)).toNat x0) 0) (Tk.paN IP 10 (List.drop (IntKind.i64.wrap (y1 + 1)).toNat x0) 0)
 (Tk.paS IP 10 (List.drop (IntKind.i64.wrap (y1 + 1)).toNat x0) 0) (Tk.paX IP 10 (List.drop (IntKind.i64.wrap (y1 + 1)).toNat x0) 0) x2 x3 x4 x5))
 (some
 (gv
 (qaJ (Tk.paO IP 10 (List.drop (IntKind.i64.wrap (y1 + 1)).toNat x0) 0) (Tk.paN IP 10 (List.drop (IntKind.i64.wrap (y1 + 1)).toNat x0) 0)
 (Tk.paS IP 10 (List.drop (IntKind.i64.wrap (y1 + 1)).toNat x0) 0) (Tk.paX IP 10 (List.drop (IntKind.i64.wrap (y1 + 1)).toNat x0) 0) x2 x3 x4 x5)))
 none)
 (some false)) (fun y3=>
 .br (y3) (.at (.done 0)) (.at (.next ((x0,IntKind.i64.wrap (x1 + 1),x2,x3,x4,x5)))))
 (.no))
 (.no))
 (.no))
 (.no)))
 (.no))
 (.br (decide ((List.take (y1.toNat - (IntKind.i64.wrap (x1 + 1)).toNat) (List.drop (IntKind.i64.wrap (x1 + 1)).toNat x0)).length ≠ 0) &&
 room (List.take (y1.toNat - (IntKind.i64.wrap (x1 + 1)).toNat) (List.drop (IntKind.i64.wrap (x1 + 1)).toNat x0)).length 32)
 (.br (leB (IntKind.i64.wrap (y1 + 1)) x0.length)
 (.br (decide ((List.drop (IntKind.i64.wrap (y1 + 1)).toNat x0).length = 0) && decide (3 = 3))
 (.br (Tk.paB IP 10 (List.take (y1.toNat - (IntKind.i64.wrap (x1 + 1)).toNat) (List.drop (IntKind.i64.wrap (x1 + 1)).toNat x0)) 0)
 (.bi (br (Tk.paE IP 10 (List.take (y1.toNat - (IntKind.i64.wrap (x1 + 1)).toNat) (List.drop (IntKind.i64.wrap (x1 + 1)).toNat x0)) 0 == 0)
 (some
 (Tk.paK IP 10 (List.take (y1.toNat - (IntKind.i64.wrap (x1 + 1)).toNat) (List.drop (IntKind.i64.wrap (x1 + 1)).toNat x0)) 0 ==
 ((List.take (y1.toNat - (IntKind.i64.wrap (x1 + 1)).toNat) (List.drop (IntKind.i64.wrap (x1 + 1)).toNat x0)).length:Int)))
 (some false)) (fun y2=>
 .bi (br y2
 (br
 (sm
 (qaJ (Tk.paO IP 10 (List.take (y1.toNat - (IntKind.i64.wrap (x1 + 1)).toNat) (List.drop (IntKind.i64.wrap (x1 + 1)).toNat x0)) 0)
 (Tk.paN IP 10 (List.take (y1.toNat - (IntKind.i64.wrap (x1 + 1)).toNat) (List.drop (IntKind.i64.wrap (x1 + 1)).toNat x0)) 0)
 (Tk.paS IP 10 (List.take (y1.toNat - (IntKind.i64.wrap (x1 + 1)).toNat) (List.drop (IntKind.i64.wrap (x1 + 1)).toNat x0)) 0)
 (Tk.paX IP 10 (List.take (y1.toNat - (IntKind.i64.wrap (x1 + 1)).toNat) (List.drop (IntKind.i64.wrap (x1 + 1)).toNat x0)) 0) x2 x3 x4 x5))
 (some
 (gv
 (qaJ (Tk.paO IP 10 (List.take (y1.toNat - (IntKind.i64.wrap (x1 + 1)).toNat) (List.drop (IntKind.i64.wrap (x1 + 1)).toNat x0)) 0)
 (Tk.paN IP 10 (List.take (y1.toNat - (IntKind.i64.wrap (x1 + 1)).toNat) (List.drop (IntKind.i64.wrap (x1 + 1)).toNat x0)) 0)
 (Tk.paS IP 10 (List.take (y1.toNat - (IntKind.i64.wrap (x1 + 1)).toNat) (List.drop (IntKind.i64.wrap (x1 + 1)).toNat x0)) 0)
 (Tk.paX IP 10 (List.take (y1.toNat - (IntKind.i64.wrap (x1 + 1)).toNat) (List.drop (IntKind.i64.wrap (x1 + 1)).toNat x0)) 0) x2 x3 x4 x5)))
 none)
 (some false)) (fun y3=>
 .br (y3) (.at (.done 0)) (.at (.next ((x0,IntKind.i64.wrap (x1 + 1),x2,x3,x4,x5)))))
 (.no))
 (.no))
 (.no))
 (.br (decide ((List.drop (IntKind.i64.wrap (y1 + 1)).toNat x0).length ≠ 0) &&
 room
 ((List.take (y1.toNat - (IntKind.i64.wrap (x1 + 1)).toNat) (List.drop (IntKind.i64.wrap (x1 + 1)).toNat x0)).length + (List.drop (IntKind.i64.wrap (y1 + 1)).toNat x0).length)
 32)
 (.br (Tk.paB IP 10 (List.take (y1.toNat - (IntKind.i64.wrap (x1 + 1)).toNat) (List.drop (IntKind.i64.wrap (x1 + 1)).toNat x0) ++ List.drop (IntKind.i64.wrap (y1 + 1)).toNat x0) 0)
 (.bi (br
 (Tk.paE IP 10 (List.take (y1.toNat - (IntKind.i64.wrap (x1 + 1)).toNat) (List.drop (IntKind.i64.wrap (x1 + 1)).toNat x0) ++ List.drop (IntKind.i64.wrap (y1 + 1)).toNat x0) 0 ==
 0)
 (some
 (Tk.paK IP 10 (List.take (y1.toNat - (IntKind.i64.wrap (x1 + 1)).toNat) (List.drop (IntKind.i64.wrap (x1 + 1)).toNat x0) ++ List.drop (IntKind.i64.wrap (y1 + 1)).toNat x0) 0 ==
 ((List.take (y1.toNat - (IntKind.i64.wrap (x1 + 1)).toNat) (List.drop (IntKind.i64.wrap (x1 + 1)).toNat x0) ++ List.drop (IntKind.i64.wrap (y1 + 1)).toNat x0).length :
 Int)))
 (some false)) (fun y2=>
 .bi (br y2
 (br
 (sm
 (qaJ
 (Tk.paO IP 10 (List.take (y1.toNat - (IntKind.i64.wrap (x1 + 1)).toNat) (List.drop (IntKind.i64.wrap (x1 + 1)).toNat x0) ++ List.drop (IntKind.i64.wrap (y1 + 1)).toNat x0)
 0)
 (Tk.paN IP 10 (List.take (y1.toNat - (IntKind.i64.wrap (x1 + 1)).toNat) (List.drop (IntKind.i64.wrap (x1 + 1)).toNat x0) ++ List.drop (IntKind.i64.wrap (y1 + 1)).toNat x0)
 0)
 (Tk.paS IP 10 (List.take (y1.toNat - (IntKind.i64.wrap (x1 + 1)).toNat) (List.drop (IntKind.i64.wrap (x1 + 1)).toNat x0) ++ List.drop (IntKind.i64.wrap (y1 + 1)).toNat x0)
 0)
 (Tk.paX IP 10 (List.take (y1.toNat - (IntKind.i64.wrap (x1 + 1)).toNat) (List.drop (IntKind.i64.wrap (x1 + 1)).toNat x0) ++ List.drop (IntKind.i64.wrap (y1 + 1)).toNat x0)
 0)
 x2 x3 x4 x5))
 (some
 (gv
 (qaJ
 (Tk.paO IP 10
 (List.take (y1.toNat - (IntKind.i64.wrap (x1 + 1)).toNat) (List.drop (IntKind.i64.wrap (x1 + 1)).toNat x0) ++ List.drop (IntKind.i64.wrap (y1 + 1)).toNat x0) 0)
 (Tk.paN IP 10
 (List.take (y1.toNat - (IntKind.i64.wrap (x1 + 1)).toNat) (List.drop (IntKind.i64.wrap (x1 + 1)).toNat x0) ++ List.drop (IntKind.i64.wrap (y1 + 1)).toNat x0) 0)
 (Tk.paS IP 10
 (List.take (y1.toNat - (IntKind.i64.wrap (x1 + 1)).toNat) (List.drop (IntKind.i64.wrap (x1 + 1)).toNat x0) ++ List.drop (IntKind.i64.wrap (y1 + 1)).toNat x0) 0)
 (Tk.paX IP 10
 (List.take (y1.toNat - (IntKind.i64.wrap (x1 + 1)).toNat) (List.drop (IntKind.i64.wrap (x1 + 1)).toNat x0) ++ List.drop (IntKind.i64.wrap (y1 + 1)).toNat x0) 0)
 x2 x3 x4 x5)))
 none)
 (some false)) (fun y3=>
 .br (y3) (.at (.done 0)) (.at (.next ((x0,IntKind.i64.wrap (x1 + 1),x2,x3,x4,x5)))))
 (.no))
 (.no))
 (.no))
 (.no)))
 (.no))
 (.no)))
 (.no))
 (.br (decide ((List.take x1.toNat x0).length ≠ 0) && room (List.take x1.toNat x0).length 32)
 (.br (leB y1 x0.length && leB (IntKind.i64.wrap (x1 + 1)) y1.toNat)
 (.br (decide ((List.take (y1.toNat - (IntKind.i64.wrap (x1 + 1)).toNat) (List.drop (IntKind.i64.wrap (x1 + 1)).toNat x0)).length = 0) && decide (3 = 3))
 (.br (leB (IntKind.i64.wrap (y1 + 1)) x0.length)
 (.br (decide ((List.drop (IntKind.i64.wrap (y1 + 1)).toNat x0).length = 0) && decide (3 = 3))
 (.br (Tk.paB IP 10 (List.take x1.toNat x0) 0)
 (.bi (br (Tk.paE IP 10 (List.take x1.toNat x0) 0 == 0) (some (Tk.paK IP 10 (List.take x1.toNat x0) 0 == ((List.take x1.toNat x0).length:Int))) (some false)) (fun y2=>
 .bi (br y2
 (br
 (sm
 (qaJ (Tk.paO IP 10 (List.take x1.toNat x0) 0) (Tk.paN IP 10 (List.take x1.toNat x0) 0) (Tk.paS IP 10 (List.take x1.toNat x0) 0)
 (Tk.paX IP 10 (List.take x1.toNat x0) 0) x2 x3 x4 x5))
 (some
 (gv
 (qaJ (Tk.paO IP 10 (List.take x1.toNat x0) 0) (Tk.paN IP 10 (List.take x1.toNat x0) 0) (Tk.paS IP 10 (List.take x1.toNat x0) 0)
 (Tk.paX IP 10 (List.take x1.toNat x0) 0) x2 x3 x4 x5)))
 none)
 (some false)) (fun y3=>
 .br (y3) (.at (.done 0)) (.at (.next ((x0,IntKind.i64.wrap (x1 + 1),x2,x3,x4,x5)))))
 (.no))
 (.no))
 (.no))
 (.br (decide ((List.drop (IntKind.i64.wrap (y1 + 1)).toNat x0).length ≠ 0) && room ((List.take x1.toNat x0).length + (List.drop (IntKind.i64.wrap (y1 + 1)).toNat x0).length) 32)
 (.br (Tk.paB IP 10 (List.take x1.toNat x0 ++ List.drop (IntKind.i64.wrap (y1 + 1)).toNat x0) 0)
 (.bi (br (Tk.paE IP 10 (List.take x1.toNat x0 ++ List.drop (IntKind.i64.wrap (y1 + 1)).toNat x0) 0 == 0)
 (some
 (Tk.paK IP 10 (List.take x1.toNat x0 ++ List.drop (IntKind.i64.wrap (y1 + 1)).toNat x0) 0 ==
 ((List.take x1.toNat x0 ++ List.drop (IntKind.i64.wrap (y1 + 1)).toNat x0).length:Int)))
 (some false)) (fun y2=>
 .bi (br y2
 (br
 (sm
 (qaJ (Tk.paO IP 10 (List.take x1.toNat x0 ++ List.drop (IntKind.i64.wrap (y1 + 1)).toNat x0) 0)
 (Tk.paN IP 10 (List.take x1.toNat x0 ++ List.drop (IntKind.i64.wrap (y1 + 1)).toNat x0) 0)
 (Tk.paS IP 10 (List.take x1.toNat x0 ++ List.drop (IntKind.i64.wrap (y1 + 1)).toNat x0) 0)
 (Tk.paX IP 10 (List.take x1.toNat x0 ++ List.drop (IntKind.i64.wrap (y1 + 1)).toNat x0) 0) x2 x3 x4 x5))
 (some
 (gv
 (qaJ (Tk.paO IP 10 (List.take x1.toNat x0 ++ List.drop (IntKind.i64.wrap (y1 + 1)).toNat x0) 0)
 (Tk.paN IP 10 (List.take x1.toNat x0 ++ List.drop (IntKind.i64.wrap (y1 + 1)).toNat x0) 0)
 (Tk.paS IP 10 (List.take x1.toNat x0 ++ List.drop (IntKind.i64.wrap (y1 + 1)).toNat x0) 0)
 (Tk.paX IP 10 (List.take x1.toNat x0 ++ List.drop (IntKind.i64.wrap (y1 + 1)).toNat x0) 0) x2 x3 x4 x5)))
 none)
 (some false)) (fun y3=>
 .br (y3) (.at (.done 0)) (.at (.next ((x0,IntKind.i64.wrap (x1 + 1),x2,x3,x4,x5)))))
 (.no))
 (.no))
 (.no))
 (.no)))
 (.no))
 (.br (decide ((List.take (y1.toNat - (IntKind.i64.wrap (x1 + 1)).toNat) (List.drop (IntKind.i64.wrap (x1 + 1)).toNat x0)).length ≠ 0) &&
 room ((List.take x1.toNat x0).length + (List.take (y1.toNat - (IntKind.i64.wrap (x1 + 1)).toNat) (List.drop (IntKind.i64.wrap (x1 + 1)).toNat x0)).length) 32)
 (.br (leB (IntKind.i64.wrap (y1 + 1)) x0.length)
 (.br (decide ((List.drop (IntKind.i64.wrap (y1 + 1)).toNat x0).length = 0) && decide (3 = 3))
 (.br (Tk.paB IP 10 (List.take x1.toNat x0 ++ List.take (y1.toNat - (IntKind.i64.wrap (x1 + 1)).toNat) (List.drop (IntKind.i64.wrap (x1 + 1)).toNat x0)) 0)
 (.bi (br (Tk.paE IP 10 (List.take x1.toNat x0 ++ List.take (y1.toNat - (IntKind.i64.wrap (x1 + 1)).toNat) (List.drop (IntKind.i64.wrap (x1 + 1)).toNat x0)) 0 == 0)
 (some
 (Tk.paK IP 10 (List.take x1.toNat x0 ++ List.take (y1.toNat - (IntKind.i64.wrap (x1 + 1)).toNat) (List.drop (IntKind.i64.wrap (x1 + 1)).toNat x0)) 0 ==
 ((List.take x1.toNat x0 ++ List.take (y1.toNat - (IntKind.i64.wrap (x1 + 1)).toNat) (List.drop (IntKind.i64.wrap (x1 + 1)).toNat x0)).length:Int)))
 (some false)) (fun y2=>
 .bi (br y2
 (br
 (sm
 (qaJ (Tk.paO IP 10 (List.take x1.toNat x0 ++ List.take (y1.toNat - (IntKind.i64.wrap (x1 + 1)).toNat) (List.drop (IntKind.i64.wrap (x1 + 1)).toNat x0)) 0)
 (Tk.paN IP 10 (List.take x1.toNat x0 ++ List.take (y1.toNat - (IntKind.i64.wrap (x1 + 1)).toNat) (List.drop (IntKind.i64.wrap (x1 + 1)).toNat x0)) 0)
 (Tk.paS IP 10 (List.take x1.toNat x0 ++ List.take (y1.toNat - (IntKind.i64.wrap (x1 + 1)).toNat) (List.drop (IntKind.i64.wrap (x1 + 1)).toNat x0)) 0)
 (Tk.paX IP 10 (List.take x1.toNat x0 ++ List.take (y1.toNat - (IntKind.i64.wrap (x1 + 1)).toNat) (List.drop (IntKind.i64.wrap (x1 + 1)).toNat x0)) 0) x2 x3 x4 x5))
 (some
 (gv
 (qaJ (Tk.paO IP 10 (List.take x1.toNat x0 ++ List.take (y1.toNat - (IntKind.i64.wrap (x1 + 1)).toNat) (List.drop (IntKind.i64.wrap (x1 + 1)).toNat x0)) 0)
 (Tk.paN IP 10 (List.take x1.toNat x0 ++ List.take (y1.toNat - (IntKind.i64.wrap (x1 + 1)).toNat) (List.drop (IntKind.i64.wrap (x1 + 1)).toNat x0)) 0)
 (Tk.paS IP 10 (List.take x1.toNat x0 ++ List.take (y1.toNat - (IntKind.i64.wrap (x1 + 1)).toNat) (List.drop (IntKind.i64.wrap (x1 + 1)).toNat x0)) 0)
 (Tk.paX IP 10 (List.take x1.toNat x0 ++ List.take (y1.toNat - (IntKind.i64.wrap (x1 + 1)).toNat) (List.drop (IntKind.i64.wrap (x1 + 1)).toNat x0)) 0) x2 x3 x4 x5)))
 none)
 (some false)) (fun y3=>
 .br (y3) (.at (.done 0)) (.at (.next ((x0,IntKind.i64.wrap (x1 + 1),x2,x3,x4,x5)))))
 (.no))
 (.no))
 (.no))
 (.br (decide ((List.drop (IntKind.i64.wrap (y1 + 1)).toNat x0).length ≠ 0) &&
 room
 ((List.take x1.toNat x0 ++ List.take (y1.toNat - (IntKind.i64.wrap (x1 + 1)).toNat) (List.drop (IntKind.i64.wrap (x1 + 1)).toNat x0)).length +
 (List.drop (IntKind.i64.wrap (y1 + 1)).toNat x0).length)
 32)
 (.br (Tk.paB IP 10
 (List.take x1.toNat x0 ++ List.take (y1.toNat - (IntKind.i64.wrap (x1 + 1)).toNat) (List.drop (IntKind.i64.wrap (x1 + 1)).toNat x0) ++
 List.drop (IntKind.i64.wrap (y1 + 1)).toNat x0)
 0)
 (.bi (br
 (Tk.paE IP 10
 (List.take x1.toNat x0 ++ List.take (y1.toNat - (IntKind.i64.wrap (x1 + 1)).toNat) (List.drop (IntKind.i64.wrap (x1 + 1)).toNat x0) ++
 List.drop (IntKind.i64.wrap (y1 + 1)).toNat x0)
 0 ==
 0)
 (some
 (Tk.paK IP 10
 (List.take x1.toNat x0 ++ List.take (y1.toNat - (IntKind.i64.wrap (x1 + 1)).toNat) (List.drop (IntKind.i64.wrap (x1 + 1)).toNat x0) ++
 List.drop (IntKind.i64.wrap (y1 + 1)).toNat x0)
 0 ==
 ((List.take x1.toNat x0 ++ List.take (y1.toNat - (IntKind.i64.wrap (x1 + 1)).toNat) (List.drop (IntKind.i64.wrap (x1 + 1)).toNat x0) ++
 List.drop (IntKind.i64.wrap (y1 + 1)).toNat x0).length :
 Int)))
 (some false)) (fun y2=>
 .bi (br y2
 (br
 (sm
 (qaJ
 (Tk.paO IP 10
 (List.take x1.toNat x0 ++ List.take (y1.toNat - (IntKind.i64.wrap (x1 + 1)).toNat) (List.drop (IntKind.i64.wrap (x1 + 1)).toNat x0) ++
 List.drop (IntKind.i64.wrap (y1 + 1)).toNat x0)
 0)
 (Tk.paN IP 10
 (List.take x1.toNat x0 ++ List.take (y1.toNat - (IntKind.i64.wrap (x1 + 1)).toNat) (List.drop (IntKind.i64.wrap (x1 + 1)).toNat x0) ++
 List.drop (IntKind.i64.wrap (y1 + 1)).toNat x0)
 0)
 (Tk.paS IP 10
 (List.take x1.toNat x0 ++ List.take (y1.toNat - (IntKind.i64.wrap (x1 + 1)).toNat) (List.drop (IntKind.i64.wrap (x1 + 1)).toNat x0) ++
 List.drop (IntKind.i64.wrap (y1 + 1)).toNat x0)
 0)
 (Tk.paX IP 10
 (List.take x1.toNat x0 ++ List.take (y1.toNat - (IntKind.i64.wrap (x1 + 1)).toNat) (List.drop (IntKind.i64.wrap (x1 + 1)).toNat x0) ++
 List.drop (IntKind.i64.wrap (y1 + 1)).toNat x0)
 0)
 x2 x3 x4 x5))
 (some
 (gv
 (qaJ
 (Tk.paO IP 10
 (List.take x1.toNat x0 ++ List.take (y1.toNat - (IntKind.i64.wrap (x1 + 1)).toNat) (List.drop (IntKind.i64.wrap (x1 + 1)).toNat x0) ++
 List.drop (IntKind.i64.wrap (y1 + 1)).toNat x0)
 0)
 (Tk.paN IP 10
 (List.take x1.toNat x0 ++ List.take (y1.toNat - (IntKind.i64.wrap (x1 + 1)).toNat) (List.drop (IntKind.i64.wrap (x1 + 1)).toNat x0) ++
 List.drop (IntKind.i64.wrap (y1 + 1)).toNat x0)
 0)
 (Tk.paS IP 10
 (List.take x1.toNat x0 ++ List.take (y1.toNat - (IntKind.i64.wrap (x1 + 1)).toNat) (List.drop (IntKind.i64.wrap (x1 + 1)).toNat x0) ++
 List.drop (IntKind.i64.wrap (y1 + 1)).toNat x0)
 0)
 (Tk.paX IP 10
 (List.take x1.toNat x0 ++ List.take (y1.toNat - (IntKind.i64.wrap (x1 + 1)).toNat) (List.drop (IntKind.i64.wrap (x1 + 1)).toNat x0) ++
 List.drop (IntKind.i64.wrap (y1 + 1)).toNat x0)
 0)
 x2 x3 x4 x5)))
 none)
 (some false)) (fun y3=>
 .br (y3) (.at (.done 0)) (.at (.next ((x0,IntKind.i64.wrap (x1 + 1),x2,x3,x4,x5)))))
 (.no))
 (.no))
 (.no))
 (.no)))
 (.no))
 (.no)))
 (.no))
 (.no)))
 (.no)))
 (.no)))
 (.no))
 (.no))
 (.at (.done 1))
def qrP:qfL -> DT (Rd qfL):=(fun v=>qhi v.1 v.2.1 v.2.2.1 v.2.2.2.1 v.2.2.2.2.1 v.2.2.2.2.2)
def qtL (v:qfL):Option (Nat × qfL):=qa2 (qaw (fun v=>(qrP v).ev) v)
theorem qtM (v):qtL v = qaw (fun v=>(qrP v).ev) v:=qab _
def qFJ:qdA:=LE (τ:=qfL) (hD qE6) (qtL) qXg
theorem qWA:Go.Eng.Told IP (qah F7 0).1 (qah F7 0).2 (qFJ):=lp (inferInstance:Inhabited qfL) (hs:=qE6) qrP qvV qtM
abbrev qMO:Type:=Bool
def qPf:PArgs:=⟨[.agg [.int .i64,.int .i64,.str,.view 4]],[]⟩
def qP0:List PRes:=[⟨false,.bool,[]⟩]
def qsv (x0 x1:Int) (x2:List UInt8) (x3:List AV):DT qMO:=
 .bi (qdN x0 x1 x2 x3 300) (fun y0=>
 .bi (br y0 (some true) (br (sm (qeT x0 x1 x2 x3)) (some (gv (qeT x0 x1 x2 x3) != 0)) none)) (fun y1=>
 .br (y1)
 (.bi (qbp) (fun y2=>
 .at (y2))
 (.no))
 (.bi (qf8 x0 x1 x2 x3) (fun y2=>
 .br (y2.2 != 0)
 (.at (false))
 (.bi (pj 0 (qtL (y2.1,0,x0,x1,x2,x3))) (fun y3=>
 .at (false))
 (.bi (pj 1 (qtL (y2.1,0,x0,x1,x2,x3))) (fun y3=>
 .bi (qbp) (fun y4=>
 .at (y4))
 (.no))
 (.no))))
 (.no)))
 (.no))
 (.no)
def qx9 (x0 x1:Int) (x2:List UInt8) (x3:List AV):Option qMO:=qa2 (qsv x0 x1 x2 x3).ev
theorem qEp (x0 x1 x2 x3):qx9 x0 x1 x2 x3 = (qsv x0 x1 x2 x3).ev:=qab _
theorem qOg:FH IP 7 qPf qP0 (k4 qx9):=qak (F:=F7) (L:=[(1000700,qFJ)]) (t:=(k4 qsv)) qvV (qae (l:=[qah F7 0]) (by kernel_rfl) ⟨qaH (by kernel_rfl) qWA,trivial⟩) (by kernel_rfl) (fun v=>by kernel_rfl) (fun _=>qab _)
def q0S:Tab:=(7,FE qPf qP0 (k4 qx9)) :: q0R
theorem qCZ:qao IP q0S:=⟨qan qOg,qvV⟩
abbrev qMS:Type:=Bool × List AV × Int
def qPj:PArgs:=⟨[.ref 0 0 0,.str],[(0,.box [.view 3,.int .i64] false)]⟩
def qP4:List PRes:=[⟨false,.bool,[(0,.box [.view 3,.int .i64] false)]⟩]
def qsz (x0:List UInt8) (x1:List AV) (x2:Int):DT qMS:=
 .br (decide (x2 >= (x1.length:Int)))
 (.at ((false,x1,x2)))
 (.br (qaQ [.int .i64,.int .i64,.str] x1 x2)
 (.br (!strOf (cellAt x1 x2 2) == x0)
 (.at ((false,x1,x2)))
 (.bi (qgV x0) (fun y0=>
 .br (y0)
 (.br (qaQ [.int .i64,.int .i64,.str] x1 x2) (.at ((intOf (cellAt x1 x2 0) == 5,x1,x2))) (.no))
 (.br (qaQ [.int .i64,.int .i64,.str] x1 x2) (.at ((intOf (cellAt x1 x2 0) == 4,x1,x2))) (.no)))
 (.no)))
 (.no))
def qtu (x0:List UInt8) (x1:List AV) (x2:Int):Option qMS:=qa2 (qsz x0 x1 x2).ev
theorem qEt (x0 x1 x2):qtu x0 x1 x2 = (qsz x0 x1 x2).ev:=qab _
theorem qUV:FH IP 76 qPj qP4 (k3 qtu):=fh F76 (k3 qsz) qCZ
def q0T:Tab:=(76,FE qPj qP4 (k3 qtu)) :: q0S
theorem qC0:qao IP q0T:=⟨qan qUV,qCZ⟩
abbrev qMF:Type:=Bool × List AV × Int
def qO5:PArgs:=⟨[.ref 0 0 0,.str],[(0,.box [.view 3,.int .i64] false)]⟩
def qPQ:List PRes:=[⟨false,.bool,[(0,.box [.view 3,.int .i64] false)]⟩]
def qsg (x0:List UInt8) (x1:List AV) (x2:Int):DT qMF:=
 .bi (qtu x0 x1 x2) (fun y0=>
 .br (!y0.1) (.at ((false,y0.2.1,y0.2.2))) (.at ((true,y0.2.1,IntKind.i64.wrap (y0.2.2 + 1)))))
 (.no)
def qct (x0:List UInt8) (x1:List AV) (x2:Int):Option qMF:=qa2 (qsg x0 x1 x2).ev
theorem qEd (x0 x1 x2):qct x0 x1 x2 = (qsg x0 x1 x2).ev:=qab _
theorem qUF:FH IP 46 qO5 qPQ (k3 qct):=fh F46 (k3 qsg) qC0
def q0U:Tab:=(46,FE qO5 qPQ (k3 qct)) :: q0T
theorem qC1:qao IP q0U:=⟨qan qUF,qC0⟩
abbrev qML:Type:=Int × List AV × Int
def qPc:PArgs:=⟨[.ref 0 0 0],[(0,.box [.view 3,.int .i64] false)]⟩
def qPX:List PRes:=[⟨true,.iface 53 (.agg [.int .i64]),[(0,.box [.view 3,.int .i64] false)]⟩]
def qsq (x0:List AV) (x1:Int):DT qML:=
 .at ((x1,x0,x1))
def qfo (x0:List AV) (x1:Int):Option qML:=qa2 (qsq x0 x1).ev
theorem qEm (x0 x1):qfo x0 x1 = (qsq x0 x1).ev:=qab _
theorem qUP:FH IP 80 qPc qPX (k2 qfo):=fh F80 (k2 qsq) qC1
def q0V:Tab:=(80,FE qPc qPX (k2 qfo)) :: q0U
theorem qC2:qao IP q0V:=⟨qan qUP,qC1⟩
abbrev qCB:Type:=(Int × List AV × Int) ⊕ (Int × List AV × Int)
def qO6:PArgs:=⟨[.ref 0 0 0],[(0,.box [.view 3,.int .i64] false)]⟩
def qPR:List PRes:=[⟨false,.int .i64,[(0,.box [.view 3,.int .i64] false)]⟩,⟨true,.iface 53 (.agg [.int .i64]),[(0,.box [.view 3,.int .i64] false)]⟩]
def qsh (x0:List AV) (x1:Int):DT qCB:=
 .br (decide (x1 >= (x0.length:Int)))
 (.bi (qfo x0 x1) (fun y0=>
 .at ((.inr (y0.1,y0.2.1,y0.2.2))))
 (.no))
 (.br (qaQ [.int .i64,.int .i64,.str] x0 x1)
 (.br (intOf (cellAt x0 x1 0) != 2)
 (.bi (qfo x0 x1) (fun y0=>
 .at ((.inr (y0.1,y0.2.1,y0.2.2))))
 (.no))
 (.br (qaQ [.int .i64,.int .i64,.str] x0 x1)
 (.br (pOk (strOf (cellAt x0 x1 2)) && nOk (Lib.atoiAll (strOf (cellAt x0 x1 2))))
 (.bi (br (gv (some (decide (qJO (Lib.atoiAll (strOf (cellAt x0 x1 2))) < 0)))) (some true)
 (br (decide (-9223372036854775808 <= qJO (Lib.atoiAll (strOf (cellAt x0 x1 2)))) && decide (qJO (Lib.atoiAll (strOf (cellAt x0 x1 2))) <= 9223372036854775807))
 (some !Lib.itoa (qJO (Lib.atoiAll (strOf (cellAt x0 x1 2)))) == strOf (cellAt x0 x1 2)) none)) (fun y0=>
 .br (y0)
 (.bi (qfo x0 x1) (fun y1=>
 .at ((.inr (y1.1,y1.2.1,y1.2.2))))
 (.no))
 (.at ((.inl (qJO (Lib.atoiAll (strOf (cellAt x0 x1 2))),x0,IntKind.i64.wrap (x1 + 1))))))
 (.no))
 (.br (pOk (strOf (cellAt x0 x1 2)) && qg9 (Lib.atoiAll (strOf (cellAt x0 x1 2))))
 (.bi (qfo x0 x1) (fun y0=>
 .at ((.inr (y0.1,y0.2.1,y0.2.2))))
 (.no))
 (.br (pOk (strOf (cellAt x0 x1 2)) && qdu (Lib.atoiAll (strOf (cellAt x0 x1 2))))
 (.bi (qfo x0 x1) (fun y0=>
 .at ((.inr (y0.1,y0.2.1,y0.2.2))))
 (.no))
 (.no))))
 (.no)))
 (.no))
def qdd (x0:List AV) (x1:Int):Option qCB:=qa2 (qsh x0 x1).ev
theorem qEe (x0 x1):qdd x0 x1 = (qsh x0 x1).ev:=qab _
theorem qUH:FH IP 126 qO6 qPR (k2 qdd):=fh qYb (k2 qsh) qC2
def q0W:Tab:=(126,FE qO6 qPR (k2 qdd)) :: q0V
theorem qC3:qao IP q0W:=⟨qan qUH,qC2⟩
abbrev qMM:Type:=(Int × List AV × Int) ⊕ (List AV × Int)
def qPd:PArgs:=⟨[.ref 0 0 0,.str],[(0,.box [.view 3,.int .i64] false)]⟩
def qPY:List PRes:=[⟨true,.iface 53 (.agg [.int .i64]),[(0,.box [.view 3,.int .i64] false)]⟩,⟨false,.tup [],[(0,.box [.view 3,.int .i64] false)]⟩]
def qss (x0:List UInt8) (x1:List AV) (x2:Int):DT qMM:=
 .bi (qct x0 x1 x2) (fun y0=>
 .br (!y0.1)
 (.bi (qfo y0.2.1 y0.2.2) (fun y1=>
 .at ((.inl (y1.1,y1.2.1,y1.2.2))))
 (.no))
 (.at ((.inr (y0.2.1,y0.2.2)))))
 (.no)
def qde (x0:List UInt8) (x1:List AV) (x2:Int):Option qMM:=qa2 (qss x0 x1 x2).ev
theorem qEn (x0 x1 x2):qde x0 x1 x2 = (qss x0 x1 x2).ev:=qab _
theorem qUR:FH IP 48 qPd qPY (k3 qde):=fh F48 (k3 qss) qC3
def q0X:Tab:=(48,FE qPd qPY (k3 qde)) :: q0W
theorem qvW:qao IP q0X:=⟨qan qUR,qC3⟩
abbrev qfK:Type:=List AV × Int × Int × List AV × Int
def qE4:List PSt:=[⟨[(1007900,.junk),(0,.ref 0 0 0),(10,.view 2),(11,.int .i64),(12,.int .i64)],[(0,.box [.view 3,.int .i64] false)],1,1⟩]
def qLu (x0:List AV) (x1 x2:Int) (x3:List AV) (x4:Int):X × St:=(.ret,
 ⟨[(4,.int .i64 (intOf (cellAt x0 x2 1)))],[(0,
 .box
 [.view 3 (gv (qct (strOf (cellAt x0 x2 0)) x3 x4)).2.1,.int .i64 (gv (qct (strOf (cellAt x0 x2 0)) x3 x4)).2.2]
 false)],1,1⟩)
def qLw (x0:List AV) (x1 x2:Int) (x3:List AV) (x4:Int):X × St:=(.exit 0,⟨[(4,.junk)],[(0,.box [.view 3 x3,.int .i64 x4] false)],1,1⟩)
def qXe:List (qfK -> X × St):=[(k5 qLu),(k5 qLw)]
def qhh (x0:List AV) (x1 x2:Int) (x3:List AV) (x4:Int):DT (Rd qfK):=
 .br (decide (x2 < x1))
 (.br (qaQ [.str,.int .i64] x0 x2)
 (.bi (qct (strOf (cellAt x0 x2 0)) x3 x4) (fun y0=>
 .br (y0.1) (.at (.done 0)) (.at (.next ((x0,x1,IntKind.i64.wrap (x2 + 1),y0.2.1,y0.2.2)))))
 (.no))
 (.no))
 (.at (.done 1))
def qxn:qfK -> DT (Rd qfK):=(fun v=>qhh v.1 v.2.1 v.2.2.1 v.2.2.2.1 v.2.2.2.2)
def qtJ (v:qfK):Option (Nat × qfK):=qa2 (qaw (fun v=>(qxn v).ev) v)
theorem qtK (v):qtJ v = qaw (fun v=>(qxn v).ev) v:=qab _
def qFH:qdA:=LE (τ:=qfK) (hD qE4) (qtJ) qXe
theorem qWy:Go.Eng.Told IP (qah F79 0).1 (qah F79 0).2 (qFH):=lp (inferInstance:Inhabited qfK) (hs:=qE4) qxn qvW qtK
abbrev qMC:Type:=Int × List AV × Int
def qO2:PArgs:=⟨[.ref 0 0 0,.int .i64],[(0,.box [.view 3,.int .i64] false)]⟩
def qPN:List PRes:=[⟨false,.int .i64,[(0,.box [.view 3,.int .i64] false)]⟩]
def qsd (x0:Int) (x1:List AV) (x2:Int):DT qMC:=
 .bi (qic) (fun y0=>
 .br (qaQ [.slice 2] y0 x0)
 (.bi (pj 0 (qtJ (qai (cellAt y0 x0 0),((qai (cellAt y0 x0 0)).length:Int),0,x1,x2))) (fun y1=>
 .at ((intOf (cellAt y1.1 y1.2.2.1 1),(gv (qct (strOf (cellAt y1.1 y1.2.2.1 0)) y1.2.2.2.1 y1.2.2.2.2)).2.1,(gv (qct (strOf (cellAt y1.1 y1.2.2.1 0)) y1.2.2.2.1 y1.2.2.2.2)).2.2)))
 (.bi (pj 1 (qtJ (qai (cellAt y0 x0 0),((qai (cellAt y0 x0 0)).length:Int),0,x1,x2))) (fun y1=>
 .at ((0,y1.2.2.2.1,y1.2.2.2.2)))
 (.no)))
 (.no))
 (.no)
def qkM (x0:Int) (x1:List AV) (x2:Int):Option qMC:=qa2 (qsd x0 x1 x2).ev
theorem qEb (x0 x1 x2):qkM x0 x1 x2 = (qsd x0 x1 x2).ev:=qab _
theorem qUB:FH IP 79 qO2 qPN (k3 qkM):=qak (F:=F79) (L:=[(1007900,qFH)]) (t:=(k3 qsd)) qvW (qae (l:=[qah F79 0]) (by kernel_rfl) ⟨qaH (by kernel_rfl) qWy,trivial⟩) (by kernel_rfl) (fun v=>by kernel_rfl) (fun _=>qab _)
def qYx:Tab:=(79,FE qO2 qPN (k3 qkM)) :: q0X
theorem qC4:qao IP qYx:=⟨qan qUB,qvW⟩
abbrev qCC:Type:=(Int × Int × List UInt8 × List AV × List AV × Int) ⊕ (Int × List AV × Int)
def quG:PArgs:=⟨[.ref 0 0 0],[(0,.box [.view 3,.int .i64] false)]⟩
def quV:List PRes:=[⟨false,.agg [.int .i64,.int .i64,.str,.view 4],[(0,.box [.view 3,.int .i64] false)]⟩,⟨true,.iface 53 (.agg [.int .i64]),[(0,.box [.view 3,.int .i64] false)]⟩]
abbrev qbw:Type:=(List AV) -> Int -> Option qCC
abbrev qlX:Type:=(Int × Int × List UInt8 × List AV × List AV × Int) ⊕ (Int × List AV × Int)
def quD:PArgs:=⟨[.ref 0 0 0,.int .i64],[(0,.box [.view 3,.int .i64] false)]⟩
def quS:List PRes:=[⟨false,.agg [.int .i64,.int .i64,.str,.view 4],[(0,.box [.view 3,.int .i64] false)]⟩,⟨true,.iface 53 (.agg [.int .i64]),[(0,.box [.view 3,.int .i64] false)]⟩]
abbrev qbv:Type:=Int -> (List AV) -> Int -> Option qlX
abbrev qCE:Type:=(Int × Int × List UInt8 × List AV × List AV × Int) ⊕ (Int × List AV × Int)
def quI:PArgs:=⟨[.ref 0 0 0],[(0,.box [.view 3,.int .i64] false)]⟩
def quX:List PRes:=[⟨false,.agg [.int .i64,.int .i64,.str,.view 4],[(0,.box [.view 3,.int .i64] false)]⟩,⟨true,.iface 53 (.agg [.int .i64]),[(0,.box [.view 3,.int .i64] false)]⟩]
abbrev qby:Type:=(List AV) -> Int -> Option qCE
abbrev qxK:Type:=(Int × Int × List UInt8 × List AV × List AV × Int) ⊕ (Int × List AV × Int)
def quC:PArgs:=⟨[.ref 0 0 0],[(0,.box [.view 3,.int .i64] false)]⟩
def quR:List PRes:=[⟨false,.agg [.int .i64,.int .i64,.str,.view 4],[(0,.box [.view 3,.int .i64] false)]⟩,⟨true,.iface 53 (.agg [.int .i64]),[(0,.box [.view 3,.int .i64] false)]⟩]
abbrev qbu:Type:=(List AV) -> Int -> Option qxK
abbrev qCD:Type:=(Int × List AV × Int) ⊕ (Int × Int × List UInt8 × List AV × List AV × Int)
def quH:PArgs:=⟨[.ref 0 0 0,.int .i64],[(0,.box [.view 3,.int .i64] false)]⟩
def quW:List PRes:=[⟨true,.iface 53 (.agg [.int .i64]),[(0,.box [.view 3,.int .i64] false)]⟩,⟨false,.agg [.int .i64,.int .i64,.str,.view 4],[(0,.box [.view 3,.int .i64] false)]⟩]
abbrev qbx:Type:=Int -> (List AV) -> Int -> Option qCD
end
end Go.Proofs.H10

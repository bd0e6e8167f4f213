/- Functions over plain data. Printed by a program of mine. -/
import Derived.Test.YthljpgljbpdmjaaGreatDoorD15p_3
import Derived.KernelRfl
set_option linter.unusedVariables false
set_option linter.unusedSimpArgs false
set_option linter.unnecessarySimpa false
namespace Go.Proofs.H15p
open Go Go.Eng
set_option maxRecDepth 100000
noncomputable section
def qan:Nat -> qbw × qd8 × qca × qci
 | 0=>(fun _ _ _ _=>none,fun _=>none,fun _=>none,fun _ _ _ _=>none)
 | n + 1=>(fun x0 x1 x2 x3=>(quF ((qan n).1) ((qan n).2.1) ((qan n).2.2.1) ((qan n).2.2.2) x0 x1 x2 x3).ev,fun x0=>(qPD ((qan n).1) ((qan n).2.1) ((qan n).2.2.1) ((qan n).2.2.2) x0).ev,fun x0=>(qAx ((qan n).1) ((qan n).2.1) ((qan n).2.2.1) ((qan n).2.2.2) x0).ev,fun x0 x1 x2 x3=>(qAA ((qan n).1) ((qan n).2.1) ((qan n).2.2.1) ((qan n).2.2.2) x0 x1 x2 x3).ev)
def qtE (x0 x1:Int) (x2:List UInt8) (x3:List AV):Option qyk:=qka fun n=>(qan n).1 x0 x1 x2 x3
def q29 (x0:List AV):Option qXn:=qka fun n=>(qan n).2.1 x0
def qVl (x0:List AV):Option qF2:=qka fun n=>(qan n).2.2.1 x0
def qVn (x0 x1:Int) (x2:List UInt8) (x3:List AV):Option qHm:=qka fun n=>(qan n).2.2.2 x0 x1 x2 x3
theorem qeB:∀ n,qs7 ((qan n).1) ((qan n).2.1) ((qan n).2.2.1) ((qan n).2.2.2)
 | 0=>⟨(fun v y h=>nomatch h),(fun v y h=>nomatch h),(fun v y h=>nomatch h),(fun v y h=>nomatch h)⟩
 | n + 1=>have hG:=qeB n
 ⟨qag (F:=F86) (L:=[]) (t:=(k4 (quF ((qan n).1) ((qan n).2.1) ((qan n).2.2.1) ((qan n).2.2.2)))) (qdC ((qan n).1) ((qan n).2.1) ((qan n).2.2.1) ((qan n).2.2.2) hG) (qab (l:=[]) (by kernel_rfl) trivial) (by kernel_rfl) (fun v=>by kernel_rfl) (fun v=>rfl),qag (F:=q5h) (L:=[]) (t:=(qPD ((qan n).1) ((qan n).2.1) ((qan n).2.2.1) ((qan n).2.2.2))) (qdC ((qan n).1) ((qan n).2.1) ((qan n).2.2.1) ((qan n).2.2.2) hG) (qab (l:=[]) (by kernel_rfl) trivial) (by kernel_rfl) (fun v=>by kernel_rfl) (fun v=>rfl),qag (F:=qQM) (L:=[(1013300,qKR ((qan n).1) ((qan n).2.1) ((qan n).2.2.1) ((qan n).2.2.2))]) (t:=(qAx ((qan n).1) ((qan n).2.1) ((qan n).2.2.1) ((qan n).2.2.2))) (qdC ((qan n).1) ((qan n).2.1) ((qan n).2.2.1) ((qan n).2.2.2) hG) (qab (l:=[qae qQM 0]) (by kernel_rfl) ⟨qas (by kernel_rfl) (q32 ((qan n).1) ((qan n).2.1) ((qan n).2.2.1) ((qan n).2.2.2) hG),trivial⟩) (by kernel_rfl) (fun v=>by kernel_rfl) (fun v=>rfl),qag (F:=q5i) (L:=[]) (t:=(k4 (qAA ((qan n).1) ((qan n).2.1) ((qan n).2.2.1) ((qan n).2.2.2)))) (qdC ((qan n).1) ((qan n).2.1) ((qan n).2.2.1) ((qan n).2.2.2) hG) (qab (l:=[]) (by kernel_rfl) trivial) (by kernel_rfl) (fun v=>by kernel_rfl) (fun v=>rfl)⟩
theorem qXX:FH IP 86 qpm qpC (k4 qtE):=qbK (p:=qpm) (rs:=qpC) (s:=fun n=>(k4 ((qan n).1))) fun n=>(qeB n).1
theorem q68:FH IP 108 qNv qPb q29:=qbK (p:=qNv) (rs:=qPb) (s:=fun n=>((qan n).2.1)) fun n=>(qeB n).2.1
theorem q2a:FH IP 133 qxy qxD qVl:=qbK (p:=qxy) (rs:=qxD) (s:=fun n=>((qan n).2.2.1)) fun n=>(qeB n).2.2.1
theorem q2H:FH IP 109 qxB qxG (k4 qVn):=qbK (p:=qxB) (rs:=qxG) (s:=fun n=>(k4 ((qan n).2.2.2))) fun n=>(qeB n).2.2.2
def T54:Tab:=(86,FE qpm qpC (k4 qtE)) :: T53
theorem q1S:qai IP T54:=⟨qaj qXX,qUH⟩
def T55:Tab:=(108,FE qNv qPb q29) :: T54
theorem q1T:qai IP T55:=⟨qaj q68,q1S⟩
def T56:Tab:=(133,FE qxy qxD qVl) :: T55
theorem q1U:qai IP T56:=⟨qaj q2a,q1T⟩
def T57:Tab:=(109,FE qxB qxG (k4 qVn)) :: T56
theorem qUI:qai IP T57:=⟨qaj q2H,q1U⟩
abbrev qTX:Type:=Int
def qWd:PArgs:=⟨[.agg [.int .i64,.int .i64,.str,.view 4]],[]⟩
def qWZ:List PRes:=[⟨false,.int .i64,[]⟩]
def qvg (x0 x1:Int) (x2:List UInt8) (x3:List AV):DT qTX:=
 .bi (qtF x0 x1 x2 x3) (fun y0=>
 .bi (br (decide (y0 > 64)) (some true) (br (sm (qnX x0 x1 x2 x3)) (some (decide (gv (qnX x0 x1 x2 x3) > 8))) none)) (fun y1=>
 .br (y1)
 (.at (5))
 (.bi (qtG x0 x1 x2 x3) (fun y2=>
 .br (!y2)
 (.at (1))
 (.bi (qtE x0 x1 x2 x3) (fun y3=>
 .br (!y3) (.at (4)) (.at (0)))
 (.no)))
 (.no)))
 (.no))
 (.no)
def qoA (x0 x1:Int) (x2:List UInt8) (x3:List AV):Option qTX:=qay (qvg x0 x1 x2 x3).ev
theorem qJE (x0 x1 x2 x3):qoA x0 x1 x2 x3 = (qvg x0 x1 x2 x3).ev:=qaa _
theorem q2G:FH IP 73 qWd qWZ (k4 qoA):=fh F73 (k4 qvg) qUI
def T58:Tab:=(73,FE qWd qWZ (k4 qoA)) :: T57
theorem qUJ:qai IP T58:=⟨qaj q2G,qUI⟩
abbrev qFX:Type:=Bool
def qL7:PArgs:=⟨[.int .i64],[]⟩
def qNN:List PRes:=[⟨false,.bool,[]⟩]
def qlP (x0:Int):DT qFX:=
 .bi (br (decide (x0 >= 1)) (some (decide (x0 <= 5))) (some false)) (fun y0=>
 .at (y0))
 (.no)
def qhQ (x0:Int):Option qFX:=qay (qlP x0).ev
theorem qDe (x0):qhQ x0 = (qlP x0).ev:=qaa _
theorem qXQ:FH IP 74 qL7 qNN qhQ:=fh F74 qlP qUJ
def T59:Tab:=(74,FE qL7 qNN qhQ) :: T58
theorem qIv:qai IP T59:=⟨qaj qXQ,qUJ⟩
abbrev qe6:Type:=List UInt8 × List AV × Int × Int
def qKg:List PSt:=[⟨[(1008900,.junk),(0,.str),(8,.view 2),(9,.int .i64),(10,.int .i64)],[],0,0⟩]
def qSB (x0:List UInt8) (x1:List AV) (x2 x3:Int):X × St:=(.ret,⟨[(4,.int .i64 0),(5,.int .i64 3)],[],0,0⟩)
def qSC (x0:List UInt8) (x1:List AV) (x2 x3:Int):X × St:=(.ret,⟨[(4,.int .i64 (intOf (cellAt x1 x3 1))),(5,.int .i64 0)],[],0,0⟩)
def qSD (x0:List UInt8) (x1:List AV) (x2 x3:Int):X × St:=(.exit 0,⟨[(4,.junk),(5,.junk)],[],0,0⟩)
def q4P:List (qe6 -> X × St):=[(k4 qSB),(k4 qSC),(k4 qSD)]
def qqg (x0:List UInt8) (x1:List AV) (x2 x3:Int):DT (Rd qe6):=
 .br (decide (x3 < x2))
 (.br (qaD [.str,.int .i64] x1 x3)
 (.br (strOf (cellAt x1 x3 0) == x0)
 (.bi (qhQ (intOf (cellAt x1 x3 1))) (fun y0=>
 .br (!y0) (.at (.done 0)) (.at (.done 1)))
 (.no))
 (.at (.next ((x0,x1,x2,IntKind.i64.wrap (x3 + 1))))))
 (.no))
 (.at (.done 2))
def qqf:qe6 -> DT (Rd qe6):=(fun v=>qqg v.1 v.2.1 v.2.2.1 v.2.2.2)
def qsC (v:qe6):Option (Nat × qe6):=qay (qap (fun v=>(qqf v).ev) v)
theorem qwL (v):qsC v = qap (fun v=>(qqf v).ev) v:=qaa _
def qK0:qbz:=LE (τ:=qe6) (hD qKg) (qsC) q4P
theorem q4b:Go.Eng.Told IP (qae F89 0).1 (qae F89 0).2 (qK0):=lp (inferInstance:Inhabited qe6) (hs:=qKg) qqf qIv qwL
abbrev qTN:Type:=Int × Int
def qV2:PArgs:=⟨[.str,.view 2],[]⟩
def qWO:List PRes:=[⟨false,.tup [.int .i64,.int .i64],[]⟩]
def qu6 (x0:List UInt8) (x1:List AV):DT qTN:=
 .bi (pj 0 (qsC (x0,x1,(x1.length:Int),0))) (fun y0=>
 .at ((0,3)))
 (.bi (pj 1 (qsC (x0,x1,(x1.length:Int),0))) (fun y0=>
 .at ((intOf (cellAt y0.2.1 y0.2.2.2 1),0)))
 (.bi (pj 2 (qsC (x0,x1,(x1.length:Int),0))) (fun y0=>
 .at ((0,4)))
 (.no)))
def qrR (x0:List UInt8) (x1:List AV):Option qTN:=qay (qu6 x0 x1).ev
theorem qJt (x0 x1):qrR x0 x1 = (qu6 x0 x1).ev:=qaa _
theorem q2u:FH IP 89 qV2 qWO (k2 qrR):=qag (F:=F89) (L:=[(1008900,qK0)]) (t:=(k2 qu6)) qIv (qab (l:=[qae F89 0]) (by kernel_rfl) ⟨qas (by kernel_rfl) q4b,trivial⟩) (by kernel_rfl) (fun v=>by kernel_rfl) (fun _=>qaa _)
def T60:Tab:=(89,FE qV2 qWO (k2 qrR)) :: T59
theorem qIw:qai IP T60:=⟨qaj q2u,qIv⟩
abbrev qfc:Type:=Int × List AV × List AV × Int × Int
def qKp:List PSt:=[⟨[(1009000,.junk),(0,.int .i64),(1,.view 1),(10,.view 1),(11,.int .i64),(12,.int .i64)],[],0,0⟩]
def qSU (x0:Int) (x1 x2:List AV) (x3 x4:Int):X × St:=(.ret,⟨[(0,.int .i64 x0),(1,.view 1 x1),(4,.int .i64 0),(5,.bool false)],[],0,0⟩)
def qSV (x0:Int) (x1 x2:List AV) (x3 x4:Int):X × St:=(.exit 0,⟨[(0,.int .i64 x0),(1,.view 1 x1),(4,.junk),(5,.junk)],[],0,0⟩)
def q4Y:List (qfc -> X × St):=[(k5 qSU),(k5 qSV)]
def qqs (x0:Int) (x1 x2:List AV) (x3 x4:Int):DT (Rd qfc):=
 .br (decide (x4 < x3))
 (.br (qaD [.int .i64] x2 x4)
 (.bi (qhQ (intOf (cellAt x2 x4 0))) (fun y0=>
 .br (!y0) (.at (.done 0)) (.at (.next ((x0,x1,x2,x3,IntKind.i64.wrap (x4 + 1))))))
 (.no))
 (.no))
 (.at (.done 1))
def qqr:qfc -> DT (Rd qfc):=(fun v=>qqs v.1 v.2.1 v.2.2.1 v.2.2.2.1 v.2.2.2.2)
def qwU (v:qfc):Option (Nat × qfc):=qay (qap (fun v=>(qqr v).ev) v)
theorem qwV (v):qwU v = qap (fun v=>(qqr v).ev) v:=qaa _
def qK9:qbz:=LE (τ:=qfc) (hD qKp) (qwU) q4Y
theorem q4k:Go.Eng.Told IP (qae F90 0).1 (qae F90 0).2 (qK9):=lp (inferInstance:Inhabited qfc) (hs:=qKp) qqr qIw qwV
abbrev qGx:Type:=Int × Bool
def qMF:PArgs:=⟨[.int .i64,.int .i64],[]⟩
def qOl:List PRes:=[⟨false,.tup [.int .i64,.bool],[]⟩]
def qmk (x0 x1:Int):DT qGx:=
 .br (x0 == 16)
 (.at ((5,x1 == 5)))
 (.br (x0 == 9)
 (.bi (br (x1 == 1) (some true) (some (x1 == 2))) (fun y0=>
 .bi (br y0 (some true) (some (x1 == 3))) (fun y1=>
 .at ((x1,y1)))
 (.no))
 (.no))
 (.at ((0,false))))
def qn3 (x0 x1:Int):Option qGx:=qay (qmk x0 x1).ev
theorem qDH (x0 x1):qn3 x0 x1 = (qmk x0 x1).ev:=qaa _
theorem qYs:FH IP 112 qMF qOl (k2 qn3):=fh q5M (k2 qmk) qIw
def T61:Tab:=(112,FE qMF qOl (k2 qn3)) :: T60
theorem q1W:qai IP T61:=⟨qaj qYs,qIw⟩
abbrev qTF:Type:=List (AV × AV)
def qVV:PArgs:=⟨[],[]⟩
def qWG:List PRes:=[⟨false,.mref 0,[(0,.mp)]⟩]
def qAz:DT qTF:=
 .at ([(AV.agg [.int .i64 5,.int .i64 1,.int .i64 1],.int .i64 1),
 (AV.agg [.int .i64 5,.int .i64 2,.int .i64 2],.int .i64 2),
 (AV.agg [.int .i64 5,.int .i64 3,.int .i64 3],.int .i64 3),
 (AV.agg [.int .i64 5,.int .i64 4,.int .i64 1],.int .i64 4),
 (AV.agg [.int .i64 6,.int .i64 1,.int .i64 1],.int .i64 1),
 (AV.agg [.int .i64 6,.int .i64 2,.int .i64 2],.int .i64 2),
 (AV.agg [.int .i64 6,.int .i64 3,.int .i64 3],.int .i64 3),
 (AV.agg [.int .i64 6,.int .i64 4,.int .i64 1],.int .i64 4),
 (AV.agg [.int .i64 6,.int .i64 4,.int .i64 4],.int .i64 1),
 (AV.agg [.int .i64 7,.int .i64 1,.int .i64 1],.int .i64 1),
 (AV.agg [.int .i64 7,.int .i64 1,.int .i64 2],.int .i64 2),
 (AV.agg [.int .i64 7,.int .i64 1,.int .i64 3],.int .i64 3),
 (AV.agg [.int .i64 7,.int .i64 2,.int .i64 1],.int .i64 2),
 (AV.agg [.int .i64 7,.int .i64 2,.int .i64 3],.int .i64 2),
 (AV.agg [.int .i64 7,.int .i64 3,.int .i64 1],.int .i64 3),
 (AV.agg [.int .i64 7,.int .i64 3,.int .i64 2],.int .i64 2),
 (AV.agg [.int .i64 8,.int .i64 1,.int .i64 1],.int .i64 1),
 (AV.agg [.int .i64 8,.int .i64 2,.int .i64 1],.int .i64 2),
 (AV.agg [.int .i64 8,.int .i64 2,.int .i64 2],.int .i64 1),
 (AV.agg [.int .i64 8,.int .i64 3,.int .i64 1],.int .i64 3)])
def qb6:Option qTF:=qay (qAz).ev
theorem qJm:qb6 = (qAz).ev:=qaa _
theorem q2n:FH IP 135 qVV qWG (fun _=>qb6):=q21 (fun _=>qaa _) (fun v=>by kernel_rfl)
def T62:Tab:=(135,FE qVV qWG (fun _=>qb6)) :: T61
theorem qUK:qai IP T62:=⟨qaj q2n,q1W⟩
abbrev qGy:Type:=Int × Bool
def qMG:PArgs:=⟨[.int .i64,.int .i64,.int .i64],[]⟩
def qOm:List PRes:=[⟨false,.tup [.int .i64,.bool],[]⟩]
def qml (x0 x1 x2:Int):DT qGy:=
 .br (x0 == 10)
 (.br (x0 == 10)
 (.at ((5,x1 == x2)))
 (.br (x0 == 12)
 (.br (x0 == 12)
 (.bi (br (x1 == x2) (some (x1 != 5)) (some false)) (fun y0=>
 .at ((5,y0)))
 (.no))
 (.br (x0 == 14)
 (.br (x0 == 14)
 (.bi (br (x1 == x2) (some (x1 == 5)) (some false)) (fun y0=>
 .at ((5,y0)))
 (.no))
 (.br (x0 == 17)
 (.br (x0 == 17)
 (.bi (br (x1 == x2) (some (x1 != 5)) (some false)) (fun y0=>
 .at ((x1,y0)))
 (.no))
 (.bi (qb6) (fun y0=>
 .br (qrj (true,[EK.i,EK.i,EK.i]) y0 (AV.agg [.int .i64 x0,.int .i64 x1,.int .i64 x2]))
 (.br (okE false [CS.int IntKind.i64] [qcO (true,[EK.i,EK.i,EK.i]) y0 (AV.agg [.int .i64 x0,.int .i64 x1,.int .i64 x2])] 0)
 (.at ((intOf (cellAt [qcO (true,[EK.i,EK.i,EK.i]) y0 (AV.agg [.int .i64 x0,.int .i64 x1,.int .i64 x2])] 0 0),intOf (cellAt [qcO (true,[EK.i,EK.i,EK.i]) y0 (AV.agg [.int .i64 x0,.int .i64 x1,.int .i64 x2])] 0 0) != 0)))
 (.no))
 (.br (qsG (true,[EK.i,EK.i,EK.i]) y0 (AV.agg [.int .i64 x0,.int .i64 x1,.int .i64 x2])) (.at ((0,false))) (.no)))
 (.no)))
 (.br (x0 == 18)
 (.bi (br (x1 == x2) (some (x1 != 5)) (some false)) (fun y0=>
 .at ((x1,y0)))
 (.no))
 (.bi (qb6) (fun y0=>
 .br (qrj (true,[EK.i,EK.i,EK.i]) y0 (AV.agg [.int .i64 x0,.int .i64 x1,.int .i64 x2]))
 (.br (okE false [CS.int IntKind.i64] [qcO (true,[EK.i,EK.i,EK.i]) y0 (AV.agg [.int .i64 x0,.int .i64 x1,.int .i64 x2])] 0)
 (.at ((intOf (cellAt [qcO (true,[EK.i,EK.i,EK.i]) y0 (AV.agg [.int .i64 x0,.int .i64 x1,.int .i64 x2])] 0 0),intOf (cellAt [qcO (true,[EK.i,EK.i,EK.i]) y0 (AV.agg [.int .i64 x0,.int .i64 x1,.int .i64 x2])] 0 0) != 0)))
 (.no))
 (.br (qsG (true,[EK.i,EK.i,EK.i]) y0 (AV.agg [.int .i64 x0,.int .i64 x1,.int .i64 x2])) (.at ((0,false))) (.no)))
 (.no)))))
 (.br (x0 == 15)
 (.bi (br (x1 == x2) (some (x1 == 5)) (some false)) (fun y0=>
 .at ((5,y0)))
 (.no))
 (.br (x0 == 17)
 (.br (x0 == 17)
 (.bi (br (x1 == x2) (some (x1 != 5)) (some false)) (fun y0=>
 .at ((x1,y0)))
 (.no))
 (.bi (qb6) (fun y0=>
 .br (qrj (true,[EK.i,EK.i,EK.i]) y0 (AV.agg [.int .i64 x0,.int .i64 x1,.int .i64 x2]))
 (.br (okE false [CS.int IntKind.i64] [qcO (true,[EK.i,EK.i,EK.i]) y0 (AV.agg [.int .i64 x0,.int .i64 x1,.int .i64 x2])] 0)
 (.at ((intOf (cellAt [qcO (true,[EK.i,EK.i,EK.i]) y0 (AV.agg [.int .i64 x0,.int .i64 x1,.int .i64 x2])] 0 0),intOf (cellAt [qcO (true,[EK.i,EK.i,EK.i]) y0 (AV.agg [.int .i64 x0,.int .i64 x1,.int .i64 x2])] 0 0) != 0)))
 (.no))
 (.br (qsG (true,[EK.i,EK.i,EK.i]) y0 (AV.agg [.int .i64 x0,.int .i64 x1,.int .i64 x2])) (.at ((0,false))) (.no)))
 (.no)))
 (.br (x0 == 18)
 (.bi (br (x1 == x2) (some (x1 != 5)) (some false)) (fun y0=>
 .at ((x1,y0)))
 (.no))
 (.bi (qb6) (fun y0=>
 .br (qrj (true,[EK.i,EK.i,EK.i]) y0 (AV.agg [.int .i64 x0,.int .i64 x1,.int .i64 x2]))
 (.br (okE false [CS.int IntKind.i64] [qcO (true,[EK.i,EK.i,EK.i]) y0 (AV.agg [.int .i64 x0,.int .i64 x1,.int .i64 x2])] 0)
 (.at ((intOf (cellAt [qcO (true,[EK.i,EK.i,EK.i]) y0 (AV.agg [.int .i64 x0,.int .i64 x1,.int .i64 x2])] 0 0),intOf (cellAt [qcO (true,[EK.i,EK.i,EK.i]) y0 (AV.agg [.int .i64 x0,.int .i64 x1,.int .i64 x2])] 0 0) != 0)))
 (.no))
 (.br (qsG (true,[EK.i,EK.i,EK.i]) y0 (AV.agg [.int .i64 x0,.int .i64 x1,.int .i64 x2])) (.at ((0,false))) (.no)))
 (.no)))))))
 (.br (x0 == 13)
 (.bi (br (x1 == x2) (some (x1 != 5)) (some false)) (fun y0=>
 .at ((5,y0)))
 (.no))
 (.br (x0 == 14)
 (.br (x0 == 14)
 (.bi (br (x1 == x2) (some (x1 == 5)) (some false)) (fun y0=>
 .at ((5,y0)))
 (.no))
 (.br (x0 == 17)
 (.br (x0 == 17)
 (.bi (br (x1 == x2) (some (x1 != 5)) (some false)) (fun y0=>
 .at ((x1,y0)))
 (.no))
 (.bi (qb6) (fun y0=>
 .br (qrj (true,[EK.i,EK.i,EK.i]) y0 (AV.agg [.int .i64 x0,.int .i64 x1,.int .i64 x2]))
 (.br (okE false [CS.int IntKind.i64] [qcO (true,[EK.i,EK.i,EK.i]) y0 (AV.agg [.int .i64 x0,.int .i64 x1,.int .i64 x2])] 0)
 (.at ((intOf (cellAt [qcO (true,[EK.i,EK.i,EK.i]) y0 (AV.agg [.int .i64 x0,.int .i64 x1,.int .i64 x2])] 0 0),intOf (cellAt [qcO (true,[EK.i,EK.i,EK.i]) y0 (AV.agg [.int .i64 x0,.int .i64 x1,.int .i64 x2])] 0 0) != 0)))
 (.no))
 (.br (qsG (true,[EK.i,EK.i,EK.i]) y0 (AV.agg [.int .i64 x0,.int .i64 x1,.int .i64 x2])) (.at ((0,false))) (.no)))
 (.no)))
 (.br (x0 == 18)
 (.bi (br (x1 == x2) (some (x1 != 5)) (some false)) (fun y0=>
 .at ((x1,y0)))
 (.no))
 (.bi (qb6) (fun y0=>
 .br (qrj (true,[EK.i,EK.i,EK.i]) y0 (AV.agg [.int .i64 x0,.int .i64 x1,.int .i64 x2]))
 (.br (okE false [CS.int IntKind.i64] [qcO (true,[EK.i,EK.i,EK.i]) y0 (AV.agg [.int .i64 x0,.int .i64 x1,.int .i64 x2])] 0)
 (.at ((intOf (cellAt [qcO (true,[EK.i,EK.i,EK.i]) y0 (AV.agg [.int .i64 x0,.int .i64 x1,.int .i64 x2])] 0 0),intOf (cellAt [qcO (true,[EK.i,EK.i,EK.i]) y0 (AV.agg [.int .i64 x0,.int .i64 x1,.int .i64 x2])] 0 0) != 0)))
 (.no))
 (.br (qsG (true,[EK.i,EK.i,EK.i]) y0 (AV.agg [.int .i64 x0,.int .i64 x1,.int .i64 x2])) (.at ((0,false))) (.no)))
 (.no)))))
 (.br (x0 == 15)
 (.bi (br (x1 == x2) (some (x1 == 5)) (some false)) (fun y0=>
 .at ((5,y0)))
 (.no))
 (.br (x0 == 17)
 (.br (x0 == 17)
 (.bi (br (x1 == x2) (some (x1 != 5)) (some false)) (fun y0=>
 .at ((x1,y0)))
 (.no))
 (.bi (qb6) (fun y0=>
 .br (qrj (true,[EK.i,EK.i,EK.i]) y0 (AV.agg [.int .i64 x0,.int .i64 x1,.int .i64 x2]))
 (.br (okE false [CS.int IntKind.i64] [qcO (true,[EK.i,EK.i,EK.i]) y0 (AV.agg [.int .i64 x0,.int .i64 x1,.int .i64 x2])] 0)
 (.at ((intOf (cellAt [qcO (true,[EK.i,EK.i,EK.i]) y0 (AV.agg [.int .i64 x0,.int .i64 x1,.int .i64 x2])] 0 0),intOf (cellAt [qcO (true,[EK.i,EK.i,EK.i]) y0 (AV.agg [.int .i64 x0,.int .i64 x1,.int .i64 x2])] 0 0) != 0)))
 (.no))
 (.br (qsG (true,[EK.i,EK.i,EK.i]) y0 (AV.agg [.int .i64 x0,.int .i64 x1,.int .i64 x2])) (.at ((0,false))) (.no)))
 (.no)))
 (.br (x0 == 18)
 (.bi (br (x1 == x2) (some (x1 != 5)) (some false)) (fun y0=>
 .at ((x1,y0)))
 (.no))
 (.bi (qb6) (fun y0=>
 .br (qrj (true,[EK.i,EK.i,EK.i]) y0 (AV.agg [.int .i64 x0,.int .i64 x1,.int .i64 x2]))
 (.br (okE false [CS.int IntKind.i64] [qcO (true,[EK.i,EK.i,EK.i]) y0 (AV.agg [.int .i64 x0,.int .i64 x1,.int .i64 x2])] 0)
 (.at ((intOf (cellAt [qcO (true,[EK.i,EK.i,EK.i]) y0 (AV.agg [.int .i64 x0,.int .i64 x1,.int .i64 x2])] 0 0),intOf (cellAt [qcO (true,[EK.i,EK.i,EK.i]) y0 (AV.agg [.int .i64 x0,.int .i64 x1,.int .i64 x2])] 0 0) != 0)))
 (.no))
 (.br (qsG (true,[EK.i,EK.i,EK.i]) y0 (AV.agg [.int .i64 x0,.int .i64 x1,.int .i64 x2])) (.at ((0,false))) (.no)))
 (.no)))))))))
 (.br (x0 == 11)
 (.at ((5,x1 == x2)))
 (.br (x0 == 12)
 (.br (x0 == 12)
 (.bi (br (x1 == x2) (some (x1 != 5)) (some false)) (fun y0=>
 .at ((5,y0)))
 (.no))
 (.br (x0 == 14)
 (.br (x0 == 14)
 (.bi (br (x1 == x2) (some (x1 == 5)) (some false)) (fun y0=>
 .at ((5,y0)))
 (.no))
 (.br (x0 == 17)
 (.br (x0 == 17)
 (.bi (br (x1 == x2) (some (x1 != 5)) (some false)) (fun y0=>
 .at ((x1,y0)))
 (.no))
 (.bi (qb6) (fun y0=>
 .br (qrj (true,[EK.i,EK.i,EK.i]) y0 (AV.agg [.int .i64 x0,.int .i64 x1,.int .i64 x2]))
 (.br (okE false [CS.int IntKind.i64] [qcO (true,[EK.i,EK.i,EK.i]) y0 (AV.agg [.int .i64 x0,.int .i64 x1,.int .i64 x2])] 0)
 (.at ((intOf (cellAt [qcO (true,[EK.i,EK.i,EK.i]) y0 (AV.agg [.int .i64 x0,.int .i64 x1,.int .i64 x2])] 0 0),intOf (cellAt [qcO (true,[EK.i,EK.i,EK.i]) y0 (AV.agg [.int .i64 x0,.int .i64 x1,.int .i64 x2])] 0 0) != 0)))
 (.no))
 (.br (qsG (true,[EK.i,EK.i,EK.i]) y0 (AV.agg [.int .i64 x0,.int .i64 x1,.int .i64 x2])) (.at ((0,false))) (.no)))
 (.no)))
 (.br (x0 == 18)
 (.bi (br (x1 == x2) (some (x1 != 5)) (some false)) (fun y0=>
 .at ((x1,y0)))
 (.no))
 (.bi (qb6) (fun y0=>
 .br (qrj (true,[EK.i,EK.i,EK.i]) y0 (AV.agg [.int .i64 x0,.int .i64 x1,.int .i64 x2]))
 (.br (okE false [CS.int IntKind.i64] [qcO (true,[EK.i,EK.i,EK.i]) y0 (AV.agg [.int .i64 x0,.int .i64 x1,.int .i64 x2])] 0)
 (.at ((intOf (cellAt [qcO (true,[EK.i,EK.i,EK.i]) y0 (AV.agg [.int .i64 x0,.int .i64 x1,.int .i64 x2])] 0 0),intOf (cellAt [qcO (true,[EK.i,EK.i,EK.i]) y0 (AV.agg [.int .i64 x0,.int .i64 x1,.int .i64 x2])] 0 0) != 0)))
 (.no))
 (.br (qsG (true,[EK.i,EK.i,EK.i]) y0 (AV.agg [.int .i64 x0,.int .i64 x1,.int .i64 x2])) (.at ((0,false))) (.no)))
 (.no)))))
 (.br (x0 == 15)
 (.bi (br (x1 == x2) (some (x1 == 5)) (some false)) (fun y0=>
 .at ((5,y0)))
 (.no))
 (.br (x0 == 17)
 (.br (x0 == 17)
 (.bi (br (x1 == x2) (some (x1 != 5)) (some false)) (fun y0=>
 .at ((x1,y0)))
 (.no))
 (.bi (qb6) (fun y0=>
 .br (qrj (true,[EK.i,EK.i,EK.i]) y0 (AV.agg [.int .i64 x0,.int .i64 x1,.int .i64 x2]))
 (.br (okE false [CS.int IntKind.i64] [qcO (true,[EK.i,EK.i,EK.i]) y0 (AV.agg [.int .i64 x0,.int .i64 x1,.int .i64 x2])] 0)
 (.at ((intOf (cellAt [qcO (true,[EK.i,EK.i,EK.i]) y0 (AV.agg [.int .i64 x0,.int .i64 x1,.int .i64 x2])] 0 0),intOf (cellAt [qcO (true,[EK.i,EK.i,EK.i]) y0 (AV.agg [.int .i64 x0,.int .i64 x1,.int .i64 x2])] 0 0) != 0)))
 (.no))
 (.br (qsG (true,[EK.i,EK.i,EK.i]) y0 (AV.agg [.int .i64 x0,.int .i64 x1,.int .i64 x2])) (.at ((0,false))) (.no)))
 (.no)))
 (.br (x0 == 18)
 (.bi (br (x1 == x2) (some (x1 != 5)) (some false)) (fun y0=>
 .at ((x1,y0)))
 (.no))
 (.bi (qb6) (fun y0=>
 .br (qrj (true,[EK.i,EK.i,EK.i]) y0 (AV.agg [.int .i64 x0,.int .i64 x1,.int .i64 x2]))
 (.br (okE false [CS.int IntKind.i64] [qcO (true,[EK.i,EK.i,EK.i]) y0 (AV.agg [.int .i64 x0,.int .i64 x1,.int .i64 x2])] 0)
 (.at ((intOf (cellAt [qcO (true,[EK.i,EK.i,EK.i]) y0 (AV.agg [.int .i64 x0,.int .i64 x1,.int .i64 x2])] 0 0),intOf (cellAt [qcO (true,[EK.i,EK.i,EK.i]) y0 (AV.agg [.int .i64 x0,.int .i64 x1,.int .i64 x2])] 0 0) != 0)))
 (.no))
 (.br (qsG (true,[EK.i,EK.i,EK.i]) y0 (AV.agg [.int .i64 x0,.int .i64 x1,.int .i64 x2])) (.at ((0,false))) (.no)))
 (.no)))))))
 (.br (x0 == 13)
 (.bi (br (x1 == x2) (some (x1 != 5)) (some false)) (fun y0=>
 .at ((5,y0)))
 (.no))
 (.br (x0 == 14)
 (.br (x0 == 14)
 (.bi (br (x1 == x2) (some (x1 == 5)) (some false)) (fun y0=>
 .at ((5,y0)))
 (.no))
 (.br (x0 == 17)
 (.br (x0 == 17)
 (.bi (br (x1 == x2) (some (x1 != 5)) (some false)) (fun y0=>
 .at ((x1,y0)))
 (.no))
 (.bi (qb6) (fun y0=>
 .br (qrj (true,[EK.i,EK.i,EK.i]) y0 (AV.agg [.int .i64 x0,.int .i64 x1,.int .i64 x2]))
 (.br (okE false [CS.int IntKind.i64] [qcO (true,[EK.i,EK.i,EK.i]) y0 (AV.agg [.int .i64 x0,.int .i64 x1,.int .i64 x2])] 0)
 (.at ((intOf (cellAt [qcO (true,[EK.i,EK.i,EK.i]) y0 (AV.agg [.int .i64 x0,.int .i64 x1,.int .i64 x2])] 0 0),intOf (cellAt [qcO (true,[EK.i,EK.i,EK.i]) y0 (AV.agg [.int .i64 x0,.int .i64 x1,.int .i64 x2])] 0 0) != 0)))
 (.no))
 (.br (qsG (true,[EK.i,EK.i,EK.i]) y0 (AV.agg [.int .i64 x0,.int .i64 x1,.int .i64 x2])) (.at ((0,false))) (.no)))
 (.no)))
 (.br (x0 == 18)
 (.bi (br (x1 == x2) (some (x1 != 5)) (some false)) (fun y0=>
 .at ((x1,y0)))
 (.no))
 (.bi (qb6) (fun y0=>
 .br (qrj (true,[EK.i,EK.i,EK.i]) y0 (AV.agg [.int .i64 x0,.int .i64 x1,.int .i64 x2]))
 (.br (okE false [CS.int IntKind.i64] [qcO (true,[EK.i,EK.i,EK.i]) y0 (AV.agg [.int .i64 x0,.int .i64 x1,.int .i64 x2])] 0)
 (.at ((intOf (cellAt [qcO (true,[EK.i,EK.i,EK.i]) y0 (AV.agg [.int .i64 x0,.int .i64 x1,.int .i64 x2])] 0 0),intOf (cellAt [qcO (true,[EK.i,EK.i,EK.i]) y0 (AV.agg [.int .i64 x0,.int .i64 x1,.int .i64 x2])] 0 0) != 0)))
 (.no))
 (.br (qsG (true,[EK.i,EK.i,EK.i]) y0 (AV.agg [.int .i64 x0,.int .i64 x1,.int .i64 x2])) (.at ((0,false))) (.no)))
 (.no)))))
 (.br (x0 == 15)
 (.bi (br (x1 == x2) (some (x1 == 5)) (some false)) (fun y0=>
 .at ((5,y0)))
 (.no))
 (.br (x0 == 17)
 (.br (x0 == 17)
 (.bi (br (x1 == x2) (some (x1 != 5)) (some false)) (fun y0=>
 .at ((x1,y0)))
 (.no))
 (.bi (qb6) (fun y0=>
 .br (qrj (true,[EK.i,EK.i,EK.i]) y0 (AV.agg [.int .i64 x0,.int .i64 x1,.int .i64 x2]))
 (.br (okE false [CS.int IntKind.i64] [qcO (true,[EK.i,EK.i,EK.i]) y0 (AV.agg [.int .i64 x0,.int .i64 x1,.int .i64 x2])] 0)
 (.at ((intOf (cellAt [qcO (true,[EK.i,EK.i,EK.i]) y0 (AV.agg [.int .i64 x0,.int .i64 x1,.int .i64 x2])] 0 0),intOf (cellAt [qcO (true,[EK.i,EK.i,EK.i]) y0 (AV.agg [.int .i64 x0,.int .i64 x1,.int .i64 x2])] 0 0) != 0)))
 (.no))
 (.br (qsG (true,[EK.i,EK.i,EK.i]) y0 (AV.agg [.int .i64 x0,.int .i64 x1,.int .i64 x2])) (.at ((0,false))) (.no)))
 (.no)))
 (.br (x0 == 18)
 (.bi (br (x1 == x2) (some (x1 != 5)) (some false)) (fun y0=>
 .at ((x1,y0)))
 (.no))
 (.bi (qb6) (fun y0=>
 .br (qrj (true,[EK.i,EK.i,EK.i]) y0 (AV.agg [.int .i64 x0,.int .i64 x1,.int .i64 x2]))
 (.br (okE false [CS.int IntKind.i64] [qcO (true,[EK.i,EK.i,EK.i]) y0 (AV.agg [.int .i64 x0,.int .i64 x1,.int .i64 x2])] 0)
 (.at ((intOf (cellAt [qcO (true,[EK.i,EK.i,EK.i]) y0 (AV.agg [.int .i64 x0,.int .i64 x1,.int .i64 x2])] 0 0),intOf (cellAt [qcO (true,[EK.i,EK.i,EK.i]) y0 (AV.agg [.int .i64 x0,.int .i64 x1,.int .i64 x2])] 0 0) != 0)))
 (.no))
 (.br (qsG (true,[EK.i,EK.i,EK.i]) y0 (AV.agg [.int .i64 x0,.int .i64 x1,.int .i64 x2])) (.at ((0,false))) (.no)))
 (.no)))))))))
def qn4 (x0 x1 x2:Int):Option qGy:=qay (qml x0 x1 x2).ev
theorem qDI (x0 x1 x2):qn4 x0 x1 x2 = (qml x0 x1 x2).ev:=qaa _
theorem qYt:FH IP 113 qMG qOm (k3 qn4):=fh q5N (k3 qml) qUK
def T63:Tab:=(113,FE qMG qOm (k3 qn4)) :: T62
theorem qUL:qai IP T63:=⟨qaj qYt,qUK⟩
abbrev qT6:Type:=Int × Bool
def qWm:PArgs:=⟨[.int .i64,.view 1],[]⟩
def qW8:List PRes:=[⟨false,.tup [.int .i64,.bool],[]⟩]
def qvp (x0:Int) (x1:List AV):DT qT6:=
 .bi (pj 0 (qwU (x0,x1,x1,(x1.length:Int),0))) (fun y0=>
 .at ((0,false)))
 (.bi (pj 1 (qwU (x0,x1,x1,(x1.length:Int),0))) (fun y0=>
 .br ((y0.2.1.length:Int) == 1)
 (.br (qaD [.int .i64] y0.2.1 0)
 (.bi (qn3 y0.1 (intOf (cellAt y0.2.1 0 0))) (fun y1=>
 .br (!y1.2) (.at ((0,false))) (.at ((y1.1,true))))
 (.no))
 (.no))
 (.br ((y0.2.1.length:Int) == 2)
 (.br (qaD [.int .i64] y0.2.1 0)
 (.br (qaD [.int .i64] y0.2.1 1)
 (.bi (qn4 y0.1 (intOf (cellAt y0.2.1 0 0)) (intOf (cellAt y0.2.1 1 0))) (fun y1=>
 .br (!y1.2) (.at ((0,false))) (.at ((y1.1,true))))
 (.no))
 (.no))
 (.no))
 (.br ((y0.2.1.length:Int) == 3)
 (.br (qaD [.int .i64] y0.2.1 1)
 (.br (y0.1 == 19)
 (.br (qaD [.int .i64] y0.2.1 0)
 (.br (intOf (cellAt y0.2.1 0 0) == 5)
 (.br (qaD [.int .i64] y0.2.1 1)
 (.br (qaD [.int .i64] y0.2.1 2)
 (.br (!intOf (cellAt y0.2.1 1 0) == intOf (cellAt y0.2.1 2 0)) (.at ((0,false))) (.at ((intOf (cellAt y0.2.1 1 0),true))))
 (.no))
 (.no))
 (.at ((0,false))))
 (.no))
 (.at ((0,false))))
 (.no))
 (.at ((0,false))))))
 (.no))
def qdP (x0:Int) (x1:List AV):Option qT6:=qay (qvp x0 x1).ev
theorem qJO (x0 x1):qdP x0 x1 = (qvp x0 x1).ev:=qaa _
theorem q2Q:FH IP 90 qWm qW8 (k2 qdP):=qag (F:=F90) (L:=[(1009000,qK9)]) (t:=(k2 qvp)) qUL (qab (l:=[qae F90 0]) (by kernel_rfl) ⟨qas (by kernel_rfl) q4k,trivial⟩) (by kernel_rfl) (fun v=>by kernel_rfl) (fun _=>qaa _)
def T64:Tab:=(90,FE qWm qW8 (k2 qdP)) :: T63
theorem qUM:qai IP T64:=⟨qaj q2Q,qUL⟩
abbrev qjs:Type:=Int × Int
def qpx:PArgs:=⟨[.agg [.int .i64,.int .i64,.str,.view 4],.view 2],[]⟩
def qpN:List PRes:=[⟨false,.tup [.int .i64,.int .i64],[]⟩]
abbrev qbb:Type:=Int -> Int -> (List UInt8) -> (List AV) -> (List AV) -> Option qjs
def qti (G_u199q:qbb):Prop:=FH IP 75 qpx qpN (k5 G_u199q)
def qQ6 (G_u199q:qbb):Tab:=(75,FE qpx qpN (k5 G_u199q)) :: T64
theorem qnh (G_u199q:qbb) (hG:qti G_u199q):qai IP (qQ6 G_u199q):=⟨qaj (hG),qUM⟩
abbrev qbT:Type:=(List AV × List AV × Int × Int × Int × Int × List UInt8 × List AV) ⊕ (List AV × List AV × Int × Int × Int × Int × List UInt8 × List AV × List AV)
def qBi:List PSt:=[⟨[(1007500,.junk),(1,.view 2),(2,.ref 0 0 0),(6,.nils 1),(30,.view 4),(31,.int .i64),(32,.int .i64)],[(0,.box [.int .i64,.int .i64,.str,.view 4] false)],1,0⟩,⟨[(1007500,.junk),(1,.view 2),(2,.ref 0 0 0),(6,.own 1 0),(30,.view 4),(31,.int .i64),(32,.int .i64)],[(0,.box [.int .i64,.int .i64,.str,.view 4] false),(1,.arr 1 false)],2,0⟩]
def qQj (G_u199q:qbb) (x0 x1:List AV) (x2 x3:Int) (x4 x5:Int) (x6:List UInt8) (x7:List AV):X × St:=(.ret,
 ⟨[(2,.ref 0 0 0),(4,.int .i64 0),
 (5,.int .i64 (gv (G_u199q (intOf (cellAt x1 x3 0)) (intOf (cellAt x1 x3 1)) (strOf (cellAt x1 x3 2)) (qaq (cellAt x1 x3 3)) x0)).2),
 (6,.nils ⟨1,.nil⟩)],[(0,.box [.int .i64 x4,.int .i64 x5,.str x6,.view 4 x7] false)],1,0⟩)
def qQk (G_u199q:qbb) (x0 x1:List AV) (x2 x3:Int) (x4 x5:Int) (x6:List UInt8) (x7:List AV):X × St:=(.exit 1,
 ⟨[(2,.ref 0 0 0),(4,.junk),(5,.junk),(6,.nils ⟨1,.nil⟩)],[(0,.box [.int .i64 x4,.int .i64 x5,.str x6,.view 4 x7] false)],1,0⟩)
def qQl (G_u199q:qbb) (x0 x1:List AV) (x2 x3:Int) (x4 x5:Int) (x6:List UInt8) (x7 x8:List AV):X × St:=(.ret,
 ⟨[(2,.ref 0 0 0),(4,.int .i64 0),
 (5,.int .i64 (gv (G_u199q (intOf (cellAt x1 x3 0)) (intOf (cellAt x1 x3 1)) (strOf (cellAt x1 x3 2)) (qaq (cellAt x1 x3 3)) x0)).2),
 (6,.own 1 0 none)],[(0,.box [.int .i64 x4,.int .i64 x5,.str x6,.view 4 x7] false),(1,.arr 1 x8 false)],2,0⟩)
def qQm (G_u199q:qbb) (x0 x1:List AV) (x2 x3:Int) (x4 x5:Int) (x6:List UInt8) (x7 x8:List AV):X × St:=(.exit 1,
 ⟨[(2,.ref 0 0 0),(4,.junk),(5,.junk),(6,.own 1 0 none)],[(0,.box [.int .i64 x4,.int .i64 x5,.str x6,.view 4 x7] false),(1,.arr 1 x8 false)],2,0⟩)
def q01 (G_u199q:qbb):List (qbT -> X × St):=[fun w=>(k8 (qQj G_u199q)) ((sl w)),fun w=>(k8 (qQk G_u199q)) ((sl w)),fun w=>(k9 (qQl G_u199q)) ((sr w)),fun w=>(k9 (qQm G_u199q)) ((sr w))]
def qhe (G_u199q:qbb) (x0 x1:List AV) (x2 x3:Int) (x4 x5:Int) (x6:List UInt8) (x7:List AV):DT (Rd qbT):=
 .br (decide (x3 < x2))
 (.br (qaD [.int .i64,.int .i64,.str,.slice 4] x1 x3)
 (.bi (G_u199q (intOf (cellAt x1 x3 0)) (intOf (cellAt x1 x3 1)) (strOf (cellAt x1 x3 2)) (qaq (cellAt x1 x3 3)) x0) (fun y0=>
 .br (y0.2 != 0) (.at (.done 0)) (.at (.next ((.inr (x0,x1,x2,IntKind.i64.wrap (x3 + 1),x4,x5,x6,x7,[.int .i64 y0.1]))))))
 (.no))
 (.no))
 (.at (.done 1))
def qhf (G_u199q:qbb) (x0 x1:List AV) (x2 x3:Int) (x4 x5:Int) (x6:List UInt8) (x7 x8:List AV):DT (Rd qbT):=
 .br (decide (x3 < x2))
 (.br (qaD [.int .i64,.int .i64,.str,.slice 4] x1 x3)
 (.bi (G_u199q (intOf (cellAt x1 x3 0)) (intOf (cellAt x1 x3 1)) (strOf (cellAt x1 x3 2)) (qaq (cellAt x1 x3 3)) x0) (fun y0=>
 .br (y0.2 != 0)
 (.at (.done 2))
 (.br (room (x8.length + 1) 8) (.at (.next ((.inr (x0,x1,x2,IntKind.i64.wrap (x3 + 1),x4,x5,x6,x7,x8 ++ [AV.int IntKind.i64 y0.1]))))) (.no)))
 (.no))
 (.no))
 (.at (.done 3))
def qcS (G_u199q:qbb):qbT -> DT (Rd qbT):=(Sum.elim (fun v=>qhe G_u199q v.1 v.2.1 v.2.2.1 v.2.2.2.1 v.2.2.2.2.1 v.2.2.2.2.2.1 v.2.2.2.2.2.2.1 v.2.2.2.2.2.2.2) (fun v=>qhf G_u199q v.1 v.2.1 v.2.2.1 v.2.2.2.1 v.2.2.2.2.1 v.2.2.2.2.2.1 v.2.2.2.2.2.2.1 v.2.2.2.2.2.2.2.1 v.2.2.2.2.2.2.2.2))
def qgt (G_u199q:qbb) (v:qbT):Option (Nat × qbT):=qay (qap (fun v=>(qcS G_u199q v).ev) v)
theorem qgT (G_u199q v):qgt G_u199q v = qap (fun v=>(qcS G_u199q v).ev) v:=qaa _
def qBY (G_u199q:qbb):qbz:=LE (τ:=qbT) (hD qBi) (qgt G_u199q) (q01 G_u199q)
theorem q0u (G_u199q:qbb) (hG:qti G_u199q):Go.Eng.Told IP (qae F75 0).1 (qae F75 0).2 (qBY G_u199q):=qar (inferInstance:Inhabited qbT) (hs:=qBi) (st:=qcS G_u199q) (L:=[]) (qnh G_u199q hG) (qab (l:=[]) (by kernel_rfl) trivial) (qgT G_u199q) (fun v=>match v with | (.inl v)=>by kernel_rfl | (.inr v)=>by kernel_rfl) (fun v=>match v with | (.inl v)=>by kernel_rfl | (.inr v)=>by kernel_rfl)
def quR (G_u199q:qbb) (x0 x1:Int) (x2:List UInt8) (x3 x4:List AV):DT qjs:=
 .br (x0 == 1)
 (.at ((1,0)))
 (.br (x0 == 2)
 (.at ((2,0)))
 (.br (x0 == 3)
 (.at ((3,0)))
 (.br (x0 == 4)
 (.bi (qrR x2 x4) (fun y0=>
 .at ((y0.1,y0.2)))
 (.no))
 (.bi (pj 0 (qgt G_u199q (Sum.inl (x4,x3,(x3.length:Int),0,x0,x1,x2,x3)))) (fun y0=>
 .at ((0,(gv
 (G_u199q (intOf (cellAt (sl y0).2.1 (sl y0).2.2.2.1 0)) (intOf (cellAt (sl y0).2.1 (sl y0).2.2.2.1 1))
 (strOf (cellAt (sl y0).2.1 (sl y0).2.2.2.1 2)) (qaq (cellAt (sl y0).2.1 (sl y0).2.2.2.1 3)) (sl y0).1)).2)))
 (.bi (pj 1 (qgt G_u199q (Sum.inl (x4,x3,(x3.length:Int),0,x0,x1,x2,x3)))) (fun y0=>
 .bi (qdP (sl y0).2.2.2.2.1 []) (fun y1=>
 .br (!y1.2) (.at ((0,3))) (.at ((y1.1,0))))
 (.no))
 (.bi (pj 2 (qgt G_u199q (Sum.inl (x4,x3,(x3.length:Int),0,x0,x1,x2,x3)))) (fun y0=>
 .at ((0,(gv
 (G_u199q (intOf (cellAt (sr y0).2.1 (sr y0).2.2.2.1 0)) (intOf (cellAt (sr y0).2.1 (sr y0).2.2.2.1 1))
 (strOf (cellAt (sr y0).2.1 (sr y0).2.2.2.1 2)) (qaq (cellAt (sr y0).2.1 (sr y0).2.2.2.1 3)) (sr y0).1)).2)))
 (.bi (pj 3 (qgt G_u199q (Sum.inl (x4,x3,(x3.length:Int),0,x0,x1,x2,x3)))) (fun y0=>
 .bi (qdP (sr y0).2.2.2.2.1 (sr y0).2.2.2.2.2.2.2.2) (fun y1=>
 .br (!y1.2) (.at ((0,3))) (.at ((y1.1,0))))
 (.no))
 (.no))))))))
def qcl:Nat -> qbb
 | 0=>fun _ _ _ _ _=>none
 | n + 1=>fun x0 x1 x2 x3 x4=>(quR ((qcl n)) x0 x1 x2 x3 x4).ev
def qtN (x0 x1:Int) (x2:List UInt8) (x3 x4:List AV):Option qjs:=qka fun n=>(qcl n) x0 x1 x2 x3 x4
theorem qrx:∀ n,qti ((qcl n))
 | 0=>(fun v y h=>nomatch h)
 | n + 1=>have hG:=qrx n
 qag (F:=F75) (L:=[(1007500,qBY ((qcl n)))]) (t:=(k5 (quR ((qcl n))))) (qnh ((qcl n)) hG) (qab (l:=[qae F75 0]) (by kernel_rfl) ⟨qas (by kernel_rfl) (q0u ((qcl n)) hG),trivial⟩) (by kernel_rfl) (fun v=>by kernel_rfl) (fun v=>rfl)
theorem qYQ:FH IP 75 qpx qpN (k5 qtN):=qbK (p:=qpx) (rs:=qpN) (s:=fun n=>(k5 ((qcl n)))) fun n=>(qrx n)
def T65:Tab:=(75,FE qpx qpN (k5 qtN)) :: T64
theorem qUN:qai IP T65:=⟨qaj qYQ,qUM⟩
abbrev qGM:Type:=Int × Int
def qMV:PArgs:=⟨[.agg [.int .i64,.int .i64,.str,.view 4],.view 2],[]⟩
def qOC:List PRes:=[⟨false,.tup [.int .i64,.int .i64],[]⟩]
def qmz (x0 x1:Int) (x2:List UInt8) (x3 x4:List AV):DT qGM:=
 .bi (qoA x0 x1 x2 x3) (fun y0=>
 .br (y0 != 0)
 (.at ((0,y0)))
 (.bi (qtN x0 x1 x2 x3 x4) (fun y1=>
 .at ((y1.1,y1.2)))
 (.no)))
 (.no)
def qjN (x0 x1:Int) (x2:List UInt8) (x3 x4:List AV):Option qGM:=qay (qmz x0 x1 x2 x3 x4).ev
theorem qDW (x0 x1 x2 x3 x4):qjN x0 x1 x2 x3 x4 = (qmz x0 x1 x2 x3 x4).ev:=qaa _
theorem qYP:FH IP 62 qMV qOC (k5 qjN):=fh F62 (k5 qmz) qUN
def T66:Tab:=(62,FE qMV qOC (k5 qjN)) :: T65
theorem qUO:qai IP T66:=⟨qaj qYP,qUN⟩
abbrev qFW:Type:=Int
def qL6:PArgs:=⟨[.agg [.int .i64,.int .i64,.str,.view 4],.view 2,.int .i64],[]⟩
def qNM:List PRes:=[⟨false,.int .i64,[]⟩]
def qlO (x0 x1:Int) (x2:List UInt8) (x3 x4:List AV) (x5:Int):DT qFW:=
 .bi (qjN x0 x1 x2 x3 x4) (fun y0=>
 .bi (br (y0.2 == 0) (some (y0.1 != x5)) (some false)) (fun y1=>
 .br (y1) (.at (3)) (.at (y0.2)))
 (.no))
 (.no)
def qhO (x0 x1:Int) (x2:List UInt8) (x3 x4:List AV) (x5:Int):Option qFW:=qay (qlO x0 x1 x2 x3 x4 x5).ev
theorem qDd (x0 x1 x2 x3 x4 x5):qhO x0 x1 x2 x3 x4 x5 = (qlO x0 x1 x2 x3 x4 x5).ev:=qaa _
theorem qXP:FH IP 55 qL6 qNM (k6 qhO):=fh F55 (k6 qlO) qUO
def T67:Tab:=(55,FE qL6 qNM (k6 qhO)) :: T66
theorem qUP:qai IP T67:=⟨qaj qXP,qUO⟩
abbrev qF6:Type:=Int
def qMf:PArgs:=⟨[.agg [.str,.int .i64,.int .i64,.int .i64,.str,.view 4,.int .i64,.int .i64,.str,.view 4]],[]⟩
def qNV:List PRes:=[⟨false,.int .i64,[]⟩]
def qlV (x0:List UInt8) (x1 x2 x3:Int) (x4:List UInt8) (x5:List AV) (x6 x7:Int) (x8:List UInt8) (x9:List AV):DT qF6:=
 .bi (qhJ x0) (fun y0=>
 .br (!y0)
 (.at (4))
 (.bi (br (decide (x1 < 1)) (some true) (some (decide (x1 > 4)))) (fun y1=>
 .br (y1)
 (.at (1))
 (.bi (qfx) (fun y2=>
 .bi (qhO x2 x3 x4 x5 y2 5) (fun y3=>
 .br (y3 != 0)
 (.at (y3))
 (.bi (qfx) (fun y4=>
 .bi (qhO x6 x7 x8 x9 y4 2) (fun y5=>
 .at (y5))
 (.no))
 (.no)))
 (.no))
 (.no)))
 (.no)))
 (.no)
def qhS (x0:List UInt8) (x1 x2 x3:Int) (x4:List UInt8) (x5:List AV) (x6 x7:Int) (x8:List UInt8) (x9:List AV):Option qF6:=qay (qlV x0 x1 x2 x3 x4 x5 x6 x7 x8 x9).ev
theorem qDk (x0 x1 x2 x3 x4 x5 x6 x7 x8 x9):qhS x0 x1 x2 x3 x4 x5 x6 x7 x8 x9 = (qlV x0 x1 x2 x3 x4 x5 x6 x7 x8 x9).ev:=qaa _
theorem qXZ:FH IP 29 qMf qNV (k10 qhS):=fh F29 (k10 qlV) qUP
def T68:Tab:=(29,FE qMf qNV (k10 qhS)) :: T67
theorem qIx:qai IP T68:=⟨qaj qXZ,qUP⟩
abbrev qe7:Type:=List AV × Int × Int × List UInt8 × List UInt8 × List UInt8 × Int × Int × Int × Int × List AV × Bool × Int × Int × Bool × List AV × Bool × Int × Int × Bool × List AV × List AV
def qKk:List PSt:=[⟨[(1001201,.junk),(3,.ref 0 0 0),(49,.view 10),(50,.int .i64),(51,.int .i64)],[(0,.box [.str,.str,.str,.int .i64,.int .i64,.int .i64,.int .i64,.view 2,.bool,.int .i64,.int .i64,.bool,.view 2,.bool,.int .i64,.int .i64,.bool,.view 10,.view 6] false)],1,0⟩]
def qSN (x0:List AV) (x1 x2:Int) (x3 x4 x5:List UInt8) (x6 x7:Int) (x8 x9:Int) (x10:List AV) (x11:Bool) (x12 x13:Int) (x14:Bool) (x15:List AV) (x16:Bool) (x17 x18:Int) (x19:Bool) (x20 x21:List AV):X × St:=(.ret,
 ⟨[(3,.ref 0 0 0),
 (6,
 .int .i64
 (gv
 (qhS (strOf (cellAt x0 x2 0)) (intOf (cellAt x0 x2 1)) (intOf (cellAt x0 x2 2)) (intOf (cellAt x0 x2 3)) (strOf (cellAt x0 x2 4)) (qaq (cellAt x0 x2 5))
 (intOf (cellAt x0 x2 6)) (intOf (cellAt x0 x2 7)) (strOf (cellAt x0 x2 8)) (qaq (cellAt x0 x2 9)))))],[(0,
 .box
 [.str x3,.str x4,.str x5,.int .i64 x6,.int .i64 x7,.int .i64 x8,.int .i64 x9,.view 2 x10,.bool x11,
 .int .i64 x12,.int .i64 x13,.bool x14,.view 2 x15,.bool x16,.int .i64 x17,.int .i64 x18,.bool x19,.view 10 x20,
 .view 6 x21]
 false)],1,0⟩)
def qSO (x0:List AV) (x1 x2:Int) (x3 x4 x5:List UInt8) (x6 x7:Int) (x8 x9:Int) (x10:List AV) (x11:Bool) (x12 x13:Int) (x14:Bool) (x15:List AV) (x16:Bool) (x17 x18:Int) (x19:Bool) (x20 x21:List AV):X × St:=(.exit 2,
 ⟨[(3,.ref 0 0 0),(6,.junk)],[(0,
 .box
 [.str x3,.str x4,.str x5,.int .i64 x6,.int .i64 x7,.int .i64 x8,.int .i64 x9,.view 2 x10,.bool x11,
 .int .i64 x12,.int .i64 x13,.bool x14,.view 2 x15,.bool x16,.int .i64 x17,.int .i64 x18,.bool x19,.view 10 x20,
 .view 6 x21]
 false)],1,0⟩)
def q4T:List (qe7 -> X × St):=[(k22 qSN),(k22 qSO)]
def qqj (x0:List AV) (x1 x2:Int) (x3 x4 x5:List UInt8) (x6 x7:Int) (x8 x9:Int) (x10:List AV) (x11:Bool) (x12 x13:Int) (x14:Bool) (x15:List AV) (x16:Bool) (x17 x18:Int) (x19:Bool) (x20 x21:List AV):DT (Rd qe7):=
 .br (decide (x2 < x1))
 (.br (qaD [.str,.int .i64,.int .i64,.int .i64,.str,.slice 4,.int .i64,.int .i64,.str,.slice 4] x0 x2)
 (.bi (qhS (strOf (cellAt x0 x2 0)) (intOf (cellAt x0 x2 1)) (intOf (cellAt x0 x2 2)) (intOf (cellAt x0 x2 3)) (strOf (cellAt x0 x2 4)) (qaq (cellAt x0 x2 5))
 (intOf (cellAt x0 x2 6)) (intOf (cellAt x0 x2 7)) (strOf (cellAt x0 x2 8)) (qaq (cellAt x0 x2 9))) (fun y0=>
 .br (y0 != 0) (.at (.done 0)) (.at (.next ((x0,x1,IntKind.i64.wrap (x2 + 1),x3,x4,x5,x6,x7,x8,x9,x10,x11,x12,x13,x14,x15,x16,x17,x18,x19,x20,x21)))))
 (.no))
 (.no))
 (.at (.done 1))
def qkJ:qe7 -> DT (Rd qe7):=(fun v=>qqj v.1 v.2.1 v.2.2.1 v.2.2.2.1 v.2.2.2.2.1 v.2.2.2.2.2.1 v.2.2.2.2.2.2.1 v.2.2.2.2.2.2.2.1 v.2.2.2.2.2.2.2.2.1 v.2.2.2.2.2.2.2.2.2.1 v.2.2.2.2.2.2.2.2.2.2.1 v.2.2.2.2.2.2.2.2.2.2.2.1 v.2.2.2.2.2.2.2.2.2.2.2.2.1 v.2.2.2.2.2.2.2.2.2.2.2.2.2.1 v.2.2.2.2.2.2.2.2.2.2.2.2.2.2.1 v.2.2.2.2.2.2.2.2.2.2.2.2.2.2.2.1 v.2.2.2.2.2.2.2.2.2.2.2.2.2.2.2.2.1 v.2.2.2.2.2.2.2.2.2.2.2.2.2.2.2.2.2.1 v.2.2.2.2.2.2.2.2.2.2.2.2.2.2.2.2.2.2.1 v.2.2.2.2.2.2.2.2.2.2.2.2.2.2.2.2.2.2.2.1 v.2.2.2.2.2.2.2.2.2.2.2.2.2.2.2.2.2.2.2.2.1 v.2.2.2.2.2.2.2.2.2.2.2.2.2.2.2.2.2.2.2.2.2)
def qwN (v:qe7):Option (Nat × qe7):=qay (qap (fun v=>(qkJ v).ev) v)
theorem qwO (v):qwN v = qap (fun v=>(qkJ v).ev) v:=qaa _
def qK4:qbz:=LE (τ:=qe7) (hD qKk) (qwN) q4T
theorem q4f:Go.Eng.Told IP (qae F12 1).1 (qae F12 1).2 (qK4):=lp (inferInstance:Inhabited qe7) (hs:=qKk) qkJ qIx qwO
abbrev qFP:Type:=Int
def qLZ:PArgs:=⟨[.agg [.str,.int .i64,.int .i64,.int .i64,.str,.view 4]],[]⟩
def qNF:List PRes:=[⟨false,.int .i64,[]⟩]
def qlH (x0:List UInt8) (x1 x2 x3:Int) (x4:List UInt8) (x5:List AV):DT qFP:=
 .bi (qhJ x0) (fun y0=>
 .br (!y0)
 (.at (4))
 (.bi (br (decide (x1 < 1)) (some true) (some (decide (x1 > 3)))) (fun y1=>
 .br (y1)
 (.at (1))
 (.bi (qfx) (fun y2=>
 .bi (qhO x2 x3 x4 x5 y2 2) (fun y3=>
 .at (y3))
 (.no))
 (.no)))
 (.no)))
 (.no)
def qhL (x0:List UInt8) (x1 x2 x3:Int) (x4:List UInt8) (x5:List AV):Option qFP:=qay (qlH x0 x1 x2 x3 x4 x5).ev
theorem qC6 (x0 x1 x2 x3 x4 x5):qhL x0 x1 x2 x3 x4 x5 = (qlH x0 x1 x2 x3 x4 x5).ev:=qaa _
theorem qXI:FH IP 30 qLZ qNF (k6 qhL):=fh F30 (k6 qlH) qIx
def T69:Tab:=(30,FE qLZ qNF (k6 qhL)) :: T68
theorem qIy:qai IP T69:=⟨qaj qXI,qIx⟩
end
end Go.Proofs.H15p

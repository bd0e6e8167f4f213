/- Functions over plain data. Printed by a program of mine. -/
import Derived.Test.YthljpgljbpdmjaaGreatDoorD15p_9
import Derived.KernelRfl
set_option linter.unusedVariables false
set_option linter.unusedSimpArgs false
set_option linter.unnecessarySimpa false
namespace Go.Proofs.H15p
open Go Go.Eng
set_option maxRecDepth 100000
noncomputable section
abbrev qG7:Type:=Int × Int × Int
def qNg:PArgs:=⟨[.agg [.int .i64,.int .u64],.agg [.int .i64,.int .u64]],[]⟩
def qOX:List PRes:=[⟨false,.tup [.agg [.int .i64,.int .u64],.int .i64],[]⟩]
def qmU (x0 x1:Int) (x2 x3:Int):DT qG7:=
 .bi (qex x0 x1) (fun y0=>
 .bi (qex x2 x3) (fun y1=>
 .bi (qjV y0.1 y0.2.1 y0.2.2 y1.1 y1.2.1 y1.2.2) (fun y2=>
 .at ((y2.1,y2.2.1,y2.2.2)))
 (.no))
 (.no))
 (.no)
def qjU (x0 x1:Int) (x2 x3:Int):Option qG7:=qay (qmU x0 x1 x2 x3).ev
theorem qEh (x0 x1 x2 x3):qjU x0 x1 x2 x3 = (qmU x0 x1 x2 x3).ev:=qaa _
theorem qZc:FH IP 101 qNg qOX (k4 qjU):=fh q5D (k4 qmU) qH0
def zaA:Tab:=(101,FE qNg qOX (k4 qjU)) :: zaz
theorem qH1:qai IP zaA:=⟨qaj qZc,qH0⟩
abbrev qG9:Type:=Int × Bool
def qNi:PArgs:=⟨[.agg [.int .i64,.int .u64]],[]⟩
def qOZ:List PRes:=[⟨false,.tup [.int .i64,.bool],[]⟩]
def qmW (x0 x1:Int):DT qG9:=
 .bi (qbZ (IntKind.i64.wrap x1)) (fun y0=>
 .br (if false = true then !(y0.1 == x0 && (y0.2 == x1 && true)) else y0.1 == x0 && (y0.2 == x1 && true)) (.at ((IntKind.i64.wrap x1,true))) (.at ((0,false))))
 (.no)
def qh5 (x0 x1:Int):Option qG9:=qay (qmW x0 x1).ev
theorem qEj (x0 x1):qh5 x0 x1 = (qmW x0 x1).ev:=qaa _
theorem qZe:FH IP 129 qNi qOZ (k2 qh5):=fh q51 (k2 qmW) qH1
def zaB:Tab:=(129,FE qNi qOZ (k2 qh5)) :: zaA
theorem qH2:qai IP zaB:=⟨qaj qZe,qH1⟩
abbrev qHe:Type:=Int × Int × Int
def qNn:PArgs:=⟨[.int .i64,.agg [.int .i64,.int .u64]],[]⟩
def qO4:List PRes:=[⟨false,.tup [.agg [.int .i64,.int .i64],.int .i64],[]⟩]
def qm1 (x0 x1 x2:Int):DT qHe:=
 .bi (qh5 x1 x2) (fun y0=>
 .bi (br (!y0.2) (some true) (br (sm (qgq x0 y0.1)) (some !gv (qgq x0 y0.1)) none)) (fun y1=>
 .br (y1) (.at ((0,0,6))) (.at ((x0,y0.1,0))))
 (.no))
 (.no)
def qcC (x0 x1 x2:Int):Option qHe:=qay (qm1 x0 x1 x2).ev
theorem qEo (x0 x1 x2):qcC x0 x1 x2 = (qm1 x0 x1 x2).ev:=qaa _
theorem qZj:FH IP 102 qNn qO4 (k3 qcC):=fh q5E (k3 qm1) qH2
def zaC:Tab:=(102,FE qNn qO4 (k3 qcC)) :: zaB
theorem qH3:qai IP zaC:=⟨qaj qZj,qH2⟩
abbrev qHb:Type:=Int × Int × Int
def qNk:PArgs:=⟨[.agg [.int .i64,.int .u64],.agg [.int .i64,.int .u64]],[]⟩
def qO1:List PRes:=[⟨false,.tup [.agg [.int .i64,.int .u64],.int .i64],[]⟩]
def qmY (x0 x1:Int) (x2 x3:Int):DT qHb:=
 .bi (qex x0 x1) (fun y0=>
 .bi (qex x2 x3) (fun y1=>
 .bi (qjV y0.1 y0.2.1 y0.2.2 (!y1.1) y1.2.1 y1.2.2) (fun y2=>
 .at ((y2.1,y2.2.1,y2.2.2)))
 (.no))
 (.no))
 (.no)
def qh6 (x0 x1:Int) (x2 x3:Int):Option qHb:=qay (qmY x0 x1 x2 x3).ev
theorem qEl (x0 x1 x2 x3):qh6 x0 x1 x2 x3 = (qmY x0 x1 x2 x3).ev:=qaa _
theorem qZg:FH IP 103 qNk qO1 (k4 qh6):=fh q5F (k4 qmY) qH3
def zaD:Tab:=(103,FE qNk qO1 (k4 qh6)) :: zaC
theorem qH4:qai IP zaD:=⟨qaj qZg,qH3⟩
abbrev qGR:Type:=Int
def qM0:PArgs:=⟨[.int .i64],[]⟩
def qOH:List PRes:=[⟨false,.int .u64,[]⟩]
def qmF (x0:Int):DT qGR:=
 .br (decide (x0 < 0)) (.at (IntKind.u64.wrap (IntKind.u64.wrap (-1 - IntKind.u64.wrap x0) + 1))) (.at (IntKind.u64.wrap x0))
def qog (x0:Int):Option qGR:=qay (qmF x0).ev
theorem qD2 (x0):qog x0 = (qmF x0).ev:=qaa _
theorem qYW:FH IP 162 qM0 qOH qog:=fh q6o qmF qH4
def zaE:Tab:=(162,FE qM0 qOH qog) :: zaD
theorem qyE:qai IP zaE:=⟨qaj qYW,qH4⟩
abbrev qdk:Type:=Int × Bool × Int × Int × Int × Int × Int × Int × Int
def qA6:List PSt:=[⟨[(1016100,.junk),(1,.int .u64),(2,.ref 0 0 0),(4,.ref 1 0 0),(6,.ref 2 0 0),(7,.bool),(8,.int .i64)],[(0,.box [.int .u64,.int .u64] false),(1,.box [.int .u64,.int .u64] false),(2,.box [.int .u64,.int .u64] false)],3,0⟩]
def qPS (x0:Int) (x1:Bool) (x2 x3:Int) (x4 x5:Int) (x6 x7 x8:Int):X × St:=(.exit 0,
 ⟨[(4,.ref 0 0 0),(6,.ref 1 0 0),(7,.bool x1)],[(0,.box [.int .u64 x5,.int .u64 x6] false),(1,.box [.int .u64 x7,.int .u64 x8] false)],2,0⟩)
def q0P:List (qdk -> X × St):=[(k9 qPS)]
def qsV (x0:Int) (x1:Bool) (x2 x3:Int) (x4 x5:Int) (x6 x7 x8:Int):DT (Rd qdk):=
 .br (decide (x2 < 64))
 (.bi (qfF x7 x8 x7 x8) (fun y0=>
 .bi (br x1 (some y0.2.2) (some false)) (fun y1=>
 .br (IntKind.u64.wrap ((BitVec.ofInt 64 x0 &&& BitVec.ofInt 64 9223372036854775808).toNat:Int) != 0)
 (.bi (qfF y0.1 y0.2.1 x3 x4) (fun y2=>
 .bi (br y1 (some y2.2.2) (some false)) (fun y3=>
 .at (.next ((IntKind.u64.wrap (x0 * 2 ^ 1),y3,IntKind.i64.wrap (x2 + 1),x3,x4,x5,x6,y2.1,y2.2.1))))
 (.no))
 (.no))
 (.at (.next ((IntKind.u64.wrap (x0 * 2 ^ 1),y1,IntKind.i64.wrap (x2 + 1),x3,x4,x5,x6,y0.1,y0.2.1)))))
 (.no))
 (.no))
 (.at (.done 0))
def qi3:qdk -> DT (Rd qdk):=(fun v=>qsV v.1 v.2.1 v.2.2.1 v.2.2.2.1 v.2.2.2.2.1 v.2.2.2.2.2.1 v.2.2.2.2.2.2.1 v.2.2.2.2.2.2.2.1 v.2.2.2.2.2.2.2.2)
def qt3 (v:qdk):Option (Nat × qdk):=qay (qap (fun v=>(qi3 v).ev) v)
theorem qgP (v):qt3 v = qap (fun v=>(qi3 v).ev) v:=qaa _
def qBM:qbz:=LE (τ:=qdk) (hD qA6) (qt3) q0P
theorem q0i:Go.Eng.Told IP (qae q1n 0).1 (qae q1n 0).2 (qBM):=lp (inferInstance:Inhabited qdk) (hs:=qA6) qi3 qyE qgP
abbrev qGE:Type:=Int × Int × Bool
def qMM:PArgs:=⟨[.agg [.int .u64,.int .u64],.int .u64],[]⟩
def qOt:List PRes:=[⟨false,.tup [.agg [.int .u64,.int .u64],.bool],[]⟩]
def qmr (x0 x1 x2:Int):DT qGE:=
 .bi (pj 0 (qt3 (x2,true,0,x0,x1,0,0,0,0))) (fun y0=>
 .at ((y0.2.2.2.2.2.2.2.1,y0.2.2.2.2.2.2.2.2,y0.2.1)))
 (.no)
def qn5 (x0 x1 x2:Int):Option qGE:=qay (qmr x0 x1 x2).ev
theorem qDP (x0 x1 x2):qn5 x0 x1 x2 = (qmr x0 x1 x2).ev:=qaa _
theorem qYz:FH IP 161 qMM qOt (k3 qn5):=qag (F:=q1n) (L:=[(1016100,qBM)]) (t:=(k3 qmr)) qyE (qab (l:=[qae q1n 0]) (by kernel_rfl) ⟨qas (by kernel_rfl) q0i,trivial⟩) (by kernel_rfl) (fun v=>by kernel_rfl) (fun _=>qaa _)
def zaF:Tab:=(161,FE qMM qOt (k3 qn5)) :: zaE
theorem qH5:qai IP zaF:=⟨qaj qYz,qyE⟩
abbrev qGB:Type:=Int × Int × Int
def qMJ:PArgs:=⟨[.agg [.int .i64,.int .u64],.int .i64],[]⟩
def qOq:List PRes:=[⟨false,.tup [.agg [.int .i64,.int .u64],.int .i64],[]⟩]
def qmo (x0 x1 x2:Int):DT qGB:=
 .bi (qex x0 x1) (fun y0=>
 .bi (qog x2) (fun y1=>
 .bi (qn5 y0.2.1 y0.2.2 y1) (fun y2=>
 .bi (qey (if true = true then !y0.1 == decide (x2 < 0) else y0.1 == decide (x2 < 0)) y2.1 y2.2.1) (fun y3=>
 .bi (br (!y2.2.2) (some true) (some !y3.2.2)) (fun y4=>
 .br (y4) (.at ((0,0,6))) (.at ((y3.1,y3.2.1,0))))
 (.no))
 (.no))
 (.no))
 (.no))
 (.no)
def qtH (x0 x1 x2:Int):Option qGB:=qay (qmo x0 x1 x2).ev
theorem qDL (x0 x1 x2):qtH x0 x1 x2 = (qmo x0 x1 x2).ev:=qaa _
theorem qYw:FH IP 147 qMJ qOq (k3 qtH):=fh q6e (k3 qmo) qH5
def zaG:Tab:=(147,FE qMJ qOq (k3 qtH)) :: zaF
theorem qH6:qai IP zaG:=⟨qaj qYw,qH5⟩
abbrev qHa:Type:=Int × Int
def qNj:PArgs:=⟨[.int .i64,.int .i64],[]⟩
def qO0:List PRes:=[⟨false,.agg [.int .i64,.int .u64],[]⟩]
def qmX (x0 x1:Int):DT qHa:=
 .bi (qbZ x0) (fun y0=>
 .bi (qtH y0.1 y0.2 x1) (fun y1=>
 .at ((y1.1,y1.2.1)))
 (.no))
 (.no)
def qou (x0 x1:Int):Option qHa:=qay (qmX x0 x1).ev
theorem qEk (x0 x1):qou x0 x1 = (qmX x0 x1).ev:=qaa _
theorem qZf:FH IP 130 qNj qO0 (k2 qou):=fh q52 (k2 qmX) qH6
def zaH:Tab:=(130,FE qNj qO0 (k2 qou)) :: zaG
theorem qH7:qai IP zaH:=⟨qaj qZf,qH6⟩
abbrev qGF:Type:=Bool
def qMN:PArgs:=⟨[.int .i64],[]⟩
def qOu:List PRes:=[⟨false,.bool,[]⟩]
def qjl (x0:Int):DT qGF:=
 .bi (br (decide (x0 >= 1)) (some (decide (x0 <= 6))) (some false)) (fun y0=>
 .at (y0))
 (.no)
def qgo (x0:Int):Option qGF:=qay (qjl x0).ev
theorem qrL (x0):qgo x0 = (qjl x0).ev:=qaa _
theorem qYA:FH IP 148 qMN qOu qgo:=fh q6f qjl qH7
def zaI:Tab:=(148,FE qMN qOu qgo) :: zaH
theorem qH8:qai IP zaI:=⟨qaj qYA,qH7⟩
abbrev qFY:Type:=Int × Int × Bool
def qL8:PArgs:=⟨[.agg [.int .u64,.int .u64]],[]⟩
def qNO:List PRes:=[⟨false,.tup [.agg [.int .u64,.int .u64],.bool],[]⟩]
def qlQ (x0 x1:Int):DT qFY:=
 .bi (qfF x0 x1 x0 x1) (fun y0=>
 .at ((y0.1,y0.2.1,y0.2.2)))
 (.no)
def qgj (x0 x1:Int):Option qFY:=qay (qlQ x0 x1).ev
theorem qDf (x0 x1):qgj x0 x1 = (qlQ x0 x1).ev:=qaa _
theorem qXR:FH IP 181 qL8 qNO (k2 qgj):=fh q6C (k2 qlQ) qH8
def zaJ:Tab:=(181,FE qL8 qNO (k2 qgj)) :: zaI
theorem qyF:qai IP zaJ:=⟨qaj qXR,qH8⟩
abbrev qfd:Type:=Int × Int × Int × Int × Int × Int × Int × Int × Int
def qKq:List PSt:=[⟨[(1016300,.junk),(1,.int .u64),(2,.ref 0 0 0),(4,.ref 1 0 0),(6,.ref 2 0 0),(7,.int .u64),(8,.int .i64)],[(0,.box [.int .u64,.int .u64] false),(1,.box [.int .u64,.int .u64] false),(2,.box [.int .u64,.int .u64] false)],3,0⟩]
def qSW (x0 x1:Int) (x2 x3:Int) (x4 x5:Int) (x6 x7 x8:Int):X × St:=(.exit 0,
 ⟨[(4,.ref 0 0 0),(6,.ref 1 0 0),(7,.int .u64 x1)],[(0,.box [.int .u64 x5,.int .u64 x6] false),(1,.box [.int .u64 x7,.int .u64 x8] false)],2,0⟩)
def q4Z:List (qfd -> X × St):=[(k9 qSW)]
def qxW (x0 x1:Int) (x2 x3:Int) (x4 x5:Int) (x6 x7 x8:Int):DT (Rd qfd):=
 .br (decide (x2 < 128))
 (.br (IntKind.u64.wrap ((BitVec.ofInt 64 x3 &&& BitVec.ofInt 64 9223372036854775808).toNat:Int) != 0)
 (.bi (qgj x3 x4) (fun y0=>
 .bi (qgj x7 x8) (fun y1=>
 .br (decide (IntKind.u64.wrap (IntKind.u64.wrap (x1 * 2 ^ 1) + 1) >= x0))
 (.at (.next ((x0,IntKind.u64.wrap (IntKind.u64.wrap (IntKind.u64.wrap (x1 * 2 ^ 1) + 1) - x0),IntKind.i64.wrap (x2 + 1),y0.1,y0.2.1,x5,x6,y1.1,IntKind.u64.wrap (y1.2.1 + 1)))))
 (.at (.next ((x0,IntKind.u64.wrap (IntKind.u64.wrap (x1 * 2 ^ 1) + 1),IntKind.i64.wrap (x2 + 1),y0.1,y0.2.1,x5,x6,y1.1,y1.2.1)))))
 (.no))
 (.no))
 (.bi (qgj x3 x4) (fun y0=>
 .bi (qgj x7 x8) (fun y1=>
 .br (decide (IntKind.u64.wrap (x1 * 2 ^ 1) >= x0))
 (.at (.next ((x0,IntKind.u64.wrap (IntKind.u64.wrap (x1 * 2 ^ 1) - x0),IntKind.i64.wrap (x2 + 1),y0.1,y0.2.1,x5,x6,y1.1,IntKind.u64.wrap (y1.2.1 + 1)))))
 (.at (.next ((x0,IntKind.u64.wrap (x1 * 2 ^ 1),IntKind.i64.wrap (x2 + 1),y0.1,y0.2.1,x5,x6,y1.1,y1.2.1)))))
 (.no))
 (.no)))
 (.at (.done 0))
def qqt:qfd -> DT (Rd qfd):=(fun v=>qxW v.1 v.2.1 v.2.2.1 v.2.2.2.1 v.2.2.2.2.1 v.2.2.2.2.2.1 v.2.2.2.2.2.2.1 v.2.2.2.2.2.2.2.1 v.2.2.2.2.2.2.2.2)
def qBB (v:qfd):Option (Nat × qfd):=qay (qap (fun v=>(qqt v).ev) v)
theorem qiP (v):qBB v = qap (fun v=>(qqt v).ev) v:=qaa _
def qLa:qbz:=LE (τ:=qfd) (hD qKq) (qBB) q4Z
theorem q4l:Go.Eng.Told IP (qae q1o 0).1 (qae q1o 0).2 (qLa):=lp (inferInstance:Inhabited qfd) (hs:=qKq) qqt qyF qiP
abbrev qT8:Type:=Int × Int × Int
def qWo:PArgs:=⟨[.agg [.int .u64,.int .u64],.int .u64],[]⟩
def qXa:List PRes:=[⟨false,.tup [.agg [.int .u64,.int .u64],.int .u64],[]⟩]
def qvr (x0 x1 x2:Int):DT qT8:=
 .bi (pj 0 (qBB (x2,0,0,x0,x1,0,0,0,0))) (fun y0=>
 .at ((y0.2.2.2.2.2.2.2.1,y0.2.2.2.2.2.2.2.2,y0.2.1)))
 (.no)
def qwn (x0 x1 x2:Int):Option qT8:=qay (qvr x0 x1 x2).ev
theorem qJQ (x0 x1 x2):qwn x0 x1 x2 = (qvr x0 x1 x2).ev:=qaa _
theorem q2S:FH IP 163 qWo qXa (k3 qwn):=qag (F:=q1o) (L:=[(1016300,qLa)]) (t:=(k3 qvr)) qyF (qab (l:=[qae q1o 0]) (by kernel_rfl) ⟨qas (by kernel_rfl) q4l,trivial⟩) (by kernel_rfl) (fun v=>by kernel_rfl) (fun _=>qaa _)
def zaK:Tab:=(163,FE qWo qXa (k3 qwn)) :: zaJ
theorem qH9:qai IP zaK:=⟨qaj q2S,qyF⟩
abbrev qG8:Type:=Int × Int × Int × Int
def qNh:PArgs:=⟨[.agg [.int .i64,.int .u64],.int .i64],[]⟩
def qOY:List PRes:=[⟨false,.tup [.agg [.int .i64,.int .u64],.int .i64,.int .i64],[]⟩]
def qmV (x0 x1 x2:Int):DT qG8:=
 .br (decide (x2 < 1))
 (.at ((0,0,0,1)))
 (.bi (qex x0 x1) (fun y0=>
 .bi (qwn y0.2.1 y0.2.2 (IntKind.u64.wrap x2)) (fun y1=>
 .bi (br y0.1 (some (decide (y1.2.2 > 0))) (some false)) (fun y2=>
 .br (y2)
 (.bi (qfF y1.1 y1.2.1 0 1) (fun y3=>
 .bi (qey y0.1 y3.1 y3.2.1) (fun y4=>
 .at ((y4.1,y4.2.1,IntKind.i64.wrap (IntKind.u64.wrap (IntKind.u64.wrap x2 - y1.2.2)),0)))
 (.no))
 (.no))
 (.bi (qey y0.1 y1.1 y1.2.1) (fun y3=>
 .at ((y3.1,y3.2.1,IntKind.i64.wrap y1.2.2,0)))
 (.no)))
 (.no))
 (.no))
 (.no))
def qot (x0 x1 x2:Int):Option qG8:=qay (qmV x0 x1 x2).ev
theorem qEi (x0 x1 x2):qot x0 x1 x2 = (qmV x0 x1 x2).ev:=qaa _
theorem qZd:FH IP 149 qNh qOY (k3 qot):=fh q6g (k3 qmV) qH9
def zaL:Tab:=(149,FE qNh qOY (k3 qot)) :: zaK
theorem qIa:qai IP zaL:=⟨qaj qZd,qH9⟩
abbrev qHh:Type:=Bool
def qNq:PArgs:=⟨[.bool,.bool,.int .i64,.int .i64,.int .i64],[]⟩
def qO7:List PRes:=[⟨false,.bool,[]⟩]
def qjo (x0 x1:Bool) (x2 x3 x4:Int):DT qHh:=
 .br (x4 == 1)
 (.at (x0))
 (.br (x4 == 2)
 (.at (!x0))
 (.br (x4 == 3)
 (.at (false))
 (.br (x4 == 4)
 (.at (true))
 (.br (x2 != IntKind.i64.wrap (x3 - x2))
 (.at (decide (x2 > IntKind.i64.wrap (x3 - x2))))
 (.br (x4 == 5) (.at (!x0)) (.at (x1)))))))
def qgp (x0 x1:Bool) (x2 x3 x4:Int):Option qHh:=qay (qjo x0 x1 x2 x3 x4).ev
theorem qrO (x0 x1 x2 x3 x4):qgp x0 x1 x2 x3 x4 = (qjo x0 x1 x2 x3 x4).ev:=qaa _
theorem qZm:FH IP 150 qNq qO7 (k5 qgp):=fh q6h (k5 qjo) qIa
def zaM:Tab:=(150,FE qNq qO7 (k5 qgp)) :: zaL
theorem qIb:qai IP zaM:=⟨qaj qZm,qIa⟩
abbrev qGf:Type:=Int × Int
def qMn:PArgs:=⟨[.agg [.int .i64,.int .u64],.int .i64,.int .i64],[]⟩
def qN3:List PRes:=[⟨false,.tup [.int .i64,.int .i64],[]⟩]
def ql5 (x0 x1:Int) (x2 x3:Int):DT qGf:=
 .bi (br (decide (x2 < 1)) (some true) (br (sm (qgo x3)) (some !gv (qgo x3)) none)) (fun y0=>
 .br (y0)
 (.at ((0,1)))
 (.bi (qot x0 x1 x2) (fun y1=>
 .bi (br (decide (y1.2.2.1 > 0))
 (br (sm (qgp (decide (x0 < 0)) (y1.2.1.tmod 2 == 1) y1.2.2.1 x2 x3)) (some (gv (qgp (decide (x0 < 0)) (y1.2.1.tmod 2 == 1) y1.2.2.1 x2 x3))) none)
 (some false)) (fun y2=>
 .br (y2)
 (.bi (qbZ 1) (fun y3=>
 .bi (qjU y1.1 y1.2.1 y3.1 y3.2) (fun y4=>
 .bi (qh5 y4.1 y4.2.1) (fun y5=>
 .br (!y5.2) (.at ((0,6))) (.at ((y5.1,0))))
 (.no))
 (.no))
 (.no))
 (.bi (qh5 y1.1 y1.2.1) (fun y3=>
 .br (!y3.2) (.at ((0,6))) (.at ((y3.1,0))))
 (.no)))
 (.no))
 (.no)))
 (.no)
def qdK (x0 x1:Int) (x2 x3:Int):Option qGf:=qay (ql5 x0 x1 x2 x3).ev
theorem qDs (x0 x1 x2 x3):qdK x0 x1 x2 x3 = (ql5 x0 x1 x2 x3).ev:=qaa _
theorem qX7:FH IP 131 qMn qN3 (k4 qdK):=fh q53 (k4 ql5) qIb
def zaN:Tab:=(131,FE qMn qN3 (k4 qdK)) :: zaM
theorem qId:qai IP zaN:=⟨qaj qX7,qIb⟩
abbrev qF1:Type:=Int × Int × Int
def qMb:PArgs:=⟨[.int .i64,.agg [.int .i64,.int .i64],.agg [.int .i64,.int .i64]],[]⟩
def qNR:List PRes:=[⟨false,.tup [.agg [.int .i64,.int .i64],.int .i64],[]⟩]
def qlS (x0 x1:Int) (x2 x3 x4:Int):DT qF1:=
 .bi (qou x2 x4) (fun y0=>
 .bi (br (IntKind.i64.wrap (x1 + x3) != 5) (some true) (some (x1 == x3))) (fun y1=>
 .br (y1)
 (.bi (qcC x0 y0.1 y0.2) (fun y2=>
 .at ((y2.1,y2.2.1,y2.2.2)))
 (.no))
 (.bi (qdK y0.1 y0.2 1000000 6) (fun y2=>
 .bi (qbZ y2.1) (fun y3=>
 .bi (qcC x0 y3.1 y3.2) (fun y4=>
 .at ((y4.1,y4.2.1,y4.2.2)))
 (.no))
 (.no))
 (.no)))
 (.no))
 (.no)
def qnL (x0 x1:Int) (x2 x3 x4:Int):Option qF1:=qay (qlS x0 x1 x2 x3 x4).ev
theorem qDh (x0 x1 x2 x3 x4):qnL x0 x1 x2 x3 x4 = (qlS x0 x1 x2 x3 x4).ev:=qaa _
theorem qXU:FH IP 104 qMb qNR (k5 qnL):=fh q5G (k5 qlS) qId
def zaO:Tab:=(104,FE qMb qNR (k5 qnL)) :: zaN
theorem qIe:qai IP zaO:=⟨qaj qXU,qId⟩
abbrev qUc:Type:=Int × Int × Int
def qWs:PArgs:=⟨[.int .i64,.agg [.int .i64,.int .i64],.agg [.int .i64,.int .i64]],[]⟩
def qXe:List PRes:=[⟨false,.tup [.agg [.int .i64,.int .i64],.int .i64],[]⟩]
def qvv (x0 x1:Int) (x2 x3 x4:Int):DT qUc:=
 .br (x4 == 0)
 (.at ((0,0,7)))
 (.bi (br (x4 == -9223372036854775808) (some (x0 != 1)) (some false)) (fun y0=>
 .br (y0)
 (.at ((x0,0,0)))
 (.br (x4 == -9223372036854775808)
 (.br (x2 == x4) (.at ((x0,1,0))) (.at ((x0,0,0))))
 (.bi (qbZ x2) (fun y1=>
 .br (decide (x4 < 0))
 (.bi (qh6 0 0 y1.1 y1.2) (fun y2=>
 .br (x0 == 1)
 (.bi (qdK y2.1 y2.2.1 (IntKind.i64.wrap (0 - x4)) 1) (fun y3=>
 .br (y3.2 != 0)
 (.at ((0,0,6)))
 (.bi (qbZ y3.1) (fun y4=>
 .bi (qcC x0 y4.1 y4.2) (fun y5=>
 .at ((y5.1,y5.2.1,y5.2.2)))
 (.no))
 (.no)))
 (.no))
 (.bi (qdK y2.1 y2.2.1 (IntKind.i64.wrap (0 - x4)) 6) (fun y3=>
 .br (y3.2 != 0)
 (.at ((0,0,6)))
 (.bi (qbZ y3.1) (fun y4=>
 .bi (qcC x0 y4.1 y4.2) (fun y5=>
 .at ((y5.1,y5.2.1,y5.2.2)))
 (.no))
 (.no)))
 (.no)))
 (.no))
 (.br (x0 == 1)
 (.bi (qdK y1.1 y1.2 x4 1) (fun y2=>
 .br (y2.2 != 0)
 (.at ((0,0,6)))
 (.bi (qbZ y2.1) (fun y3=>
 .bi (qcC x0 y3.1 y3.2) (fun y4=>
 .at ((y4.1,y4.2.1,y4.2.2)))
 (.no))
 (.no)))
 (.no))
 (.bi (qdK y1.1 y1.2 x4 6) (fun y2=>
 .br (y2.2 != 0)
 (.at ((0,0,6)))
 (.bi (qbZ y2.1) (fun y3=>
 .bi (qcC x0 y3.1 y3.2) (fun y4=>
 .at ((y4.1,y4.2.1,y4.2.2)))
 (.no))
 (.no)))
 (.no))))
 (.no))))
 (.no))
def qwq (x0 x1:Int) (x2 x3 x4:Int):Option qUc:=qay (qvv x0 x1 x2 x3 x4).ev
theorem qJU (x0 x1 x2 x3 x4):qwq x0 x1 x2 x3 x4 = (qvv x0 x1 x2 x3 x4).ev:=qaa _
theorem q2W:FH IP 105 qWs qXe (k5 qwq):=fh q5H (k5 qvv) qIe
def zaP:Tab:=(105,FE qWs qXe (k5 qwq)) :: zaO
theorem qIf:qai IP zaP:=⟨qaj q2W,qIe⟩
abbrev qGk:Type:=Int × Int
def qMs:PArgs:=⟨[.int .i64,.view 2],[]⟩
def qN8:List PRes:=[⟨false,.agg [.int .i64,.int .i64],[]⟩]
def qjj (x0:Int) (x1:List AV):DT qGk:=
 .br (x0 == 19)
 (.br (qaD [.int .i64,.int .i64] x1 0)
 (.br (intOf (cellAt x1 0 1) == 1)
 (.br (qaD [.int .i64,.int .i64] x1 1) (.at ((intOf (cellAt x1 1 0),intOf (cellAt x1 1 1)))) (.no))
 (.br (qaD [.int .i64,.int .i64] x1 2) (.at ((intOf (cellAt x1 2 0),intOf (cellAt x1 2 1)))) (.no)))
 (.no))
 (.br (qaD [.int .i64,.int .i64] x1 0)
 (.br (qaD [.int .i64,.int .i64] x1 1)
 (.br (if false = true then !decide (intOf (cellAt x1 0 1) < intOf (cellAt x1 1 1)) == (x0 == 17) else decide (intOf (cellAt x1 0 1) < intOf (cellAt x1 1 1)) == (x0 == 17))
 (.br (qaD [.int .i64,.int .i64] x1 0) (.at ((intOf (cellAt x1 0 0),intOf (cellAt x1 0 1)))) (.no))
 (.br (qaD [.int .i64,.int .i64] x1 1) (.at ((intOf (cellAt x1 1 0),intOf (cellAt x1 1 1)))) (.no)))
 (.no))
 (.no))
def qfD (x0:Int) (x1:List AV):Option qGk:=qay (qjj x0 x1).ev
theorem qrJ (x0 x1):qfD x0 x1 = (qjj x0 x1).ev:=qaa _
theorem qYc:FH IP 106 qMs qN8 (k2 qfD):=fh q5I (k2 qjj) qIf
def zaQ:Tab:=(106,FE qMs qN8 (k2 qfD)) :: zaP
theorem qIg:qai IP zaQ:=⟨qaj qYc,qIf⟩
abbrev qGK:Type:=Int × Int
def qMT:PArgs:=⟨[.bool],[]⟩
def qOA:List PRes:=[⟨false,.agg [.int .i64,.int .i64],[]⟩]
def qmw (x0:Bool):DT qGK:=
 .br (x0) (.at ((5,1))) (.at ((5,0)))
def qdN (x0:Bool):Option qGK:=qay (qmw x0).ev
theorem qDU (x0):qdN x0 = (qmw x0).ev:=qaa _
theorem qYK:FH IP 132 qMT qOA qdN:=fh q54 qmw qIg
def zaR:Tab:=(132,FE qMT qOA qdN) :: zaQ
theorem qIh:qai IP zaR:=⟨qaj qYK,qIg⟩
abbrev qF0:Type:=Int × Int
def qMa:PArgs:=⟨[.int .i64,.view 2],[]⟩
def qNQ:List PRes:=[⟨false,.agg [.int .i64,.int .i64],[]⟩]
def qji (x0:Int) (x1:List AV):DT qF0:=
 .br (qaD [.int .i64,.int .i64] x1 0)
 (.br (qaD [.int .i64,.int .i64] x1 (IntKind.i64.wrap ((x1.length:Int) - 1)))
 (.br (x0 == 10)
 (.bi (qdN (intOf (cellAt x1 0 1) == intOf (cellAt x1 (IntKind.i64.wrap ((x1.length:Int) - 1)) 1))) (fun y0=>
 .at ((y0.1,y0.2)))
 (.no))
 (.br (x0 == 11)
 (.bi (qdN (intOf (cellAt x1 0 1) != intOf (cellAt x1 (IntKind.i64.wrap ((x1.length:Int) - 1)) 1))) (fun y0=>
 .at ((y0.1,y0.2)))
 (.no))
 (.br (x0 == 12)
 (.bi (qdN (decide (intOf (cellAt x1 0 1) < intOf (cellAt x1 (IntKind.i64.wrap ((x1.length:Int) - 1)) 1)))) (fun y0=>
 .at ((y0.1,y0.2)))
 (.no))
 (.br (x0 == 13)
 (.bi (qdN (decide (intOf (cellAt x1 0 1) <= intOf (cellAt x1 (IntKind.i64.wrap ((x1.length:Int) - 1)) 1)))) (fun y0=>
 .at ((y0.1,y0.2)))
 (.no))
 (.br (x0 == 14)
 (.bi (br (intOf (cellAt x1 0 1) == 1) (some (intOf (cellAt x1 (IntKind.i64.wrap ((x1.length:Int) - 1)) 1) == 1)) (some false)) (fun y0=>
 .bi (qdN y0) (fun y1=>
 .at ((y1.1,y1.2)))
 (.no))
 (.no))
 (.br (x0 == 15)
 (.bi (br (intOf (cellAt x1 0 1) == 1) (some true) (some (intOf (cellAt x1 (IntKind.i64.wrap ((x1.length:Int) - 1)) 1) == 1))) (fun y0=>
 .bi (qdN y0) (fun y1=>
 .at ((y1.1,y1.2)))
 (.no))
 (.no))
 (.bi (qdN (intOf (cellAt x1 0 1) == 0)) (fun y0=>
 .at ((y0.1,y0.2)))
 (.no))))))))
 (.no))
 (.no)
def qfz (x0:Int) (x1:List AV):Option qF0:=qay (qji x0 x1).ev
theorem qrI (x0 x1):qfz x0 x1 = (qji x0 x1).ev:=qaa _
theorem qXT:FH IP 107 qMa qNQ (k2 qfz):=fh q5J (k2 qji) qIh
def zaS:Tab:=(107,FE qMa qNQ (k2 qfz)) :: zaR
theorem qIi:qai IP zaS:=⟨qaj qXT,qIh⟩
abbrev qyr:Type:=Int × Int × Int
def qMR:PArgs:=⟨[.int .i64,.view 2],[]⟩
def qOy:List PRes:=[⟨false,.tup [.agg [.int .i64,.int .i64],.int .i64],[]⟩]
def qul (op:Int) (x:List AV) (t:Int):DT qyr:=
 .br (qaD [.int .i64,.int .i64] x 0)
 (.bi (qbZ (intOf (cellAt x 0 1))) (fun y4=>
 .br (qaD [.int .i64,.int .i64] x (IntKind.i64.wrap ((x.length:Int) - 1)))
 (.bi (qbZ (intOf (cellAt x (IntKind.i64.wrap ((x.length:Int) - 1)) 1))) (fun y5=>
 .br (op == 5)
 (.bi (qjU y4.1 y4.2 y5.1 y5.2) (fun y6=>
 .bi (qcC t y6.1 y6.2.1) (fun y7=>
 .at ((y7.1,y7.2.1,y7.2.2)))
 (.no))
 (.no))
 (.br (op == 6)
 (.bi (qh6 y4.1 y4.2 y5.1 y5.2) (fun y6=>
 .bi (qcC t y6.1 y6.2.1) (fun y7=>
 .at ((y7.1,y7.2.1,y7.2.2)))
 (.no))
 (.no))
 (.br (op == 9)
 (.bi (qh6 0 0 y4.1 y4.2) (fun y6=>
 .bi (qcC t y6.1 y6.2.1) (fun y7=>
 .at ((y7.1,y7.2.1,y7.2.2)))
 (.no))
 (.no))
 (.br (op == 7)
 (.br (qaD [.int .i64,.int .i64] x 0)
 (.br (qaD [.int .i64,.int .i64] x 1)
 (.bi (qnL t (intOf (cellAt x 0 0)) (intOf (cellAt x 0 1)) (intOf (cellAt x 1 0)) (intOf (cellAt x 1 1))) (fun y6=>
 .at ((y6.1,y6.2.1,y6.2.2)))
 (.no))
 (.no))
 (.no))
 (.br (op == 8)
 (.br (qaD [.int .i64,.int .i64] x 0)
 (.br (qaD [.int .i64,.int .i64] x 1)
 (.bi (qwq t (intOf (cellAt x 0 0)) (intOf (cellAt x 0 1)) (intOf (cellAt x 1 0)) (intOf (cellAt x 1 1))) (fun y6=>
 .at ((y6.1,y6.2.1,y6.2.2)))
 (.no))
 (.no))
 (.no))
 (.br (op == 17)
 (.br (op == 17)
 (.bi (qfD op x) (fun y6=>
 .at ((y6.1,y6.2,0)))
 (.no))
 (.bi (qfz op x) (fun y6=>
 .at ((y6.1,y6.2,0)))
 (.no)))
 (.br (op == 18)
 (.br (op == 18)
 (.bi (qfD op x) (fun y6=>
 .at ((y6.1,y6.2,0)))
 (.no))
 (.bi (qfz op x) (fun y6=>
 .at ((y6.1,y6.2,0)))
 (.no)))
 (.br (op == 19)
 (.bi (qfD op x) (fun y6=>
 .at ((y6.1,y6.2,0)))
 (.no))
 (.bi (qfz op x) (fun y6=>
 .at ((y6.1,y6.2,0)))
 (.no))))))))))
 (.no))
 (.no))
 (.no))
 (.no)
def qjm (x0:Int) (x1:List AV):DT qyr:=
 .bi (pj 0 (qj8 (Sum.inl (x0,x1,0,0,0)))) (fun y0=>
 .bi (qc8 (sl y0).1 []) (fun y1=>
 .bi (br (!y1.2) (some true) (some (((sl y0).2.1.length:Int) == 0))) (fun y2=>
 .br (y2)
 (.at ((0,0,3)))
 (.bi (pj 0 (qfM ((sl y0).1,(sl y0).2.1,y1.1,0,(sl y0).2.2.2.1,(sl y0).2.2.2.2))) (fun y3=>
 .at ((0,0,1)))
 (.bi (pj 1 (qfM ((sl y0).1,(sl y0).2.1,y1.1,0,(sl y0).2.2.2.1,(sl y0).2.2.2.2))) (fun y3=>
 (qul y3.1 y3.2.1 y3.2.2.1))
 (.no))))
 (.no))
 (.no))
 (.bi (pj 1 (qj8 (Sum.inl (x0,x1,0,0,0)))) (fun y0=>
 .bi (qc8 (sr y0).1 (sr y0).2.2.2.2.2) (fun y1=>
 .bi (br (!y1.2) (some true) (some (((sr y0).2.1.length:Int) == 0))) (fun y2=>
 .br (y2)
 (.at ((0,0,3)))
 (.bi (pj 0 (qfM ((sr y0).1,(sr y0).2.1,y1.1,0,(sr y0).2.2.2.1,(sr y0).2.2.2.2.1))) (fun y3=>
 .at ((0,0,1)))
 (.bi (pj 1 (qfM ((sr y0).1,(sr y0).2.1,y1.1,0,(sr y0).2.2.2.1,(sr y0).2.2.2.2.1))) (fun y3=>
 (qul y3.1 y3.2.1 y3.2.2.1))
 (.no))))
 (.no))
 (.no))
 (.no))
def qjL (x0:Int) (x1:List AV):Option qyr:=qay (qjm x0 x1).ev
theorem qrM (x0 x1):qjL x0 x1 = (qjm x0 x1).ev:=qaa _
theorem qYI:FH IP 83 qMR qOy (k2 qjL):=qag (F:=F83) (L:=[(1008300,qBS),(1008301,qBT)]) (t:=(k2 qjm)) qIi (qab (l:=[qae F83 0,qae F83 1]) (by kernel_rfl) ⟨qas (by kernel_rfl) q0o,qas (by kernel_rfl) q0p,trivial⟩) (by kernel_rfl) (fun v=>by kernel_rfl) (fun _=>qaa _)
def q6U:Tab:=(83,FE qMR qOy (k2 qjL)) :: zaS
theorem qIj:qai IP q6U:=⟨qaj qYI,qIi⟩
abbrev qeW:Type:=Int × Int × Int
def qpu:PArgs:=⟨[.agg [.int .i64,.int .i64,.str,.view 4],.view 2,.view 2],[]⟩
def qpK:List PRes:=[⟨false,.tup [.agg [.int .i64,.int .i64],.int .i64],[]⟩]
abbrev qa9:Type:=Int -> Int -> (List UInt8) -> (List AV) -> (List AV) -> (List AV) -> Option qeW
def qtf (G_u194q:qa9):Prop:=FH IP 67 qpu qpK (k6 G_u194q)
def qQ3 (G_u194q:qa9):Tab:=(67,FE qpu qpK (k6 G_u194q)) :: q6U
theorem qnf (G_u194q:qa9) (hG:qtf G_u194q):qai IP (qQ3 G_u194q):=⟨qaj (hG),qIj⟩
abbrev qbR:Type:=(List AV × List AV × Int × Int × Int × List UInt8 × List AV × Int × Int) ⊕ (List AV × List AV × Int × Int × Int × List UInt8 × List AV × Int × Int × List AV)
def qBf:List PSt:=[⟨[(1006700,.junk),(1,.view 2),(2,.view 2),(3,.ref 0 0 0),(6,.ref 1 0 0),(10,.nils 2),(11,.int .i64)],[(0,.box [.int .i64,.int .i64,.str,.view 4] false),(1,.box [.int .i64,.int .i64] false)],2,0⟩,⟨[(1006700,.junk),(1,.view 2),(2,.view 2),(3,.ref 0 0 0),(6,.ref 1 0 0),(10,.own 2 0),(11,.int .i64)],[(0,.box [.int .i64,.int .i64,.str,.view 4] false),(1,.box [.int .i64,.int .i64] false),(2,.arr 2 false)],3,0⟩]
def qP9 (G_u194q:qa9) (x0 x1:List AV) (x2 x3 x4:Int) (x5:List UInt8) (x6:List AV) (x7 x8:Int):X × St:=(.ret,
 ⟨[(3,.ref 0 0 0),(6,.ref 1 0 0),
 (7,.int .i64 (gv (G_u194q (intOf (cellAt x6 x2 0)) (intOf (cellAt x6 x2 1)) (strOf (cellAt x6 x2 2)) (qaq (cellAt x6 x2 3)) x0 x1)).2.2),
 (10,.nils ⟨2,.nil⟩)],[(0,.box [.int .i64 x3,.int .i64 x4,.str x5,.view 4 x6] false),(1,.box [.int .i64 0,.int .i64 0] false)],2,0⟩)
def qQa (G_u194q:qa9) (x0 x1:List AV) (x2 x3 x4:Int) (x5:List UInt8) (x6:List AV) (x7 x8:Int):X × St:=(.exit 0,
 ⟨[(3,.ref 0 0 0),(6,.ref 1 0 0),(7,.junk),(10,.nils ⟨2,.nil⟩)],[(0,.box [.int .i64 x3,.int .i64 x4,.str x5,.view 4 x6] false),(1,.box [.int .i64 x7,.int .i64 x8] false)],2,0⟩)
def qQb (G_u194q:qa9) (x0 x1:List AV) (x2 x3 x4:Int) (x5:List UInt8) (x6:List AV) (x7 x8:Int) (x9:List AV):X × St:=(.ret,
 ⟨[(3,.ref 0 0 0),(6,.ref 1 0 0),
 (7,.int .i64 (gv (G_u194q (intOf (cellAt x6 x2 0)) (intOf (cellAt x6 x2 1)) (strOf (cellAt x6 x2 2)) (qaq (cellAt x6 x2 3)) x0 x1)).2.2),
 (10,.own 2 0 none)],[(0,.box [.int .i64 x3,.int .i64 x4,.str x5,.view 4 x6] false),(1,.box [.int .i64 0,.int .i64 0] false),
 (2,.arr 2 x9 false)],3,0⟩)
def qQc (G_u194q:qa9) (x0 x1:List AV) (x2 x3 x4:Int) (x5:List UInt8) (x6:List AV) (x7 x8:Int) (x9:List AV):X × St:=(.exit 0,
 ⟨[(3,.ref 0 0 0),(6,.ref 1 0 0),(7,.junk),(10,.own 2 0 none)],[(0,.box [.int .i64 x3,.int .i64 x4,.str x5,.view 4 x6] false),(1,.box [.int .i64 x7,.int .i64 x8] false),
 (2,.arr 2 x9 false)],3,0⟩)
def q0Y (G_u194q:qa9):List (qbR -> X × St):=[fun w=>(k9 (qP9 G_u194q)) ((sl w)),fun w=>(k9 (qQa G_u194q)) ((sl w)),fun w=>(k10 (qQb G_u194q)) ((sr w)),fun w=>(k10 (qQc G_u194q)) ((sr w))]
def qha (G_u194q:qa9) (x0 x1:List AV) (x2 x3 x4:Int) (x5:List UInt8) (x6:List AV) (x7 x8:Int):DT (Rd qbR):=
 .br (decide (x2 < (x6.length:Int)))
 (.br (qaD [.int .i64,.int .i64,.str,.slice 4] x6 x2)
 (.bi (G_u194q (intOf (cellAt x6 x2 0)) (intOf (cellAt x6 x2 1)) (strOf (cellAt x6 x2 2)) (qaq (cellAt x6 x2 3)) x0 x1) (fun y0=>
 .br (y0.2.2 != 0)
 (.at (.done 0))
 (.at (.next ((.inr (x0,x1,IntKind.i64.wrap (x2 + 1),x3,x4,x5,x6,x7,x8,[AV.agg [.int .i64 y0.1,.int .i64 y0.2.1]]))))))
 (.no))
 (.no))
 (.at (.done 1))
def qhb (G_u194q:qa9) (x0 x1:List AV) (x2 x3 x4:Int) (x5:List UInt8) (x6:List AV) (x7 x8:Int) (x9:List AV):DT (Rd qbR):=
 .br (decide (x2 < (x6.length:Int)))
 (.br (qaD [.int .i64,.int .i64,.str,.slice 4] x6 x2)
 (.bi (G_u194q (intOf (cellAt x6 x2 0)) (intOf (cellAt x6 x2 1)) (strOf (cellAt x6 x2 2)) (qaq (cellAt x6 x2 3)) x0 x1) (fun y0=>
 .br (y0.2.2 != 0)
 (.at (.done 2))
 (.br (room (x9.length + 1) 16)
 (.at (.next ((.inr (x0,x1,IntKind.i64.wrap (x2 + 1),x3,x4,x5,x6,x7,x8,x9 ++ [AV.agg [.int .i64 y0.1,.int .i64 y0.2.1]])))))
 (.no)))
 (.no))
 (.no))
 (.at (.done 3))
def qcQ (G_u194q:qa9):qbR -> DT (Rd qbR):=(Sum.elim (fun v=>qha G_u194q v.1 v.2.1 v.2.2.1 v.2.2.2.1 v.2.2.2.2.1 v.2.2.2.2.2.1 v.2.2.2.2.2.2.1 v.2.2.2.2.2.2.2.1 v.2.2.2.2.2.2.2.2) (fun v=>qhb G_u194q v.1 v.2.1 v.2.2.1 v.2.2.2.1 v.2.2.2.2.1 v.2.2.2.2.2.1 v.2.2.2.2.2.2.1 v.2.2.2.2.2.2.2.1 v.2.2.2.2.2.2.2.2.1 v.2.2.2.2.2.2.2.2.2))
def qoW (G_u194q:qa9) (v:qbR):Option (Nat × qbR):=qay (qap (fun v=>(qcQ G_u194q v).ev) v)
theorem qgR (G_u194q v):qoW G_u194q v = qap (fun v=>(qcQ G_u194q v).ev) v:=qaa _
def qBV (G_u194q:qa9):qbz:=LE (τ:=qbR) (hD qBf) (qoW G_u194q) (q0Y G_u194q)
theorem q0r (G_u194q:qa9) (hG:qtf G_u194q):Go.Eng.Told IP (qae F67 0).1 (qae F67 0).2 (qBV G_u194q):=qar (inferInstance:Inhabited qbR) (hs:=qBf) (st:=qcQ G_u194q) (L:=[]) (qnf G_u194q hG) (qab (l:=[]) (by kernel_rfl) trivial) (qgR G_u194q) (fun v=>match v with | (.inl v)=>by kernel_rfl | (.inr v)=>by kernel_rfl) (fun v=>match v with | (.inl v)=>by kernel_rfl | (.inr v)=>by kernel_rfl)
def rvI (G:Int -> Int -> List UInt8 -> List AV -> List AV -> List AV -> Option qeW) (x3 x4 x5:List AV):DT qeW:=
 (.br (qaD [.int .i64,.int .i64,.str,.slice 4] x3 0)
 (.bi (G (intOf (cellAt x3 0 0)) (intOf (cellAt x3 0 1)) (strOf (cellAt x3 0 2)) (qaq (cellAt x3 0 3)) x4 x5) (fun y0=>
 .br (y0.2.2 != 0)
 (.at ((0,0,y0.2.2)))
 (.br (qaD [.int .i64,.int .i64,.str,.slice 4] x3 (IntKind.i64.wrap (2 - y0.2.1)))
 (.bi (G (intOf (cellAt x3 (IntKind.i64.wrap (2 - y0.2.1)) 0)) (intOf (cellAt x3 (IntKind.i64.wrap (2 - y0.2.1)) 1))
 (strOf (cellAt x3 (IntKind.i64.wrap (2 - y0.2.1)) 2)) (qaq (cellAt x3 (IntKind.i64.wrap (2 - y0.2.1)) 3)) x4 x5) (fun y1=>
 .at ((y1.1,y1.2.1,y1.2.2)))
 (.no))
 (.no)))
 (.no))
 (.no))
def rvT (G:Int -> Int -> List UInt8 -> List AV -> List AV -> List AV -> Option qeW) (y:Option (Nat × qbR)):DT qeW:=
 (.bi (pj 0 y) (fun y0=>
 .at ((0,0,(gv
 (G (intOf (cellAt (sl y0).2.2.2.2.2.2.1 (sl y0).2.2.1 0)) (intOf (cellAt (sl y0).2.2.2.2.2.2.1 (sl y0).2.2.1 1))
 (strOf (cellAt (sl y0).2.2.2.2.2.2.1 (sl y0).2.2.1 2)) (qaq (cellAt (sl y0).2.2.2.2.2.2.1 (sl y0).2.2.1 3)) (sl y0).1
 (sl y0).2.1)).2.2)))
 (.bi (pj 1 y) (fun y0=>
 .bi (qjL (sl y0).2.2.2.1 []) (fun y1=>
 .at ((y1.1,y1.2.1,y1.2.2)))
 (.no))
 (.bi (pj 2 y) (fun y0=>
 .at ((0,0,(gv
 (G (intOf (cellAt (sr y0).2.2.2.2.2.2.1 (sr y0).2.2.1 0)) (intOf (cellAt (sr y0).2.2.2.2.2.2.1 (sr y0).2.2.1 1))
 (strOf (cellAt (sr y0).2.2.2.2.2.2.1 (sr y0).2.2.1 2)) (qaq (cellAt (sr y0).2.2.2.2.2.2.1 (sr y0).2.2.1 3)) (sr y0).1
 (sr y0).2.1)).2.2)))
 (.bi (pj 3 y) (fun y0=>
 .bi (qjL (sr y0).2.2.2.1 (sr y0).2.2.2.2.2.2.2.2.2) (fun y1=>
 .at ((y1.1,y1.2.1,y1.2.2)))
 (.no))
 (.no)))))
def qcU (G_u194q:qa9) (x0 x1:Int) (x2:List UInt8) (x3 x4 x5:List AV):DT qeW:=
 .br ((x3.length:Int) == 0)
 (.bi (qjP x0 x1 x2 x3 x4 x5) (fun y0=>
 .at ((y0.1,y0.2,0)))
 (.no))
 (.br (x0 == 19)
 ((rvI G_u194q x3 x4 x5))
 ((rvT G_u194q (qoW G_u194q (Sum.inl (x4,x5,0,x0,x1,x2,x3,0,0))))))
def qbV:Nat -> qa9
 | 0=>fun _ _ _ _ _ _=>none
 | n + 1=>fun x0 x1 x2 x3 x4 x5=>(qcU ((qbV n)) x0 x1 x2 x3 x4 x5).ev
def qtL (x0 x1:Int) (x2:List UInt8) (x3 x4 x5:List AV):Option qeW:=qka fun n=>(qbV n) x0 x1 x2 x3 x4 x5
theorem qrv:∀ n,qtf ((qbV n))
 | 0=>(fun v y h=>nomatch h)
 | n + 1=>have hG:=qrv n
 qag (F:=F67) (L:=[(1006700,qBV ((qbV n)))]) (t:=(k6 (qcU ((qbV n))))) (qnf ((qbV n)) hG) (qab (l:=[qae F67 0]) (by kernel_rfl) ⟨qas (by kernel_rfl) (q0r ((qbV n)) hG),trivial⟩) (by kernel_rfl) (fun v=>by kernel_rfl) (fun v=>rfl)
theorem qYL:FH IP 67 qpu qpK (k6 qtL):=qbK (p:=qpu) (rs:=qpK) (s:=fun n=>(k6 ((qbV n)))) fun n=>(qrv n)
def zaT:Tab:=(67,FE qpu qpK (k6 qtL)) :: q6U
theorem qIk:qai IP zaT:=⟨qaj qYL,qIj⟩
abbrev qGX:Type:=Int × Int × Int
def qM6:PArgs:=⟨[.agg [.int .i64,.int .i64,.str,.view 4],.view 2,.view 2],[]⟩
def qON:List PRes:=[⟨false,.tup [.agg [.int .i64,.int .i64],.int .i64],[]⟩]
def qmL (x0 x1:Int) (x2:List UInt8) (x3 x4 x5:List AV):DT qGX:=
 .bi (qoj x4) (fun y0=>
 .br (y0 != 0)
 (.at ((0,0,y0)))
 (.bi (qow x0 x1 x2 x3 x4) (fun y1=>
 .br (y1.2 != 0)
 (.at ((0,0,y1.2)))
 (.bi (qjM x4 x5) (fun y2=>
 .br (!y2)
 (.at ((0,0,1)))
 (.bi (qtL x0 x1 x2 x3 x4 x5) (fun y3=>
 .at ((y3.1,y3.2.1,y3.2.2)))
 (.no)))
 (.no)))
 (.no)))
 (.no)
def qok (x0 x1:Int) (x2:List UInt8) (x3 x4 x5:List AV):Option qGX:=qay (qmL x0 x1 x2 x3 x4 x5).ev
theorem qD8 (x0 x1 x2 x3 x4 x5):qok x0 x1 x2 x3 x4 x5 = (qmL x0 x1 x2 x3 x4 x5).ev:=qaa _
theorem qY2:FH IP 49 qM6 qON (k6 qok):=fh F49 (k6 qmL) qIk
def zaU:Tab:=(49,FE qM6 qON (k6 qok)) :: zaT
theorem qIl:qai IP zaU:=⟨qaj qY2,qIk⟩
abbrev qGz:Type:=Bool
def qMH:PArgs:=⟨[.agg [.int .i64,.int .i64,.str,.view 4],.agg [.int .i64,.int .i64,.int .i64,.int .i64,.int .i64,.int .i64,.int .i64],.int .i64],[]⟩
def qOn:List PRes:=[⟨false,.bool,[]⟩]
def qmm (x0 x1:Int) (x2:List UInt8) (x3:List AV) (x4 x5:Int) (x6 x7:Int) (x8 x9:Int) (x10 x11:Int):DT qGz:=
 .bi (qfx) (fun y0=>
 .bi (qhW x4 x5 x6 x7 x8 x9 x10) (fun y1=>
 .bi (qob x0 x1 x2 x3 y0 y1) (fun y2=>
 .bi (qjQ) (fun y3=>
 .bi (qhW x4 x5 x6 x7 x8 x9 x10) (fun y4=>
 .bi (qok x0 x1 x2 x3 y3 y4) (fun y5=>
 .bi (br (if true = true then !(y2.1 == y5.1 && (y2.2.1 == y5.2.1 && true)) else y2.1 == y5.1 && (y2.2.1 == y5.2.1 && true)) (some true)
 (some (y2.2.2 != y5.2.2))) (fun y6=>
 .br (y6)
 (.at (false))
 (.bi (br (y2.2.2 == 0) (some (y2.1 == x11)) (some false)) (fun y7=>
 .bi (br y7 (some true) (some (y2.2.2 == 7))) (fun y8=>
 .bi (br y8 (some true) (some (y2.2.2 == 6))) (fun y9=>
 .at (y9))
 (.no))
 (.no))
 (.no)))
 (.no))
 (.no))
 (.no))
 (.no))
 (.no))
 (.no))
 (.no)
def qhY (x0 x1:Int) (x2:List UInt8) (x3:List AV) (x4 x5:Int) (x6 x7:Int) (x8 x9:Int) (x10 x11:Int):Option qGz:=qay (qmm x0 x1 x2 x3 x4 x5 x6 x7 x8 x9 x10 x11).ev
theorem qDJ (x0 x1 x2 x3 x4 x5 x6 x7 x8 x9 x10 x11):qhY x0 x1 x2 x3 x4 x5 x6 x7 x8 x9 x10 x11 = (qmm x0 x1 x2 x3 x4 x5 x6 x7 x8 x9 x10 x11).ev:=qaa _
theorem qYu:FH IP 24 qMH qOn (k12 qhY):=fh F24 (k12 qmm) qIl
def zaV:Tab:=(24,FE qMH qOn (k12 qhY)) :: zaU
theorem qtu:qai IP zaV:=⟨qaj qYu,qIl⟩
end
end Go.Proofs.H15p

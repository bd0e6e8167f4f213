/- Functions over plain data. Printed by a program of mine. -/
import Derived.Test.YthljpgljbpdmjaaGreatDoorD15p_6
import Derived.KernelRfl
set_option linter.unusedVariables false
set_option linter.unusedSimpArgs false
set_option linter.unnecessarySimpa false
namespace Go.Proofs.H15p
open Go Go.Eng
set_option maxRecDepth 100000
noncomputable section
abbrev qF3:Type:=Int
def qMc:PArgs:=⟨[.int .i64,.view 2],[]⟩
def qNS:List PRes:=[⟨false,.int .i64,[]⟩]
def qhm (x0:Int) (x1:List AV):DT qF3:=
 .br (qaD [.int .i64,.int .i64] x1 0)
 (.br (x0 == 16)
 (.at (IntKind.i64.wrap (1 - intOf (cellAt x1 0 1))))
 (.br (x0 == 19)
 (.br (intOf (cellAt x1 0 1) == 1)
 (.br (qaD [.int .i64,.int .i64] x1 1) (.at (intOf (cellAt x1 1 1))) (.no))
 (.br (qaD [.int .i64,.int .i64] x1 2) (.at (intOf (cellAt x1 2 1))) (.no)))
 (.br (qaD [.int .i64,.int .i64] x1 1)
 (.br (x0 == 10)
 (.bi (qgm (intOf (cellAt x1 0 1) == intOf (cellAt x1 1 1))) (fun y0=>
 .at (y0))
 (.no))
 (.br (x0 == 11)
 (.bi (qgm (intOf (cellAt x1 0 1) != intOf (cellAt x1 1 1))) (fun y0=>
 .at (y0))
 (.no))
 (.br (x0 == 12)
 (.bi (qgm (decide (intOf (cellAt x1 0 1) < intOf (cellAt x1 1 1)))) (fun y0=>
 .at (y0))
 (.no))
 (.br (x0 == 13)
 (.bi (qgm (decide (intOf (cellAt x1 0 1) <= intOf (cellAt x1 1 1)))) (fun y0=>
 .at (y0))
 (.no))
 (.br (x0 == 14)
 (.at (IntKind.i64.wrap (intOf (cellAt x1 0 1) * intOf (cellAt x1 1 1))))
 (.br (x0 == 15)
 (.at (if intOf (cellAt x1 1 1) > intOf (cellAt x1 0 1) then intOf (cellAt x1 1 1) else intOf (cellAt x1 0 1)))
 (.br (x0 == 17)
 (.at (if intOf (cellAt x1 1 1) < intOf (cellAt x1 0 1) then intOf (cellAt x1 1 1) else intOf (cellAt x1 0 1)))
 (.at (if intOf (cellAt x1 1 1) > intOf (cellAt x1 0 1) then intOf (cellAt x1 1 1) else intOf (cellAt x1 0 1))))))))))
 (.no))))
 (.no)
def qdJ (x0:Int) (x1:List AV):Option qF3:=qay (qhm x0 x1).ev
theorem qjI (x0 x1):qdJ x0 x1 = (qhm x0 x1).ev:=qaa _
theorem qXV:FH IP 91 qMc qNS (k2 qdJ):=fh F91 (k2 qhm) qU3
def T93:Tab:=(91,FE qMc qNS (k2 qdJ)) :: T92
theorem qU4:qai IP T93:=⟨qaj qXV,qU3⟩
abbrev qHf:Type:=Int × Int
def qNo:PArgs:=⟨[.int .i64],[]⟩
def qO5:List PRes:=[⟨false,.agg [.int .i64,.int .u64],[]⟩]
def qm2 (x0:Int):DT qHf:=
 .at ((x0.fdiv (2 ^ 63),IntKind.u64.wrap x0))
def qcn (x0:Int):Option qHf:=qay (qm2 x0).ev
theorem qEp (x0):qcn x0 = (qm2 x0).ev:=qaa _
theorem qZk:FH IP 117 qNo qO5 qcn:=fh q5R qm2 qU4
def T94:Tab:=(117,FE qNo qO5 qcn) :: T93
theorem qU5:qai IP T94:=⟨qaj qZk,qU4⟩
abbrev qG4:Type:=Int × Int × Int
def qNd:PArgs:=⟨[.agg [.int .i64,.int .u64],.agg [.int .i64,.int .u64]],[]⟩
def qOU:List PRes:=[⟨false,.tup [.agg [.int .i64,.int .u64],.int .i64],[]⟩]
def qmR (x0 x1:Int) (x2 x3:Int):DT qG4:=
 .br (qeU x1 && qeU x3 && decide (0 <= 1))
 (.bi (br (if true = true then !decide (x0 < 0) == decide (x2 < 0) else decide (x0 < 0) == decide (x2 < 0))
 (some
 (if true = true then !decide (IntKind.i64.wrap (IntKind.i64.wrap (x0 - x2) - IntKind.i64.wrap (if x1 < x3 + 0 then 1 else 0)) < 0) == decide (x0 < 0)
 else decide (IntKind.i64.wrap (IntKind.i64.wrap (x0 - x2) - IntKind.i64.wrap (if x1 < x3 + 0 then 1 else 0)) < 0) == decide (x0 < 0)))
 (some false)) (fun y0=>
 .br (y0)
 (.at ((0,0,6)))
 (.at ((IntKind.i64.wrap (IntKind.i64.wrap (x0 - x2) - IntKind.i64.wrap (if x1 < x3 + 0 then 1 else 0)),(x1 - x3 - 0) % 18446744073709551616,0))))
 (.no))
 (.no)
def qjS (x0 x1:Int) (x2 x3:Int):Option qG4:=qay (qmR x0 x1 x2 x3).ev
theorem qEe (x0 x1 x2 x3):qjS x0 x1 x2 x3 = (qmR x0 x1 x2 x3).ev:=qaa _
theorem qY9:FH IP 116 qNd qOU (k4 qjS):=fh q5Q (k4 qmR) qU5
def T95:Tab:=(116,FE qNd qOU (k4 qjS)) :: T94
theorem qU6:qai IP T95:=⟨qaj qY9,qU5⟩
abbrev qG2:Type:=Int × Bool
def qNb:PArgs:=⟨[.agg [.int .i64,.int .u64]],[]⟩
def qOS:List PRes:=[⟨false,.tup [.int .i64,.bool],[]⟩]
def qmP (x0 x1:Int):DT qG2:=
 .bi (qcn (IntKind.i64.wrap x1)) (fun y0=>
 .br (if true = true then !(y0.1 == x0 && (y0.2 == x1 && true)) else y0.1 == x0 && (y0.2 == x1 && true)) (.at ((0,false))) (.at ((IntKind.i64.wrap x1,true))))
 (.no)
def qh3 (x0 x1:Int):Option qG2:=qay (qmP x0 x1).ev
theorem qEc (x0 x1):qh3 x0 x1 = (qmP x0 x1).ev:=qaa _
theorem qY7:FH IP 136 qNb qOS (k2 qh3):=fh q55 (k2 qmP) qU6
def T96:Tab:=(136,FE qNb qOS (k2 qh3)) :: T95
theorem qU7:qai IP T96:=⟨qaj qY7,qU6⟩
abbrev qF4:Type:=Int × Int
def qMd:PArgs:=⟨[.agg [.int .i64,.int .u64],.int .i64],[]⟩
def qNT:List PRes:=[⟨false,.tup [.int .i64,.int .i64],[]⟩]
def qlT (x0 x1 x2:Int):DT qF4:=
 .bi (qh3 x0 x1) (fun y0=>
 .bi (br (x2 != 0) (some true) (some !y0.2)) (fun y1=>
 .br (y1) (.at ((0,6))) (.at ((y0.1,0))))
 (.no))
 (.no)
def qfA (x0 x1 x2:Int):Option qF4:=qay (qlT x0 x1 x2).ev
theorem qDi (x0 x1 x2):qfA x0 x1 x2 = (qlT x0 x1 x2).ev:=qaa _
theorem qXW:FH IP 115 qMd qNT (k3 qfA):=fh q5P (k3 qlT) qU7
def T97:Tab:=(115,FE qMd qNT (k3 qfA)) :: T96
theorem qU8:qai IP T97:=⟨qaj qXW,qU7⟩
abbrev qG0:Type:=Int × Int × Int
def qM9:PArgs:=⟨[.agg [.int .i64,.int .u64],.agg [.int .i64,.int .u64]],[]⟩
def qOQ:List PRes:=[⟨false,.tup [.agg [.int .i64,.int .u64],.int .i64],[]⟩]
def qmN (x0 x1:Int) (x2 x3:Int):DT qG0:=
 .br (qeU x1 && qeU x3 && decide (0 <= 1))
 (.bi (br (if false = true then !decide (x0 < 0) == decide (x2 < 0) else decide (x0 < 0) == decide (x2 < 0))
 (some
 (if true = true then !decide (IntKind.i64.wrap (IntKind.i64.wrap (x0 + x2) + IntKind.i64.wrap ((x1 + x3 + 0) / 18446744073709551616)) < 0) == decide (x0 < 0)
 else decide (IntKind.i64.wrap (IntKind.i64.wrap (x0 + x2) + IntKind.i64.wrap ((x1 + x3 + 0) / 18446744073709551616)) < 0) == decide (x0 < 0)))
 (some false)) (fun y0=>
 .br (y0)
 (.at ((0,0,6)))
 (.at ((IntKind.i64.wrap (IntKind.i64.wrap (x0 + x2) + IntKind.i64.wrap ((x1 + x3 + 0) / 18446744073709551616)),(x1 + x3 + 0) % 18446744073709551616,0))))
 (.no))
 (.no)
def qjR (x0 x1:Int) (x2 x3:Int):Option qG0:=qay (qmN x0 x1 x2 x3).ev
theorem qEa (x0 x1 x2 x3):qjR x0 x1 x2 x3 = (qmN x0 x1 x2 x3).ev:=qaa _
theorem qY5:FH IP 118 qM9 qOQ (k4 qjR):=fh q5S (k4 qmN) qU8
def T98:Tab:=(118,FE qM9 qOQ (k4 qjR)) :: T97
theorem qU9:qai IP T98:=⟨qaj qY5,qU8⟩
abbrev qG5:Type:=Int
def qNe:PArgs:=⟨[.int .i64],[]⟩
def qOV:List PRes:=[⟨false,.int .u64,[]⟩]
def qmS (x0:Int):DT qG5:=
 .br (decide (x0 < 0)) (.at (IntKind.u64.wrap (0 - IntKind.u64.wrap x0))) (.at (IntKind.u64.wrap x0))
def qjT (x0:Int):Option qG5:=qay (qmS x0).ev
theorem qEf (x0):qjT x0 = (qmS x0).ev:=qaa _
theorem qZa:FH IP 155 qNe qOV qjT:=fh q6i qmS qU9
def T99:Tab:=(155,FE qNe qOV qjT) :: T98
theorem qVa:qai IP T99:=⟨qaj qZa,qU9⟩
abbrev qGd:Type:=Int × Int
def qMl:PArgs:=⟨[.agg [.int .i64,.int .u64]],[]⟩
def qN1:List PRes:=[⟨false,.agg [.int .i64,.int .u64],[]⟩]
def ql3 (x0 x1:Int):DT qGd:=
 .br (qeU (IntKind.u64.wrap (-1 - x1)) && qeU 1 && decide (0 <= 1))
 (.at ((IntKind.i64.wrap (IntKind.u64.wrap (IntKind.u64.wrap (IntKind.i64.wrap (-1 - x0)) + (IntKind.u64.wrap (-1 - x1) + 1 + 0) / 18446744073709551616)),(IntKind.u64.wrap (-1 - x1) + 1 + 0) % 18446744073709551616)))
 (.no)
def qhU (x0 x1:Int):Option qGd:=qay (ql3 x0 x1).ev
theorem qDq (x0 x1):qhU x0 x1 = (ql3 x0 x1).ev:=qaa _
theorem qX5:FH IP 156 qMl qN1 (k2 qhU):=fh q6j (k2 ql3) qVa
def q9V:Tab:=(156,FE qMl qN1 (k2 qhU)) :: T99
theorem qHp:qai IP q9V:=⟨qaj qX5,qVa⟩
abbrev qG3:Type:=Int × Int
def qNc:PArgs:=⟨[.int .i64,.int .i64],[]⟩
def qOT:List PRes:=[⟨false,.agg [.int .i64,.int .u64],[]⟩]
def qmQ (x0 x1:Int):DT qG3:=
 .bi (qjT x0) (fun y0=>
 .bi (qjT x1) (fun y1=>
 .br (qeU y0 && qeU y1)
 (.br (if true = true then !decide (x0 < 0) == decide (x1 < 0) else decide (x0 < 0) == decide (x1 < 0))
 (.bi (qhU (IntKind.i64.wrap (y0 * y1 / 18446744073709551616)) (y0 * y1 % 18446744073709551616)) (fun y2=>
 .at ((y2.1,y2.2)))
 (.no))
 (.at ((IntKind.i64.wrap (y0 * y1 / 18446744073709551616),y0 * y1 % 18446744073709551616))))
 (.no))
 (.no))
 (.no)
def qoo (x0 x1:Int):Option qG3:=qay (qmQ x0 x1).ev
theorem qEd (x0 x1):qoo x0 x1 = (qmQ x0 x1).ev:=qaa _
theorem qY8:FH IP 139 qNc qOT (k2 qoo):=fh q56 (k2 qmQ) qHp
def q9W:Tab:=(139,FE qNc qOT (k2 qoo)) :: q9V
theorem qHq:qai IP q9W:=⟨qaj qY8,qHp⟩
abbrev qTS:Type:=Bool
def qV7:PArgs:=⟨[.int .i64],[]⟩
def qWT:List PRes:=[⟨false,.bool,[]⟩]
def qva (x0:Int):DT qTS:=
 .bi (br (decide (x0 >= 1)) (some (decide (x0 <= 6))) (some false)) (fun y0=>
 .at (y0))
 (.no)
def qrS (x0:Int):Option qTS:=qay (qva x0).ev
theorem qJy (x0):qrS x0 = (qva x0).ev:=qaa _
theorem q2A:FH IP 157 qV7 qWT qrS:=fh q6k qva qHq
def q9X:Tab:=(157,FE qV7 qWT qrS) :: q9W
theorem qHr:qai IP q9X:=⟨qaj q2A,qHq⟩
abbrev qT7:Type:=Int × Int
def qWn:PArgs:=⟨[.agg [.int .i64,.int .u64]],[]⟩
def qW9:List PRes:=[⟨false,.agg [.int .u64,.int .u64],[]⟩]
def qvq (x0 x1:Int):DT qT7:=
 .br (decide (x0 < 0))
 (.bi (qhU x0 x1) (fun y0=>
 .at ((IntKind.u64.wrap y0.1,y0.2)))
 (.no))
 (.at ((IntKind.u64.wrap x0,x1)))
def qwm (x0 x1:Int):Option qT7:=qay (qvq x0 x1).ev
theorem qJP (x0 x1):qwm x0 x1 = (qvq x0 x1).ev:=qaa _
theorem q2R:FH IP 177 qWn qW9 (k2 qwm):=fh q6y (k2 qvq) qHr
def q9Y:Tab:=(177,FE qWn qW9 (k2 qwm)) :: q9X
theorem qtr:qai IP q9Y:=⟨qaj q2R,qHr⟩
abbrev qe4:Type:=Int × Int × Int × Int × Int × Int × Int × Int × Int
def qKe:List PSt:=[⟨[(1019000,.junk),(2,.int .u64),(8,.int .u64),(9,.int .u64),(10,.int .u64),(11,.int .u64),(13,.int .u64),(14,.int .u64),(15,.int .u64),(16,.int .u64)],[],0,0⟩]
def qSx (x0 x1:Int) (x2 x3:Int) (x4 x5:Int) (x6 x7 x8:Int):X × St:=(.exit 0,
 ⟨[(2,.int .u64 x0),(8,.int .u64 x1),(9,.int .u64 x2),(10,.int .u64 x3),(11,.int .u64 x4),(13,.int .u64 x5),
 (14,.int .u64 x6),(15,.int .u64 (IntKind.u64.wrap (x7 - 1)))],[],0,0⟩)
def qSy (x0 x1:Int) (x2 x3:Int) (x4 x5:Int) (x6 x7 x8:Int):X × St:=(.exit 0,
 ⟨[(2,.int .u64 x0),(8,.int .u64 x1),(9,.int .u64 x2),(10,.int .u64 x3),(11,.int .u64 x4),(13,.int .u64 x5),
 (14,.int .u64 x6),(15,.int .u64 x7)],[],0,0⟩)
def q4N:List (qe4 -> X × St):=[(k9 qSx),(k9 qSy)]
def qxU (x0 x1:Int) (x2 x3:Int) (x4 x5:Int) (x6 x7 x8:Int):DT (Rd qe4):=
 .bi (br (decide (x7 >= 4294967296)) (some true) (some (decide (IntKind.u64.wrap (x7 * x3) > IntKind.u64.wrap (IntKind.u64.wrap (4294967296 * x8) + x5))))) (fun y0=>
 .br (y0)
 (.br (decide (IntKind.u64.wrap (x8 + x2) >= 4294967296)) (.at (.done 0)) (.at (.next ((x0,x1,x2,x3,x4,x5,x6,IntKind.u64.wrap (x7 - 1),IntKind.u64.wrap (x8 + x2))))))
 (.at (.done 1)))
 (.no)
def qux:qe4 -> DT (Rd qe4):=(fun v=>qxU v.1 v.2.1 v.2.2.1 v.2.2.2.1 v.2.2.2.2.1 v.2.2.2.2.2.1 v.2.2.2.2.2.2.1 v.2.2.2.2.2.2.2.1 v.2.2.2.2.2.2.2.2)
def qwI (v:qe4):Option (Nat × qe4):=qay (qap (fun v=>(qux v).ev) v)
theorem qwJ (v):qwI v = qap (fun v=>(qux v).ev) v:=qaa _
def qKY:qbz:=LE (τ:=qe4) (hD qKe) (qwI) q4N
theorem q39:Go.Eng.Told IP (qae qQS 0).1 (qae qQS 0).2 (qKY):=lp (inferInstance:Inhabited qe4) (hs:=qKe) qux qtr qwJ
abbrev qe5:Type:=Int × Int × Int × Int × Int × Int × Int × Int × Int
def qKf:List PSt:=[⟨[(1019001,.junk),(2,.int .u64),(8,.int .u64),(9,.int .u64),(10,.int .u64),(14,.int .u64),(15,.int .u64),(16,.int .u64),(17,.int .u64),(18,.int .u64)],[],0,0⟩]
def qSz (x0 x1:Int) (x2 x3:Int) (x4 x5:Int) (x6 x7 x8:Int):X × St:=(.exit 2,
 ⟨[(2,.int .u64 x0),(8,.int .u64 x1),(14,.int .u64 x4),(15,.int .u64 x5),(17,.int .u64 x7),
 (18,.int .u64 (IntKind.u64.wrap (x8 - 1)))],[],0,0⟩)
def qSA (x0 x1:Int) (x2 x3:Int) (x4 x5:Int) (x6 x7 x8:Int):X × St:=(.exit 2,
 ⟨[(2,.int .u64 x0),(8,.int .u64 x1),(14,.int .u64 x4),(15,.int .u64 x5),(17,.int .u64 x7),(18,.int .u64 x8)],[],0,0⟩)
def q4O:List (qe5 -> X × St):=[(k9 qSz),(k9 qSA)]
def qxV (x0 x1:Int) (x2 x3:Int) (x4 x5:Int) (x6 x7 x8:Int):DT (Rd qe5):=
 .bi (br (decide (x8 >= 4294967296)) (some true) (some (decide (IntKind.u64.wrap (x8 * x3) > IntKind.u64.wrap (IntKind.u64.wrap (4294967296 * x6) + x4))))) (fun y0=>
 .br (y0)
 (.br (decide (IntKind.u64.wrap (x6 + x2) >= 4294967296)) (.at (.done 0)) (.at (.next ((x0,x1,x2,x3,x4,x5,IntKind.u64.wrap (x6 + x2),x7,IntKind.u64.wrap (x8 - 1))))))
 (.at (.done 1)))
 (.no)
def quy:qe5 -> DT (Rd qe5):=(fun v=>qxV v.1 v.2.1 v.2.2.1 v.2.2.2.1 v.2.2.2.2.1 v.2.2.2.2.2.1 v.2.2.2.2.2.2.1 v.2.2.2.2.2.2.2.1 v.2.2.2.2.2.2.2.2)
def qo5 (v:qe5):Option (Nat × qe5):=qay (qap (fun v=>(quy v).ev) v)
theorem qwK (v):qo5 v = qap (fun v=>(quy v).ev) v:=qaa _
def qKZ:qbz:=LE (τ:=qe5) (hD qKf) (qo5) q4O
theorem q4a:Go.Eng.Told IP (qae qQS 1).1 (qae qQS 1).2 (qKZ):=lp (inferInstance:Inhabited qe5) (hs:=qKf) quy qtr qwK
abbrev qTL:Type:=Int × Int
def qV0:PArgs:=⟨[.int .u64,.int .u64,.int .u64],[]⟩
def qWM:List PRes:=[⟨false,.tup [.int .u64,.int .u64],[]⟩]
def qqY (x0 x1 x2:Int):DT qTL:=
 .br (x2 == 0)
 (.no)
 (.br (decide (x2 <= x0))
 (.no)
 (.br (x0 == 0)
 (.br (decide (x2 ≠ 0))
 (.br (decide (x2 ≠ 0)) (.at ((IntKind.u64.wrap (x1.tdiv x2),x1.tmod x2))) (.no))
 (.no))
 (.br (qeU x2)
 (.br (decide (0 <= IntKind.u64.wrap (64 - ((Lib.bitLen x2.toNat):Int))))
 (.br (decide (0 <= IntKind.u64.wrap (64 - ((Lib.bitLen x2.toNat):Int))))
 (.br (decide (0 <= IntKind.u64.wrap (64 - IntKind.u64.wrap (64 - ((Lib.bitLen x2.toNat):Int)))))
 (.br (decide (0 <= IntKind.u64.wrap (64 - ((Lib.bitLen x2.toNat):Int))))
 (.br (decide ((IntKind.u64.wrap (x2 * 2 ^ min (IntKind.u64.wrap (64 - ((Lib.bitLen x2.toNat):Int))).toNat 64)).fdiv (2 ^ 32) ≠ 0))
 (.bi (pj 0
 (qwI
 (IntKind.u64.wrap (x2 * 2 ^ min (IntKind.u64.wrap (64 - ((Lib.bitLen x2.toNat):Int))).toNat 64),IntKind.u64.wrap (64 - ((Lib.bitLen x2.toNat):Int)),
 (IntKind.u64.wrap (x2 * 2 ^ min (IntKind.u64.wrap (64 - ((Lib.bitLen x2.toNat):Int))).toNat 64)).fdiv (2 ^ 32),
 IntKind.u64.wrap
 ((BitVec.ofInt 64 (IntKind.u64.wrap (x2 * 2 ^ min (IntKind.u64.wrap (64 - ((Lib.bitLen x2.toNat):Int))).toNat 64)) &&& BitVec.ofInt 64 4294967295).toNat:Int),
 IntKind.u64.wrap
 ((BitVec.ofInt 64 (IntKind.u64.wrap (x0 * 2 ^ min (IntKind.u64.wrap (64 - ((Lib.bitLen x2.toNat):Int))).toNat 64)) |||
 BitVec.ofInt 64 (x1.fdiv (2 ^ min (IntKind.u64.wrap (64 - IntKind.u64.wrap (64 - ((Lib.bitLen x2.toNat):Int)))).toNat 64))).toNat :
 Int),
 (IntKind.u64.wrap (x1 * 2 ^ min (IntKind.u64.wrap (64 - ((Lib.bitLen x2.toNat):Int))).toNat 64)).fdiv (2 ^ 32),
 IntKind.u64.wrap
 ((BitVec.ofInt 64 (IntKind.u64.wrap (x1 * 2 ^ min (IntKind.u64.wrap (64 - ((Lib.bitLen x2.toNat):Int))).toNat 64)) &&& BitVec.ofInt 64 4294967295).toNat:Int),
 IntKind.u64.wrap
 ((IntKind.u64.wrap
 ((BitVec.ofInt 64 (IntKind.u64.wrap (x0 * 2 ^ min (IntKind.u64.wrap (64 - ((Lib.bitLen x2.toNat):Int))).toNat 64)) |||
 BitVec.ofInt 64 (x1.fdiv (2 ^ min (IntKind.u64.wrap (64 - IntKind.u64.wrap (64 - ((Lib.bitLen x2.toNat):Int)))).toNat 64))).toNat :
 Int)).tdiv
 ((IntKind.u64.wrap (x2 * 2 ^ min (IntKind.u64.wrap (64 - ((Lib.bitLen x2.toNat):Int))).toNat 64)).fdiv (2 ^ 32))),
 IntKind.u64.wrap
 (IntKind.u64.wrap
 ((BitVec.ofInt 64 (IntKind.u64.wrap (x0 * 2 ^ min (IntKind.u64.wrap (64 - ((Lib.bitLen x2.toNat):Int))).toNat 64)) |||
 BitVec.ofInt 64 (x1.fdiv (2 ^ min (IntKind.u64.wrap (64 - IntKind.u64.wrap (64 - ((Lib.bitLen x2.toNat):Int)))).toNat 64))).toNat :
 Int) -
 IntKind.u64.wrap
 (IntKind.u64.wrap
 ((IntKind.u64.wrap
 ((BitVec.ofInt 64 (IntKind.u64.wrap (x0 * 2 ^ min (IntKind.u64.wrap (64 - ((Lib.bitLen x2.toNat):Int))).toNat 64)) |||
 BitVec.ofInt 64 (x1.fdiv (2 ^ min (IntKind.u64.wrap (64 - IntKind.u64.wrap (64 - ((Lib.bitLen x2.toNat):Int)))).toNat 64))).toNat :
 Int)).tdiv
 ((IntKind.u64.wrap (x2 * 2 ^ min (IntKind.u64.wrap (64 - ((Lib.bitLen x2.toNat):Int))).toNat 64)).fdiv (2 ^ 32))) *
 (IntKind.u64.wrap (x2 * 2 ^ min (IntKind.u64.wrap (64 - ((Lib.bitLen x2.toNat):Int))).toNat 64)).fdiv (2 ^ 32)))))) (fun y0=>
 .br (decide (y0.2.2.1 ≠ 0))
 (.bi (pj 0
 (qo5
 (y0.1,y0.2.1,y0.2.2.1,y0.2.2.2.1,y0.2.2.2.2.2.2.1,IntKind.u64.wrap (y0.2.2.2.2.2.2.2.1 - 1),
 IntKind.u64.wrap
 (IntKind.u64.wrap
 (IntKind.u64.wrap (IntKind.u64.wrap (y0.2.2.2.2.1 * 4294967296) + y0.2.2.2.2.2.1) -
 IntKind.u64.wrap (IntKind.u64.wrap (y0.2.2.2.2.2.2.2.1 - 1) * y0.1)) -
 IntKind.u64.wrap
 (IntKind.u64.wrap
 ((IntKind.u64.wrap
 (IntKind.u64.wrap (IntKind.u64.wrap (y0.2.2.2.2.1 * 4294967296) + y0.2.2.2.2.2.1) -
 IntKind.u64.wrap (IntKind.u64.wrap (y0.2.2.2.2.2.2.2.1 - 1) * y0.1))).tdiv
 y0.2.2.1) *
 y0.2.2.1)),
 IntKind.u64.wrap
 (IntKind.u64.wrap (IntKind.u64.wrap (y0.2.2.2.2.1 * 4294967296) + y0.2.2.2.2.2.1) -
 IntKind.u64.wrap (IntKind.u64.wrap (y0.2.2.2.2.2.2.2.1 - 1) * y0.1)),
 IntKind.u64.wrap
 ((IntKind.u64.wrap
 (IntKind.u64.wrap (IntKind.u64.wrap (y0.2.2.2.2.1 * 4294967296) + y0.2.2.2.2.2.1) -
 IntKind.u64.wrap (IntKind.u64.wrap (y0.2.2.2.2.2.2.2.1 - 1) * y0.1))).tdiv
 y0.2.2.1)))) (fun y1=>
 .br (decide (0 <= y1.2.1))
 (.at ((IntKind.u64.wrap (IntKind.u64.wrap (y1.2.2.2.2.2.1 * 4294967296) + IntKind.u64.wrap (y1.2.2.2.2.2.2.2.2 - 1)),(IntKind.u64.wrap
 (IntKind.u64.wrap (IntKind.u64.wrap (y1.2.2.2.2.2.2.2.1 * 4294967296) + y1.2.2.2.2.1) -
 IntKind.u64.wrap (IntKind.u64.wrap (y1.2.2.2.2.2.2.2.2 - 1) * y1.1))).fdiv
 (2 ^ min y1.2.1.toNat 64))))
 (.no))
 (.bi (pj 1
 (qo5
 (y0.1,y0.2.1,y0.2.2.1,y0.2.2.2.1,y0.2.2.2.2.2.2.1,IntKind.u64.wrap (y0.2.2.2.2.2.2.2.1 - 1),
 IntKind.u64.wrap
 (IntKind.u64.wrap
 (IntKind.u64.wrap (IntKind.u64.wrap (y0.2.2.2.2.1 * 4294967296) + y0.2.2.2.2.2.1) -
 IntKind.u64.wrap (IntKind.u64.wrap (y0.2.2.2.2.2.2.2.1 - 1) * y0.1)) -
 IntKind.u64.wrap
 (IntKind.u64.wrap
 ((IntKind.u64.wrap
 (IntKind.u64.wrap (IntKind.u64.wrap (y0.2.2.2.2.1 * 4294967296) + y0.2.2.2.2.2.1) -
 IntKind.u64.wrap (IntKind.u64.wrap (y0.2.2.2.2.2.2.2.1 - 1) * y0.1))).tdiv
 y0.2.2.1) *
 y0.2.2.1)),
 IntKind.u64.wrap
 (IntKind.u64.wrap (IntKind.u64.wrap (y0.2.2.2.2.1 * 4294967296) + y0.2.2.2.2.2.1) -
 IntKind.u64.wrap (IntKind.u64.wrap (y0.2.2.2.2.2.2.2.1 - 1) * y0.1)),
 IntKind.u64.wrap
 ((IntKind.u64.wrap
 (IntKind.u64.wrap (IntKind.u64.wrap (y0.2.2.2.2.1 * 4294967296) + y0.2.2.2.2.2.1) -
 IntKind.u64.wrap (IntKind.u64.wrap (y0.2.2.2.2.2.2.2.1 - 1) * y0.1))).tdiv
 y0.2.2.1)))) (fun y1=>
 .br (decide (0 <= y1.2.1))
 (.at ((IntKind.u64.wrap (IntKind.u64.wrap (y1.2.2.2.2.2.1 * 4294967296) + y1.2.2.2.2.2.2.2.2),(IntKind.u64.wrap
 (IntKind.u64.wrap (IntKind.u64.wrap (y1.2.2.2.2.2.2.2.1 * 4294967296) + y1.2.2.2.2.1) -
 IntKind.u64.wrap (y1.2.2.2.2.2.2.2.2 * y1.1))).fdiv
 (2 ^ min y1.2.1.toNat 64))))
 (.no))
 (.no)))
 (.no))
 (.bi (pj 1
 (qwI
 (IntKind.u64.wrap (x2 * 2 ^ min (IntKind.u64.wrap (64 - ((Lib.bitLen x2.toNat):Int))).toNat 64),IntKind.u64.wrap (64 - ((Lib.bitLen x2.toNat):Int)),
 (IntKind.u64.wrap (x2 * 2 ^ min (IntKind.u64.wrap (64 - ((Lib.bitLen x2.toNat):Int))).toNat 64)).fdiv (2 ^ 32),
 IntKind.u64.wrap
 ((BitVec.ofInt 64 (IntKind.u64.wrap (x2 * 2 ^ min (IntKind.u64.wrap (64 - ((Lib.bitLen x2.toNat):Int))).toNat 64)) &&& BitVec.ofInt 64 4294967295).toNat:Int),
 IntKind.u64.wrap
 ((BitVec.ofInt 64 (IntKind.u64.wrap (x0 * 2 ^ min (IntKind.u64.wrap (64 - ((Lib.bitLen x2.toNat):Int))).toNat 64)) |||
 BitVec.ofInt 64 (x1.fdiv (2 ^ min (IntKind.u64.wrap (64 - IntKind.u64.wrap (64 - ((Lib.bitLen x2.toNat):Int)))).toNat 64))).toNat :
 Int),
 (IntKind.u64.wrap (x1 * 2 ^ min (IntKind.u64.wrap (64 - ((Lib.bitLen x2.toNat):Int))).toNat 64)).fdiv (2 ^ 32),
 IntKind.u64.wrap
 ((BitVec.ofInt 64 (IntKind.u64.wrap (x1 * 2 ^ min (IntKind.u64.wrap (64 - ((Lib.bitLen x2.toNat):Int))).toNat 64)) &&& BitVec.ofInt 64 4294967295).toNat:Int),
 IntKind.u64.wrap
 ((IntKind.u64.wrap
 ((BitVec.ofInt 64 (IntKind.u64.wrap (x0 * 2 ^ min (IntKind.u64.wrap (64 - ((Lib.bitLen x2.toNat):Int))).toNat 64)) |||
 BitVec.ofInt 64 (x1.fdiv (2 ^ min (IntKind.u64.wrap (64 - IntKind.u64.wrap (64 - ((Lib.bitLen x2.toNat):Int)))).toNat 64))).toNat :
 Int)).tdiv
 ((IntKind.u64.wrap (x2 * 2 ^ min (IntKind.u64.wrap (64 - ((Lib.bitLen x2.toNat):Int))).toNat 64)).fdiv (2 ^ 32))),
 IntKind.u64.wrap
 (IntKind.u64.wrap
 ((BitVec.ofInt 64 (IntKind.u64.wrap (x0 * 2 ^ min (IntKind.u64.wrap (64 - ((Lib.bitLen x2.toNat):Int))).toNat 64)) |||
 BitVec.ofInt 64 (x1.fdiv (2 ^ min (IntKind.u64.wrap (64 - IntKind.u64.wrap (64 - ((Lib.bitLen x2.toNat):Int)))).toNat 64))).toNat :
 Int) -
 IntKind.u64.wrap
 (IntKind.u64.wrap
 ((IntKind.u64.wrap
 ((BitVec.ofInt 64 (IntKind.u64.wrap (x0 * 2 ^ min (IntKind.u64.wrap (64 - ((Lib.bitLen x2.toNat):Int))).toNat 64)) |||
 BitVec.ofInt 64 (x1.fdiv (2 ^ min (IntKind.u64.wrap (64 - IntKind.u64.wrap (64 - ((Lib.bitLen x2.toNat):Int)))).toNat 64))).toNat :
 Int)).tdiv
 ((IntKind.u64.wrap (x2 * 2 ^ min (IntKind.u64.wrap (64 - ((Lib.bitLen x2.toNat):Int))).toNat 64)).fdiv (2 ^ 32))) *
 (IntKind.u64.wrap (x2 * 2 ^ min (IntKind.u64.wrap (64 - ((Lib.bitLen x2.toNat):Int))).toNat 64)).fdiv (2 ^ 32)))))) (fun y0=>
 .br (decide (y0.2.2.1 ≠ 0))
 (.bi (pj 0
 (qo5
 (y0.1,y0.2.1,y0.2.2.1,y0.2.2.2.1,y0.2.2.2.2.2.2.1,y0.2.2.2.2.2.2.2.1,
 IntKind.u64.wrap
 (IntKind.u64.wrap
 (IntKind.u64.wrap (IntKind.u64.wrap (y0.2.2.2.2.1 * 4294967296) + y0.2.2.2.2.2.1) -
 IntKind.u64.wrap (y0.2.2.2.2.2.2.2.1 * y0.1)) -
 IntKind.u64.wrap
 (IntKind.u64.wrap
 ((IntKind.u64.wrap
 (IntKind.u64.wrap (IntKind.u64.wrap (y0.2.2.2.2.1 * 4294967296) + y0.2.2.2.2.2.1) -
 IntKind.u64.wrap (y0.2.2.2.2.2.2.2.1 * y0.1))).tdiv
 y0.2.2.1) *
 y0.2.2.1)),
 IntKind.u64.wrap
 (IntKind.u64.wrap (IntKind.u64.wrap (y0.2.2.2.2.1 * 4294967296) + y0.2.2.2.2.2.1) - IntKind.u64.wrap (y0.2.2.2.2.2.2.2.1 * y0.1)),
 IntKind.u64.wrap
 ((IntKind.u64.wrap
 (IntKind.u64.wrap (IntKind.u64.wrap (y0.2.2.2.2.1 * 4294967296) + y0.2.2.2.2.2.1) -
 IntKind.u64.wrap (y0.2.2.2.2.2.2.2.1 * y0.1))).tdiv
 y0.2.2.1)))) (fun y1=>
 .br (decide (0 <= y1.2.1))
 (.at ((IntKind.u64.wrap (IntKind.u64.wrap (y1.2.2.2.2.2.1 * 4294967296) + IntKind.u64.wrap (y1.2.2.2.2.2.2.2.2 - 1)),(IntKind.u64.wrap
 (IntKind.u64.wrap (IntKind.u64.wrap (y1.2.2.2.2.2.2.2.1 * 4294967296) + y1.2.2.2.2.1) -
 IntKind.u64.wrap (IntKind.u64.wrap (y1.2.2.2.2.2.2.2.2 - 1) * y1.1))).fdiv
 (2 ^ min y1.2.1.toNat 64))))
 (.no))
 (.bi (pj 1
 (qo5
 (y0.1,y0.2.1,y0.2.2.1,y0.2.2.2.1,y0.2.2.2.2.2.2.1,y0.2.2.2.2.2.2.2.1,
 IntKind.u64.wrap
 (IntKind.u64.wrap
 (IntKind.u64.wrap (IntKind.u64.wrap (y0.2.2.2.2.1 * 4294967296) + y0.2.2.2.2.2.1) -
 IntKind.u64.wrap (y0.2.2.2.2.2.2.2.1 * y0.1)) -
 IntKind.u64.wrap
 (IntKind.u64.wrap
 ((IntKind.u64.wrap
 (IntKind.u64.wrap (IntKind.u64.wrap (y0.2.2.2.2.1 * 4294967296) + y0.2.2.2.2.2.1) -
 IntKind.u64.wrap (y0.2.2.2.2.2.2.2.1 * y0.1))).tdiv
 y0.2.2.1) *
 y0.2.2.1)),
 IntKind.u64.wrap
 (IntKind.u64.wrap (IntKind.u64.wrap (y0.2.2.2.2.1 * 4294967296) + y0.2.2.2.2.2.1) - IntKind.u64.wrap (y0.2.2.2.2.2.2.2.1 * y0.1)),
 IntKind.u64.wrap
 ((IntKind.u64.wrap
 (IntKind.u64.wrap (IntKind.u64.wrap (y0.2.2.2.2.1 * 4294967296) + y0.2.2.2.2.2.1) -
 IntKind.u64.wrap (y0.2.2.2.2.2.2.2.1 * y0.1))).tdiv
 y0.2.2.1)))) (fun y1=>
 .br (decide (0 <= y1.2.1))
 (.at ((IntKind.u64.wrap (IntKind.u64.wrap (y1.2.2.2.2.2.1 * 4294967296) + y1.2.2.2.2.2.2.2.2),(IntKind.u64.wrap
 (IntKind.u64.wrap (IntKind.u64.wrap (y1.2.2.2.2.2.2.2.1 * 4294967296) + y1.2.2.2.2.1) -
 IntKind.u64.wrap (y1.2.2.2.2.2.2.2.2 * y1.1))).fdiv
 (2 ^ min y1.2.1.toNat 64))))
 (.no))
 (.no)))
 (.no))
 (.no)))
 (.no))
 (.no))
 (.no))
 (.no))
 (.no))
 (.no))))
def qrQ (x0 x1 x2:Int):Option qTL:=qay (qqY x0 x1 x2).ev
theorem qwb (x0 x1 x2):qrQ x0 x1 x2 = (qqY x0 x1 x2).ev:=qaa _
theorem q2s:FH IP 190 qV0 qWM (k3 qrQ):=qag (F:=qQS) (L:=[(1019000,qKY),(1019001,qKZ)]) (t:=(k3 qqY)) qtr (qab (l:=[qae qQS 0,qae qQS 1]) (by kernel_rfl) ⟨qas (by kernel_rfl) q39,qas (by kernel_rfl) q4a,trivial⟩) (by kernel_rfl) (fun v=>by kernel_rfl) (fun _=>qaa _)
def q9Z:Tab:=(190,FE qV0 qWM (k3 qrQ)) :: q9Y
theorem qHs:qai IP q9Z:=⟨qaj q2s,qtr⟩
abbrev qTI:Type:=Int × Int × Int
def qVX:PArgs:=⟨[.agg [.int .u64,.int .u64],.int .u64],[]⟩
def qWJ:List PRes:=[⟨false,.tup [.agg [.int .u64,.int .u64],.int .u64],[]⟩]
def qu2 (x0 x1 x2:Int):DT qTI:=
 .br (decide (x2 ≠ 0))
 (.bi (qrQ (x0.tmod x2) x1 x2) (fun y0=>
 .br (decide (x2 ≠ 0)) (.at ((IntKind.u64.wrap (x0.tdiv x2),y0.1,y0.2))) (.no))
 (.no))
 (.no)
def qv9 (x0 x1 x2:Int):Option qTI:=qay (qu2 x0 x1 x2).ev
theorem qJp (x0 x1 x2):qv9 x0 x1 x2 = (qu2 x0 x1 x2).ev:=qaa _
theorem q2p:FH IP 178 qVX qWJ (k3 qv9):=fh q6z (k3 qu2) qHs
def q90:Tab:=(178,FE qVX qWJ (k3 qv9)) :: q9Z
theorem qHt:qai IP q90:=⟨qaj q2p,qHs⟩
abbrev qTO:Type:=Int × Int × Bool
def qV3:PArgs:=⟨[.agg [.int .u64,.int .u64],.int .u64,.int .u64],[]⟩
def qWP:List PRes:=[⟨false,.tup [.agg [.int .u64,.int .u64],.bool],[]⟩]
def qu7 (x0 x1:Int) (x2 x3:Int):DT qTO:=
 .br (qeU x1 && qeU x2)
 (.br (qeU x0 && qeU x2)
 (.br (qeU (x1 * x2 % 18446744073709551616) && qeU x3 && decide (0 <= 1))
 (.br (qeU (x0 * x2 % 18446744073709551616) && qeU (IntKind.u64.wrap (x1 * x2 / 18446744073709551616 + (x1 * x2 % 18446744073709551616 + x3 + 0) / 18446744073709551616)) &&
 decide (0 <= 1))
 (.bi (br (x0 * x2 / 18446744073709551616 == 0)
 (some
 ((x0 * x2 % 18446744073709551616 + IntKind.u64.wrap (x1 * x2 / 18446744073709551616 + (x1 * x2 % 18446744073709551616 + x3 + 0) / 18446744073709551616) + 0) /
 18446744073709551616 ==
 0))
 (some false)) (fun y0=>
 .at (((x0 * x2 % 18446744073709551616 + IntKind.u64.wrap (x1 * x2 / 18446744073709551616 + (x1 * x2 % 18446744073709551616 + x3 + 0) / 18446744073709551616) + 0) % 18446744073709551616,(x1 * x2 % 18446744073709551616 + x3 + 0) % 18446744073709551616,y0)))
 (.no))
 (.no))
 (.no))
 (.no))
 (.no)
def qwc (x0 x1:Int) (x2 x3:Int):Option qTO:=qay (qu7 x0 x1 x2 x3).ev
theorem qJu (x0 x1 x2 x3):qwc x0 x1 x2 x3 = (qu7 x0 x1 x2 x3).ev:=qaa _
theorem q2v:FH IP 179 qV3 qWP (k4 qwc):=fh q6A (k4 qu7) qHt
def q91:Tab:=(179,FE qV3 qWP (k4 qwc)) :: q90
theorem qHu:qai IP q91:=⟨qaj q2v,qHt⟩
abbrev qTJ:Type:=Int × Int × Int
def qVY:PArgs:=⟨[.agg [.int .u64,.int .u64],.bool],[]⟩
def qWK:List PRes:=[⟨false,.tup [.agg [.int .i64,.int .u64],.int .i64],[]⟩]
def qu3 (x0 x1:Int) (x2:Bool):DT qTJ:=
 .bi (br (decide (x0 > 9223372036854775808)) (some true) (br (x0 == 9223372036854775808) (br (!x2) (some true) (some (decide (x1 > 0)))) (some false))) (fun y0=>
 .br (y0)
 (.at ((0,0,6)))
 (.br (x2)
 (.bi (qhU (IntKind.i64.wrap x0) x1) (fun y1=>
 .at ((y1.1,y1.2,0)))
 (.no))
 (.at ((IntKind.i64.wrap x0,x1,0)))))
 (.no)
def qk3 (x0 x1:Int) (x2:Bool):Option qTJ:=qay (qu3 x0 x1 x2).ev
theorem qJq (x0 x1 x2):qk3 x0 x1 x2 = (qu3 x0 x1 x2).ev:=qaa _
theorem q2q:FH IP 180 qVY qWK (k3 qk3):=fh q6B (k3 qu3) qHu
def q92:Tab:=(180,FE qVY qWK (k3 qk3)) :: q91
theorem qHv:qai IP q92:=⟨qaj q2q,qHu⟩
abbrev qG1:Type:=Int × Int × Int × Int
def qNa:PArgs:=⟨[.agg [.int .i64,.int .u64],.int .i64],[]⟩
def qOR:List PRes:=[⟨false,.tup [.agg [.int .i64,.int .u64],.int .i64,.int .i64],[]⟩]
def qmO (x0 x1 x2:Int):DT qG1:=
 .br (decide (x2 < 1))
 (.at ((0,0,0,1)))
 (.bi (qwm x0 x1) (fun y0=>
 .bi (qv9 y0.1 y0.2 (IntKind.u64.wrap x2)) (fun y1=>
 .bi (br (decide (x0 < 0)) (some (decide (y1.2.2 > 0))) (some false)) (fun y2=>
 .br (y2)
 (.bi (qwc y1.1 y1.2.1 1 1) (fun y3=>
 .br (decide (x0 < 0))
 (.bi (qk3 y3.1 y3.2.1 (if true = true then !(y3.1 == 0 && (y3.2.1 == 0 && true)) else y3.1 == 0 && (y3.2.1 == 0 && true))) (fun y4=>
 .at ((y4.1,y4.2.1,IntKind.i64.wrap (IntKind.u64.wrap (IntKind.u64.wrap x2 - y1.2.2)),0)))
 (.no))
 (.bi (qk3 y3.1 y3.2.1 false) (fun y4=>
 .at ((y4.1,y4.2.1,IntKind.i64.wrap (IntKind.u64.wrap (IntKind.u64.wrap x2 - y1.2.2)),0)))
 (.no)))
 (.no))
 (.br (decide (x0 < 0))
 (.bi (qk3 y1.1 y1.2.1 (if true = true then !(y1.1 == 0 && (y1.2.1 == 0 && true)) else y1.1 == 0 && (y1.2.1 == 0 && true))) (fun y3=>
 .at ((y3.1,y3.2.1,IntKind.i64.wrap y1.2.2,0)))
 (.no))
 (.bi (qk3 y1.1 y1.2.1 false) (fun y3=>
 .at ((y3.1,y3.2.1,IntKind.i64.wrap y1.2.2,0)))
 (.no))))
 (.no))
 (.no))
 (.no))
def qon (x0 x1 x2:Int):Option qG1:=qay (qmO x0 x1 x2).ev
theorem qEb (x0 x1 x2):qon x0 x1 x2 = (qmO x0 x1 x2).ev:=qaa _
theorem qY6:FH IP 158 qNa qOR (k3 qon):=fh q6l (k3 qmO) qHv
def q93:Tab:=(158,FE qNa qOR (k3 qon)) :: q92
theorem qHw:qai IP q93:=⟨qaj qY6,qHv⟩
abbrev qT1:Type:=Int
def qWh:PArgs:=⟨[.agg [.int .i64,.int .u64],.int .i64,.int .i64,.int .i64],[]⟩
def qW3:List PRes:=[⟨false,.int .i64,[]⟩]
def qvk (x0 x1:Int) (x2 x3 x4:Int):DT qT1:=
 .br (decide (x4 < 5))
 (.br (decide (x0 < 0)) (.no) (.no))
 (.br (decide (x2 > IntKind.i64.wrap (x3 - x2)))
 (.at (1))
 (.br (decide (x2 < IntKind.i64.wrap (x3 - x2)))
 (.at (0))
 (.br (x4 == 6)
 (.at (IntKind.i64.wrap (IntKind.u64.wrap ((BitVec.ofInt 64 x1 &&& BitVec.ofInt 64 1).toNat:Int))))
 (.br (decide (x0 < 0)) (.at (0)) (.at (1))))))
def qwj (x0 x1:Int) (x2 x3 x4:Int):Option qT1:=qay (qvk x0 x1 x2 x3 x4).ev
theorem qJI (x0 x1 x2 x3 x4):qwj x0 x1 x2 x3 x4 = (qvk x0 x1 x2 x3 x4).ev:=qaa _
theorem q2L:FH IP 159 qWh qW3 (k5 qwj):=fh q6m (k5 qvk) qHw
def q94:Tab:=(159,FE qWh qW3 (k5 qwj)) :: q93
theorem qHx:qai IP q94:=⟨qaj q2L,qHw⟩
abbrev qTM:Type:=Int × Int
def qV1:PArgs:=⟨[.agg [.int .i64,.int .u64],.int .i64,.int .i64],[]⟩
def qWN:List PRes:=[⟨false,.tup [.int .i64,.int .i64],[]⟩]
def qu5 (x0 x1:Int) (x2 x3:Int):DT qTM:=
 .bi (br (decide (x2 < 1)) (some true) (br (sm (qrS x3)) (some !gv (qrS x3)) none)) (fun y0=>
 .br (y0)
 (.at ((0,1)))
 (.bi (qon x0 x1 x2) (fun y1=>
 .br (decide (y1.2.2.1 > 0))
 (.bi (qwj y1.1 y1.2.1 y1.2.2.1 x2 x3) (fun y2=>
 .bi (qcn y2) (fun y3=>
 .bi (qjR y1.1 y1.2.1 y3.1 y3.2) (fun y4=>
 .bi (qh3 y4.1 y4.2.1) (fun y5=>
 .br (!y5.2) (.at ((0,6))) (.at ((y5.1,0))))
 (.no))
 (.no))
 (.no))
 (.no))
 (.bi (qh3 y1.1 y1.2.1) (fun y2=>
 .br (!y2.2) (.at ((0,6))) (.at ((y2.1,0))))
 (.no)))
 (.no)))
 (.no)
def qoy (x0 x1:Int) (x2 x3:Int):Option qTM:=qay (qu5 x0 x1 x2 x3).ev
theorem qJs (x0 x1 x2 x3):qoy x0 x1 x2 x3 = (qu5 x0 x1 x2 x3).ev:=qaa _
theorem q2t:FH IP 140 qV1 qWN (k4 qoy):=fh q57 (k4 qu5) qHx
def q95:Tab:=(140,FE qV1 qWN (k4 qoy)) :: q94
theorem qHy:qai IP q95:=⟨qaj q2t,qHx⟩
abbrev qUd:Type:=Int × Int
def qWt:PArgs:=⟨[.agg [.int .i64,.int .i64],.agg [.int .i64,.int .i64]],[]⟩
def qXf:List PRes:=[⟨false,.tup [.int .i64,.int .i64],[]⟩]
def qvw (x0 x1:Int) (x2 x3:Int):DT qUd:=
 .bi (qoo x1 x3) (fun y0=>
 .bi (br (x0 != x2) (some (x0 != 1)) (some false)) (fun y1=>
 .bi (br y1 (some (x2 != 1)) (some false)) (fun y2=>
 .br (y2)
 (.bi (qoy y0.1 y0.2 1000000 6) (fun y3=>
 .at ((y3.1,y3.2)))
 (.no))
 (.bi (qfA y0.1 y0.2 0) (fun y3=>
 .at ((y3.1,y3.2)))
 (.no)))
 (.no))
 (.no))
 (.no)
def qwr (x0 x1:Int) (x2 x3:Int):Option qUd:=qay (qvw x0 x1 x2 x3).ev
theorem qJV (x0 x1 x2 x3):qwr x0 x1 x2 x3 = (qvw x0 x1 x2 x3).ev:=qaa _
theorem q2X:FH IP 119 qWt qXf (k4 qwr):=fh q5T (k4 qvw) qHy
def q96:Tab:=(119,FE qWt qXf (k4 qwr)) :: q95
theorem qHz:qai IP q96:=⟨qaj q2X,qHy⟩
abbrev qTW:Type:=Int × Int
def qWc:PArgs:=⟨[.agg [.int .i64,.int .i64],.agg [.int .i64,.int .i64]],[]⟩
def qWY:List PRes:=[⟨false,.tup [.int .i64,.int .i64],[]⟩]
def qvf (x0 x1:Int) (x2 x3:Int):DT qTW:=
 .br (x0 == x2)
 (.bi (br (x1 == -9223372036854775808) (some (x3 == -1)) (some false)) (fun y0=>
 .br (y0)
 (.at ((0,6)))
 (.br (decide (x3 ≠ 0)) (.at ((IntKind.i64.wrap (x1.tdiv x3),0))) (.no)))
 (.no))
 (.br (x3 == -9223372036854775808)
 (.at ((0,0)))
 (.br (decide (x3 < 0))
 (.bi (qcn (IntKind.i64.wrap (0 - x1))) (fun y0=>
 .bi (qoy y0.1 y0.2 (IntKind.i64.wrap (0 - x3)) 6) (fun y1=>
 .at ((y1.1,y1.2)))
 (.no))
 (.no))
 (.bi (qcn x1) (fun y0=>
 .bi (qoy y0.1 y0.2 x3 6) (fun y1=>
 .at ((y1.1,y1.2)))
 (.no))
 (.no))))
def qwi (x0 x1:Int) (x2 x3:Int):Option qTW:=qay (qvf x0 x1 x2 x3).ev
theorem qJD (x0 x1 x2 x3):qwi x0 x1 x2 x3 = (qvf x0 x1 x2 x3).ev:=qaa _
theorem q2F:FH IP 120 qWc qWY (k4 qwi):=fh q5U (k4 qvf) qHz
def q97:Tab:=(120,FE qWc qWY (k4 qwi)) :: q96
theorem qHA:qai IP q97:=⟨qaj q2F,qHz⟩
abbrev qTP:Type:=Int × Int
def qV4:PArgs:=⟨[.int .i64,.view 2],[]⟩
def qWQ:List PRes:=[⟨false,.tup [.int .i64,.int .i64],[]⟩]
def qqZ (x0:Int) (x1:List AV):DT qTP:=
 .br (qaD [.int .i64,.int .i64] x1 0)
 (.br (x0 == 9)
 (.bi (qcn 0) (fun y0=>
 .bi (qcn (intOf (cellAt x1 0 1))) (fun y1=>
 .bi (qjS y0.1 y0.2 y1.1 y1.2) (fun y2=>
 .bi (qfA y2.1 y2.2.1 y2.2.2) (fun y3=>
 .at ((y3.1,y3.2)))
 (.no))
 (.no))
 (.no))
 (.no))
 (.br (qaD [.int .i64,.int .i64] x1 1)
 (.br (x0 == 5)
 (.bi (qcn (intOf (cellAt x1 0 1))) (fun y0=>
 .bi (qcn (intOf (cellAt x1 1 1))) (fun y1=>
 .bi (qjR y0.1 y0.2 y1.1 y1.2) (fun y2=>
 .bi (qfA y2.1 y2.2.1 y2.2.2) (fun y3=>
 .at ((y3.1,y3.2)))
 (.no))
 (.no))
 (.no))
 (.no))
 (.br (x0 == 6)
 (.bi (qcn (intOf (cellAt x1 0 1))) (fun y0=>
 .bi (qcn (intOf (cellAt x1 1 1))) (fun y1=>
 .bi (qjS y0.1 y0.2 y1.1 y1.2) (fun y2=>
 .bi (qfA y2.1 y2.2.1 y2.2.2) (fun y3=>
 .at ((y3.1,y3.2)))
 (.no))
 (.no))
 (.no))
 (.no))
 (.br (x0 == 7)
 (.bi (qwr (intOf (cellAt x1 0 0)) (intOf (cellAt x1 0 1)) (intOf (cellAt x1 1 0)) (intOf (cellAt x1 1 1))) (fun y0=>
 .at ((y0.1,y0.2)))
 (.no))
 (.br (intOf (cellAt x1 1 1) == 0)
 (.at ((0,7)))
 (.bi (qwi (intOf (cellAt x1 0 0)) (intOf (cellAt x1 0 1)) (intOf (cellAt x1 1 0)) (intOf (cellAt x1 1 1))) (fun y0=>
 .at ((y0.1,y0.2)))
 (.no))))))
 (.no)))
 (.no)
def qed (x0:Int) (x1:List AV):Option qTP:=qay (qqZ x0 x1).ev
theorem qwd (x0 x1):qed x0 x1 = (qqZ x0 x1).ev:=qaa _
theorem q2w:FH IP 92 qV4 qWQ (k2 qed):=fh F92 (k2 qqZ) qHA
def q98:Tab:=(92,FE qV4 qWQ (k2 qed)) :: q97
theorem qHB:qai IP q98:=⟨qaj q2w,qHA⟩
abbrev qGn:Type:=Int × Int × Int
def qMv:PArgs:=⟨[.int .i64,.view 2],[]⟩
def qOb:List PRes:=[⟨false,.tup [.agg [.int .i64,.int .i64],.int .i64],[]⟩]
def qjk (x0:Int) (x1:List AV):DT qGn:=
 .bi (pj 0 (qpa (Sum.inl (x0,x1,x1,(x1.length:Int),0,0,0)))) (fun y0=>
 .bi (qdP (sl y0).1 []) (fun y1=>
 .br (!y1.2)
 (.at ((0,0,3)))
 (.bi (pj 0 (qpb ((sl y0).1,(sl y0).2.1,y1.1,(sl y0).2.1,((sl y0).2.1.length:Int),0,(sl y0).2.2.2.2.2.1,(sl y0).2.2.2.2.2.2))) (fun y2=>
 .at ((0,0,1)))
 (.bi (pj 1 (qpb ((sl y0).1,(sl y0).2.1,y1.1,(sl y0).2.1,((sl y0).2.1.length:Int),0,(sl y0).2.2.2.2.2.1,(sl y0).2.2.2.2.2.2))) (fun y2=>
 .bi (br (decide (y2.1 < 5)) (some true) (some (decide (y2.1 > 9)))) (fun y3=>
 .br (y3)
 (.bi (qdJ y2.1 y2.2.1) (fun y4=>
 .at ((y2.2.2.1,y4,0)))
 (.no))
 (.bi (qed y2.1 y2.2.1) (fun y4=>
 .bi (br (y4.2 == 0) (br (sm (qew y2.2.2.1 y4.1)) (some !gv (qew y2.2.2.1 y4.1)) none) (some false)) (fun y5=>
 .br (y5)
 (.at ((0,0,6)))
 (.br (y4.2 != 0) (.at ((0,0,y4.2))) (.at ((y2.2.2.1,y4.1,0)))))
 (.no))
 (.no)))
 (.no))
 (.no))))
 (.no))
 (.bi (pj 1 (qpa (Sum.inl (x0,x1,x1,(x1.length:Int),0,0,0)))) (fun y0=>
 .bi (qdP (sr y0).1 (sr y0).2.2.2.2.2.2.2) (fun y1=>
 .br (!y1.2)
 (.at ((0,0,3)))
 (.bi (pj 0
 (qpb ((sr y0).1,(sr y0).2.1,y1.1,(sr y0).2.1,((sr y0).2.1.length:Int),0,(sr y0).2.2.2.2.2.1,(sr y0).2.2.2.2.2.2.1))) (fun y2=>
 .at ((0,0,1)))
 (.bi (pj 1
 (qpb ((sr y0).1,(sr y0).2.1,y1.1,(sr y0).2.1,((sr y0).2.1.length:Int),0,(sr y0).2.2.2.2.2.1,(sr y0).2.2.2.2.2.2.1))) (fun y2=>
 .bi (br (decide (y2.1 < 5)) (some true) (some (decide (y2.1 > 9)))) (fun y3=>
 .br (y3)
 (.bi (qdJ y2.1 y2.2.1) (fun y4=>
 .at ((y2.2.2.1,y4,0)))
 (.no))
 (.bi (qed y2.1 y2.2.1) (fun y4=>
 .bi (br (y4.2 == 0) (br (sm (qew y2.2.2.1 y4.1)) (some !gv (qew y2.2.2.1 y4.1)) none) (some false)) (fun y5=>
 .br (y5)
 (.at ((0,0,6)))
 (.br (y4.2 != 0) (.at ((0,0,y4.2))) (.at ((y2.2.2.1,y4.1,0)))))
 (.no))
 (.no)))
 (.no))
 (.no))))
 (.no))
 (.no))
def qdM (x0:Int) (x1:List AV):Option qGn:=qay (qjk x0 x1).ev
theorem qrK (x0 x1):qdM x0 x1 = (qjk x0 x1).ev:=qaa _
theorem qYf:FH IP 77 qMv qOb (k2 qdM):=qag (F:=F77) (L:=[(1007700,qLm),(1007701,qLn)]) (t:=(k2 qjk)) qHB (qab (l:=[qae F77 0,qae F77 1]) (by kernel_rfl) ⟨qas (by kernel_rfl) q4x,qas (by kernel_rfl) q4y,trivial⟩) (by kernel_rfl) (fun v=>by kernel_rfl) (fun _=>qaa _)
def q6O:Tab:=(77,FE qMv qOb (k2 qdM)) :: q98
theorem qHC:qai IP q6O:=⟨qaj qYf,qHB⟩
abbrev qeX:Type:=Int × Int × Int
def qpv:PArgs:=⟨[.agg [.int .i64,.int .i64,.str,.view 4],.view 2,.view 2],[]⟩
def qpL:List PRes:=[⟨false,.tup [.agg [.int .i64,.int .i64],.int .i64],[]⟩]
abbrev qba:Type:=Int -> Int -> (List UInt8) -> (List AV) -> (List AV) -> (List AV) -> Option qeX
def qtg (G_u196q:qba):Prop:=FH IP 64 qpv qpL (k6 G_u196q)
def qQ4 (G_u196q:qba):Tab:=(64,FE qpv qpL (k6 G_u196q)) :: q6O
theorem qng (G_u196q:qba) (hG:qtg G_u196q):qai IP (qQ4 G_u196q):=⟨qaj (hG),qHC⟩
end
end Go.Proofs.H15p

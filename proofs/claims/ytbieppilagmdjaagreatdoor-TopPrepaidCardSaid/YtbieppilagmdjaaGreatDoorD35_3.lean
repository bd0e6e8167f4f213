/- Functions over plain data. Printed by a program of mine. -/
import Derived.Test.YtbieppilagmdjaaGreatDoorD35_1
import Derived.KernelRfl
set_option linter.unusedVariables false
set_option linter.unusedSimpArgs false
set_option linter.unnecessarySimpa false
namespace Go.Proofs.H35
open Go Go.Eng
set_option maxRecDepth 100000
noncomputable section
abbrev qIA:Type:=List AV × Int
def qLl:PArgs:=⟨[.agg [.int .i64,.int .i64,.int .i64,.int .i64,.int .i64,.int .i64,.int .i64,.int .i64,.int .i64,.int .i64,.str,.str],.agg [.str,.view 1,.view 1]],[]⟩
def qMo:List PRes:=[⟨false,.tup [.view 1,.int .i64],[]⟩]
def qpa (x0 x1:Int) (x2 x3:Int) (x4 x5:Int) (x6 x7:Int) (x8 x9:Int) (x10 x11 x12:List UInt8) (x13 x14:List AV):DT qIA:=
 .bi (qp6 x0 x1 x2 x3 x4 x5 x6 x7 x8 x9 x10 x11 x12 x13 x14) (fun y0=>
 .br (y0 != 0)
 (.at (([],y0)))
 (.bi (qgn x3) (fun y1=>
 .bi (pj 0 (qve (y1.2.2,0,x0,x1,x2,x3,x4,x5,x6,x7,x8,x9,x10,x11,x12,x13,x14))) (fun y2=>
 .bi (pj 0
 (qhb
 (Sum.inl
 (y2.1,y2.2.1,y2.2.2.2.2.2.2.2.1,0,y2.2.2.1,y2.2.2.2.1,y2.2.2.2.2.1,y2.2.2.2.2.2.1,
 y2.2.2.2.2.2.2.1,y2.2.2.2.2.2.2.2.1,y2.2.2.2.2.2.2.2.2.1,y2.2.2.2.2.2.2.2.2.2.1,
 y2.2.2.2.2.2.2.2.2.2.2.1,y2.2.2.2.2.2.2.2.2.2.2.2.1,y2.2.2.2.2.2.2.2.2.2.2.2.2.1,
 y2.2.2.2.2.2.2.2.2.2.2.2.2.2.1,y2.2.2.2.2.2.2.2.2.2.2.2.2.2.2.1,
 y2.2.2.2.2.2.2.2.2.2.2.2.2.2.2.2.1,y2.2.2.2.2.2.2.2.2.2.2.2.2.2.2.2.2)))) (fun y3=>
 .br ((gv
 (qc5 (sl y3).2.2.2.2.2.2.2.2.2.2.2.2.2.2.2.2.1 (sl y3).2.2.2.2.2.2.2.2.2.2.2.2.2.2.2.2.2.1
 (sl y3).2.2.2.2.2.2.2.2.2.2.2.2.2.2.2.2.2.2
 (gv
 (qb3 (sl y3).2.2.2.2.2.2.2.1
 (IntKind.i64.wrap (IntKind.i64.wrap ((sl y3).2.2.2.1 + 1) * (sl y3).2.2.2.2.2.2.2.2.1)) (sl y3).1)).1
 2)).2 !=
 0)
 (.at (([],(gv
 (qc5 (sl y3).2.2.2.2.2.2.2.2.2.2.2.2.2.2.2.2.1 (sl y3).2.2.2.2.2.2.2.2.2.2.2.2.2.2.2.2.2.1
 (sl y3).2.2.2.2.2.2.2.2.2.2.2.2.2.2.2.2.2.2
 (gv
 (qb3 (sl y3).2.2.2.2.2.2.2.1
 (IntKind.i64.wrap (IntKind.i64.wrap ((sl y3).2.2.2.1 + 1) * (sl y3).2.2.2.2.2.2.2.2.1)) (sl y3).1)).1
 2)).2)))
 (.at (([],0))))
 (.bi (pj 1
 (qhb
 (Sum.inl
 (y2.1,y2.2.1,y2.2.2.2.2.2.2.2.1,0,y2.2.2.1,y2.2.2.2.1,y2.2.2.2.2.1,y2.2.2.2.2.2.1,
 y2.2.2.2.2.2.2.1,y2.2.2.2.2.2.2.2.1,y2.2.2.2.2.2.2.2.2.1,y2.2.2.2.2.2.2.2.2.2.1,
 y2.2.2.2.2.2.2.2.2.2.2.1,y2.2.2.2.2.2.2.2.2.2.2.2.1,y2.2.2.2.2.2.2.2.2.2.2.2.2.1,
 y2.2.2.2.2.2.2.2.2.2.2.2.2.2.1,y2.2.2.2.2.2.2.2.2.2.2.2.2.2.2.1,
 y2.2.2.2.2.2.2.2.2.2.2.2.2.2.2.2.1,y2.2.2.2.2.2.2.2.2.2.2.2.2.2.2.2.2)))) (fun y3=>
 .br ((gv
 (qb3 (sl y3).2.2.2.2.2.2.2.1 (IntKind.i64.wrap (IntKind.i64.wrap ((sl y3).2.2.2.1 + 1) * (sl y3).2.2.2.2.2.2.2.2.1))
 (sl y3).1)).2 !=
 0)
 (.at (([],(gv
 (qb3 (sl y3).2.2.2.2.2.2.2.1 (IntKind.i64.wrap (IntKind.i64.wrap ((sl y3).2.2.2.1 + 1) * (sl y3).2.2.2.2.2.2.2.2.1))
 (sl y3).1)).2)))
 (.at (([],0))))
 (.bi (pj 2
 (qhb
 (Sum.inl
 (y2.1,y2.2.1,y2.2.2.2.2.2.2.2.1,0,y2.2.2.1,y2.2.2.2.1,y2.2.2.2.2.1,y2.2.2.2.2.2.1,
 y2.2.2.2.2.2.2.1,y2.2.2.2.2.2.2.2.1,y2.2.2.2.2.2.2.2.2.1,y2.2.2.2.2.2.2.2.2.2.1,
 y2.2.2.2.2.2.2.2.2.2.2.1,y2.2.2.2.2.2.2.2.2.2.2.2.1,y2.2.2.2.2.2.2.2.2.2.2.2.2.1,
 y2.2.2.2.2.2.2.2.2.2.2.2.2.2.1,y2.2.2.2.2.2.2.2.2.2.2.2.2.2.2.1,
 y2.2.2.2.2.2.2.2.2.2.2.2.2.2.2.2.1,y2.2.2.2.2.2.2.2.2.2.2.2.2.2.2.2.2)))) (fun y3=>
 .br ((sl y3).2.1 != 0) (.at (([],(sl y3).2.1))) (.at (([],0))))
 (.bi (pj 3
 (qhb
 (Sum.inl
 (y2.1,y2.2.1,y2.2.2.2.2.2.2.2.1,0,y2.2.2.1,y2.2.2.2.1,y2.2.2.2.2.1,y2.2.2.2.2.2.1,
 y2.2.2.2.2.2.2.1,y2.2.2.2.2.2.2.2.1,y2.2.2.2.2.2.2.2.2.1,y2.2.2.2.2.2.2.2.2.2.1,
 y2.2.2.2.2.2.2.2.2.2.2.1,y2.2.2.2.2.2.2.2.2.2.2.2.1,y2.2.2.2.2.2.2.2.2.2.2.2.2.1,
 y2.2.2.2.2.2.2.2.2.2.2.2.2.2.1,y2.2.2.2.2.2.2.2.2.2.2.2.2.2.2.1,
 y2.2.2.2.2.2.2.2.2.2.2.2.2.2.2.2.1,y2.2.2.2.2.2.2.2.2.2.2.2.2.2.2.2.2)))) (fun y3=>
 .br ((gv
 (qc5 (sr y3).2.2.2.2.2.2.2.2.2.2.2.2.2.2.2.2.1 (sr y3).2.2.2.2.2.2.2.2.2.2.2.2.2.2.2.2.2.1
 (sr y3).2.2.2.2.2.2.2.2.2.2.2.2.2.2.2.2.2.2.1
 (gv
 (qb3 (sr y3).2.2.2.2.2.2.2.1
 (IntKind.i64.wrap (IntKind.i64.wrap ((sr y3).2.2.2.1 + 1) * (sr y3).2.2.2.2.2.2.2.2.1)) (sr y3).1)).1
 2)).2 !=
 0)
 (.at (([],(gv
 (qc5 (sr y3).2.2.2.2.2.2.2.2.2.2.2.2.2.2.2.2.1 (sr y3).2.2.2.2.2.2.2.2.2.2.2.2.2.2.2.2.2.1
 (sr y3).2.2.2.2.2.2.2.2.2.2.2.2.2.2.2.2.2.2.1
 (gv
 (qb3 (sr y3).2.2.2.2.2.2.2.1
 (IntKind.i64.wrap (IntKind.i64.wrap ((sr y3).2.2.2.1 + 1) * (sr y3).2.2.2.2.2.2.2.2.1)) (sr y3).1)).1
 2)).2)))
 (.at (((sr y3).2.2.2.2.2.2.2.2.2.2.2.2.2.2.2.2.2.2.2,0))))
 (.bi (pj 4
 (qhb
 (Sum.inl
 (y2.1,y2.2.1,y2.2.2.2.2.2.2.2.1,0,y2.2.2.1,y2.2.2.2.1,y2.2.2.2.2.1,y2.2.2.2.2.2.1,
 y2.2.2.2.2.2.2.1,y2.2.2.2.2.2.2.2.1,y2.2.2.2.2.2.2.2.2.1,y2.2.2.2.2.2.2.2.2.2.1,
 y2.2.2.2.2.2.2.2.2.2.2.1,y2.2.2.2.2.2.2.2.2.2.2.2.1,y2.2.2.2.2.2.2.2.2.2.2.2.2.1,
 y2.2.2.2.2.2.2.2.2.2.2.2.2.2.1,y2.2.2.2.2.2.2.2.2.2.2.2.2.2.2.1,
 y2.2.2.2.2.2.2.2.2.2.2.2.2.2.2.2.1,y2.2.2.2.2.2.2.2.2.2.2.2.2.2.2.2.2)))) (fun y3=>
 .br ((gv
 (qb3 (sr y3).2.2.2.2.2.2.2.1 (IntKind.i64.wrap (IntKind.i64.wrap ((sr y3).2.2.2.1 + 1) * (sr y3).2.2.2.2.2.2.2.2.1))
 (sr y3).1)).2 !=
 0)
 (.at (([],(gv
 (qb3 (sr y3).2.2.2.2.2.2.2.1 (IntKind.i64.wrap (IntKind.i64.wrap ((sr y3).2.2.2.1 + 1) * (sr y3).2.2.2.2.2.2.2.2.1))
 (sr y3).1)).2)))
 (.at (((sr y3).2.2.2.2.2.2.2.2.2.2.2.2.2.2.2.2.2.2.2,0))))
 (.bi (pj 5
 (qhb
 (Sum.inl
 (y2.1,y2.2.1,y2.2.2.2.2.2.2.2.1,0,y2.2.2.1,y2.2.2.2.1,y2.2.2.2.2.1,y2.2.2.2.2.2.1,
 y2.2.2.2.2.2.2.1,y2.2.2.2.2.2.2.2.1,y2.2.2.2.2.2.2.2.2.1,y2.2.2.2.2.2.2.2.2.2.1,
 y2.2.2.2.2.2.2.2.2.2.2.1,y2.2.2.2.2.2.2.2.2.2.2.2.1,y2.2.2.2.2.2.2.2.2.2.2.2.2.1,
 y2.2.2.2.2.2.2.2.2.2.2.2.2.2.1,y2.2.2.2.2.2.2.2.2.2.2.2.2.2.2.1,
 y2.2.2.2.2.2.2.2.2.2.2.2.2.2.2.2.1,y2.2.2.2.2.2.2.2.2.2.2.2.2.2.2.2.2)))) (fun y3=>
 .br ((sr y3).2.1 != 0) (.at (([],(sr y3).2.1))) (.at (((sr y3).2.2.2.2.2.2.2.2.2.2.2.2.2.2.2.2.2.2.2,0))))
 (.no)))))))
 (.no))
 (.no)))
 (.no)
def qqb (x0 x1:Int) (x2 x3:Int) (x4 x5:Int) (x6 x7:Int) (x8 x9:Int) (x10 x11 x12:List UInt8) (x13 x14:List AV):Option qIA:=qaK (qpa x0 x1 x2 x3 x4 x5 x6 x7 x8 x9 x10 x11 x12 x13 x14).ev
theorem qAS (x0 x1 x2 x3 x4 x5 x6 x7 x8 x9 x10 x11 x12 x13 x14):qqb x0 x1 x2 x3 x4 x5 x6 x7 x8 x9 x10 x11 x12 x13 x14 = (qpa x0 x1 x2 x3 x4 x5 x6 x7 x8 x9 x10 x11 x12 x13 x14).ev:=qaa _
theorem qRM:FH IP 50 qLl qMo (k15 qqb):=qaj (F:=F50) (L:=[(1005000,qB0),(1005001,qB1)]) (t:=(k15 qpa)) qyU (qaf (l:=[qai F50 0,qai F50 1]) (by kernel_rfl) ⟨qaG (by kernel_rfl) qTV,qaG (by kernel_rfl) qTW,trivial⟩) (by kernel_rfl) (fun v=>by kernel_rfl) (fun _=>qaa _)
def T39:Tab:=(50,FE qLl qMo (k15 qqb)) :: T38
theorem qIY:qap IP T39:=⟨qas qRM,qyU⟩
abbrev qHM:Type:=Bool
def qKx:PArgs:=⟨[.agg [.int .i64,.int .i64,.int .i64],.int .i64],[]⟩
def qLA:List PRes:=[⟨false,.bool,[]⟩]
def qot (x0 x1:Int) (x2 x3:Int):DT qHM:=
 .bi (br (decide (x3 >= 0)) (some (decide (x3 <= 1000000000000))) (some false)) (fun y0=>
 .bi (br y0 (some (decide (x0 >= 0))) (some false)) (fun y1=>
 .bi (br y1 (some (decide (x0 <= 1000000))) (some false)) (fun y2=>
 .bi (br y2 (some (decide (x1 >= 1))) (some false)) (fun y3=>
 .bi (br y3 (some (decide (x1 <= 12))) (some false)) (fun y4=>
 .bi (br y4 (br (sm (qd0 x2)) (some (gv (qd0 x2))) none) (some false)) (fun y5=>
 .at (y5))
 (.no))
 (.no))
 (.no))
 (.no))
 (.no))
 (.no)
def ql3 (x0 x1:Int) (x2 x3:Int):Option qHM:=qaK (qot x0 x1 x2 x3).ev
theorem qAa (x0 x1 x2 x3):ql3 x0 x1 x2 x3 = (qot x0 x1 x2 x3).ev:=qaa _
theorem qQ1:FH IP 83 qKx qLA (k4 ql3):=fh F83 (k4 qot) qIY
def T40:Tab:=(83,FE qKx qLA (k4 ql3)) :: T39
theorem qIZ:qap IP T40:=⟨qas qQ1,qIY⟩
abbrev qyf:Type:=Int
def qDe:PArgs:=⟨[.int .i64],[]⟩
def qDZ:List PRes:=[⟨false,.int .u64,[]⟩]
def qju (x0:Int):DT qyf:=
 .br (decide (x0 < 0)) (.at (IntKind.u64.wrap (0 - IntKind.u64.wrap x0))) (.at (IntKind.u64.wrap x0))
def qhR (x0:Int):Option qyf:=qaK (qju x0).ev
theorem qwS (x0):qhR x0 = (qju x0).ev:=qaa _
theorem qNj:FH IP 158 qDe qDZ qhR:=fh qVw qju qIZ
def T41:Tab:=(158,FE qDe qDZ qhR) :: T40
theorem qI0:qap IP T41:=⟨qas qNj,qIZ⟩
abbrev qxN:Type:=Int × Int
def qCS:PArgs:=⟨[.agg [.int .i64,.int .u64]],[]⟩
def qDD:List PRes:=[⟨false,.agg [.int .i64,.int .u64],[]⟩]
def qjc (x0 x1:Int):DT qxN:=
 .br (qeg (IntKind.u64.wrap (-1 - x1)) && qeg 1 && decide (0 <= 1))
 (.at ((IntKind.i64.wrap (IntKind.u64.wrap (IntKind.u64.wrap (IntKind.i64.wrap (-1 - x0)) + (IntKind.u64.wrap (-1 - x1) + 1 + 0) / 18446744073709551616)),(IntKind.u64.wrap (-1 - x1) + 1 + 0) % 18446744073709551616)))
 (.no)
def qgl (x0 x1:Int):Option qxN:=qaK (qjc x0 x1).ev
theorem qwA (x0 x1):qgl x0 x1 = (qjc x0 x1).ev:=qaa _
theorem qMY:FH IP 159 qCS qDD (k2 qgl):=fh qVx (k2 qjc) qI0
def T42:Tab:=(159,FE qCS qDD (k2 qgl)) :: T41
theorem qI1:qap IP T42:=⟨qas qMY,qI0⟩
abbrev qye:Type:=Int × Int
def qDd:PArgs:=⟨[.int .i64,.int .i64],[]⟩
def qDY:List PRes:=[⟨false,.agg [.int .i64,.int .u64],[]⟩]
def qjt (x0 x1:Int):DT qye:=
 .bi (qhR x0) (fun y0=>
 .bi (qhR x1) (fun y1=>
 .br (qeg y0 && qeg y1)
 (.br (if true = true then !decide (x0 < 0) == decide (x1 < 0) else decide (x0 < 0) == decide (x1 < 0))
 (.bi (qgl (IntKind.i64.wrap (y0 * y1 / 18446744073709551616)) (y0 * y1 % 18446744073709551616)) (fun y2=>
 .at ((y2.1,y2.2)))
 (.no))
 (.at ((IntKind.i64.wrap (y0 * y1 / 18446744073709551616),y0 * y1 % 18446744073709551616))))
 (.no))
 (.no))
 (.no)
def qhQ (x0 x1:Int):Option qye:=qaK (qjt x0 x1).ev
theorem qwR (x0 x1):qhQ x0 x1 = (qjt x0 x1).ev:=qaa _
theorem qNi:FH IP 117 qDd qDY (k2 qhQ):=fh qVj (k2 qjt) qI1
def T43:Tab:=(117,FE qDd qDY (k2 qhQ)) :: T42
theorem qI2:qap IP T43:=⟨qas qNi,qI1⟩
abbrev qIB:Type:=Int × Int
def qLm:PArgs:=⟨[.agg [.int .i64,.int .u64]],[]⟩
def qMp:List PRes:=[⟨false,.agg [.int .u64,.int .u64],[]⟩]
def qlg (x0 x1:Int):DT qIB:=
 .br (decide (x0 < 0))
 (.bi (qgl x0 x1) (fun y0=>
 .at ((IntKind.u64.wrap y0.1,y0.2)))
 (.no))
 (.at ((IntKind.u64.wrap x0,x1)))
def qmh (x0 x1:Int):Option qIB:=qaK (qlg x0 x1).ev
theorem qqc (x0 x1):qmh x0 x1 = (qlg x0 x1).ev:=qaa _
theorem qRN:FH IP 191 qLm qMp (k2 qmh):=fh qVD (k2 qlg) qI2
def T44:Tab:=(191,FE qLm qMp (k2 qmh)) :: T43
theorem qun:qap IP T44:=⟨qas qRN,qI2⟩
abbrev qeo:Type:=Int × Int × Int × Int × Int × Int × Int × Int × Int
def qBm:List PSt:=[⟨[(1022000,.junk),(2,.int .u64),(8,.int .u64),(9,.int .u64),(10,.int .u64),(11,.int .u64),(13,.int .u64),(14,.int .u64),(15,.int .u64),(16,.int .u64)],[],0,0⟩]
def qHd (x0 x1:Int) (x2 x3:Int) (x4 x5:Int) (x6 x7 x8:Int):X × St:=(.exit 0,
 ⟨[(2,.int .u64 x0),(8,.int .u64 x1),(9,.int .u64 x2),(10,.int .u64 x3),(11,.int .u64 x4),(13,.int .u64 x5),
 (14,.int .u64 x6),(15,.int .u64 (IntKind.u64.wrap (x7 - 1)))],[],0,0⟩)
def qHe (x0 x1:Int) (x2 x3:Int) (x4 x5:Int) (x6 x7 x8:Int):X × St:=(.exit 0,
 ⟨[(2,.int .u64 x0),(8,.int .u64 x1),(9,.int .u64 x2),(10,.int .u64 x3),(11,.int .u64 x4),(13,.int .u64 x5),
 (14,.int .u64 x6),(15,.int .u64 x7)],[],0,0⟩)
def qUs:List (qeo -> X × St):=[(k9 qHd),(k9 qHe)]
def qrK (x0 x1:Int) (x2 x3:Int) (x4 x5:Int) (x6 x7 x8:Int):DT (Rd qeo):=
 .bi (br (decide (x7 >= 4294967296)) (some true) (some (decide (IntKind.u64.wrap (x7 * x3) > IntKind.u64.wrap (IntKind.u64.wrap (4294967296 * x8) + x5))))) (fun y0=>
 .br (y0)
 (.br (decide (IntKind.u64.wrap (x8 + x2) >= 4294967296)) (.at (.done 0)) (.at (.next ((x0,x1,x2,x3,x4,x5,x6,IntKind.u64.wrap (x7 - 1),IntKind.u64.wrap (x8 + x2))))))
 (.at (.done 1)))
 (.no)
def qoc:qeo -> DT (Rd qeo):=(fun v=>qrK v.1 v.2.1 v.2.2.1 v.2.2.2.1 v.2.2.2.2.1 v.2.2.2.2.2.1 v.2.2.2.2.2.2.1 v.2.2.2.2.2.2.2.1 v.2.2.2.2.2.2.2.2)
def qqJ (v:qeo):Option (Nat × qeo):=qaK (qat (fun v=>(qoc v).ev) v)
theorem qqK (v):qqJ v = qat (fun v=>(qoc v).ev) v:=qaa _
def qBU:qdC:=LE (τ:=qeo) (hD qBm) (qqJ) qUs
theorem qTP:Go.Eng.Told IP (qai qFa 0).1 (qai qFa 0).2 (qBU):=lp (inferInstance:Inhabited qeo) (hs:=qBm) qoc qun qqK
abbrev qep:Type:=Int × Int × Int × Int × Int × Int × Int × Int × Int
def qBn:List PSt:=[⟨[(1022001,.junk),(2,.int .u64),(8,.int .u64),(9,.int .u64),(10,.int .u64),(14,.int .u64),(15,.int .u64),(16,.int .u64),(17,.int .u64),(18,.int .u64)],[],0,0⟩]
def qHf (x0 x1:Int) (x2 x3:Int) (x4 x5:Int) (x6 x7 x8:Int):X × St:=(.exit 2,
 ⟨[(2,.int .u64 x0),(8,.int .u64 x1),(14,.int .u64 x4),(15,.int .u64 x5),(17,.int .u64 x7),
 (18,.int .u64 (IntKind.u64.wrap (x8 - 1)))],[],0,0⟩)
def qHg (x0 x1:Int) (x2 x3:Int) (x4 x5:Int) (x6 x7 x8:Int):X × St:=(.exit 2,
 ⟨[(2,.int .u64 x0),(8,.int .u64 x1),(14,.int .u64 x4),(15,.int .u64 x5),(17,.int .u64 x7),(18,.int .u64 x8)],[],0,0⟩)
def qUt:List (qep -> X × St):=[(k9 qHf),(k9 qHg)]
def qrL (x0 x1:Int) (x2 x3:Int) (x4 x5:Int) (x6 x7 x8:Int):DT (Rd qep):=
 .bi (br (decide (x8 >= 4294967296)) (some true) (some (decide (IntKind.u64.wrap (x8 * x3) > IntKind.u64.wrap (IntKind.u64.wrap (4294967296 * x6) + x4))))) (fun y0=>
 .br (y0)
 (.br (decide (IntKind.u64.wrap (x6 + x2) >= 4294967296)) (.at (.done 0)) (.at (.next ((x0,x1,x2,x3,x4,x5,IntKind.u64.wrap (x6 + x2),x7,IntKind.u64.wrap (x8 - 1))))))
 (.at (.done 1)))
 (.no)
def qod:qep -> DT (Rd qep):=(fun v=>qrL v.1 v.2.1 v.2.2.1 v.2.2.2.1 v.2.2.2.2.1 v.2.2.2.2.2.1 v.2.2.2.2.2.2.1 v.2.2.2.2.2.2.2.1 v.2.2.2.2.2.2.2.2)
def qkr (v:qep):Option (Nat × qep):=qaK (qat (fun v=>(qod v).ev) v)
theorem qqL (v):qkr v = qat (fun v=>(qod v).ev) v:=qaa _
def qBV:qdC:=LE (τ:=qep) (hD qBn) (qkr) qUt
theorem qTQ:Go.Eng.Told IP (qai qFa 1).1 (qai qFa 1).2 (qBV):=lp (inferInstance:Inhabited qep) (hs:=qBn) qod qun qqL
abbrev qIg:Type:=Int × Int
def qK0:PArgs:=⟨[.int .u64,.int .u64,.int .u64],[]⟩
def qL3:List PRes:=[⟨false,.tup [.int .u64,.int .u64],[]⟩]
def qlc (x0 x1 x2:Int):DT qIg:=
 .br (x2 == 0)
 (.no)
 (.br (decide (x2 <= x0))
 (.no)
 (.br (x0 == 0)
 (.br (decide (x2 ≠ 0))
 (.br (decide (x2 ≠ 0)) (.at ((IntKind.u64.wrap (x1.tdiv x2),x1.tmod x2))) (.no))
 (.no))
 (.br (qeg x2)
 (.br (decide (0 <= IntKind.u64.wrap (64 - ((Lib.bitLen x2.toNat):Int))))
 (.br (decide (0 <= IntKind.u64.wrap (64 - ((Lib.bitLen x2.toNat):Int))))
 (.br (decide (0 <= IntKind.u64.wrap (64 - IntKind.u64.wrap (64 - ((Lib.bitLen x2.toNat):Int)))))
 (.br (decide (0 <= IntKind.u64.wrap (64 - ((Lib.bitLen x2.toNat):Int))))
 (.br (decide ((IntKind.u64.wrap (x2 * 2 ^ min (IntKind.u64.wrap (64 - ((Lib.bitLen x2.toNat):Int))).toNat 64)).fdiv (2 ^ 32) ≠ 0))
 (.bi (pj 0
 (qqJ
 (IntKind.u64.wrap (x2 * 2 ^ min (IntKind.u64.wrap (64 - ((Lib.bitLen x2.toNat):Int))).toNat 64),IntKind.u64.wrap (64 - ((Lib.bitLen x2.toNat):Int)),
 (IntKind.u64.wrap (x2 * 2 ^ min (IntKind.u64.wrap (64 - ((Lib.bitLen x2.toNat):Int))).toNat 64)).fdiv (2 ^ 32),
 IntKind.u64.wrap
 ((BitVec.ofInt 64 (IntKind.u64.wrap (x2 * 2 ^ min (IntKind.u64.wrap (64 - ((Lib.bitLen x2.toNat):Int))).toNat 64)) &&& BitVec.ofInt 64 4294967295).toNat:Int),
 IntKind.u64.wrap
 ((BitVec.ofInt 64 (IntKind.u64.wrap (x0 * 2 ^ min (IntKind.u64.wrap (64 - ((Lib.bitLen x2.toNat):Int))).toNat 64)) |||
 BitVec.ofInt 64 (x1.fdiv (2 ^ min (IntKind.u64.wrap (64 - IntKind.u64.wrap (64 - ((Lib.bitLen x2.toNat):Int)))).toNat 64))).toNat :
 Int),
 (IntKind.u64.wrap (x1 * 2 ^ min (IntKind.u64.wrap (64 - ((Lib.bitLen x2.toNat):Int))).toNat 64)).fdiv (2 ^ 32),
 IntKind.u64.wrap
 ((BitVec.ofInt 64 (IntKind.u64.wrap (x1 * 2 ^ min (IntKind.u64.wrap (64 - ((Lib.bitLen x2.toNat):Int))).toNat 64)) &&& BitVec.ofInt 64 4294967295).toNat:Int),
 IntKind.u64.wrap
 ((IntKind.u64.wrap
 ((BitVec.ofInt 64 (IntKind.u64.wrap (x0 * 2 ^ min (IntKind.u64.wrap (64 - ((Lib.bitLen x2.toNat):Int))).toNat 64)) |||
 BitVec.ofInt 64 (x1.fdiv (2 ^ min (IntKind.u64.wrap (64 - IntKind.u64.wrap (64 - ((Lib.bitLen x2.toNat):Int)))).toNat 64))).toNat :
 Int)).tdiv
 ((IntKind.u64.wrap (x2 * 2 ^ min (IntKind.u64.wrap (64 - ((Lib.bitLen x2.toNat):Int))).toNat 64)).fdiv (2 ^ 32))),
 IntKind.u64.wrap
 (IntKind.u64.wrap
 ((BitVec.ofInt 64 (IntKind.u64.wrap (x0 * 2 ^ min (IntKind.u64.wrap (64 - ((Lib.bitLen x2.toNat):Int))).toNat 64)) |||
 BitVec.ofInt 64 (x1.fdiv (2 ^ min (IntKind.u64.wrap (64 - IntKind.u64.wrap (64 - ((Lib.bitLen x2.toNat):Int)))).toNat 64))).toNat :
 Int) -
 IntKind.u64.wrap
 (IntKind.u64.wrap
 ((IntKind.u64.wrap
 ((BitVec.ofInt 64 (IntKind.u64.wrap (x0 * 2 ^ min (IntKind.u64.wrap (64 - ((Lib.bitLen x2.toNat):Int))).toNat 64)) |||
 BitVec.ofInt 64 (x1.fdiv (2 ^ min (IntKind.u64.wrap (64 - IntKind.u64.wrap (64 - ((Lib.bitLen x2.toNat):Int)))).toNat 64))).toNat :
 Int)).tdiv
 ((IntKind.u64.wrap (x2 * 2 ^ min (IntKind.u64.wrap (64 - ((Lib.bitLen x2.toNat):Int))).toNat 64)).fdiv (2 ^ 32))) *
 (IntKind.u64.wrap (x2 * 2 ^ min (IntKind.u64.wrap (64 - ((Lib.bitLen x2.toNat):Int))).toNat 64)).fdiv (2 ^ 32)))))) (fun y0=>
 .br (decide (y0.2.2.1 ≠ 0))
 (.bi (pj 0
 (qkr
 (y0.1,y0.2.1,y0.2.2.1,y0.2.2.2.1,y0.2.2.2.2.2.2.1,IntKind.u64.wrap (y0.2.2.2.2.2.2.2.1 - 1),
 IntKind.u64.wrap
 (IntKind.u64.wrap
 (IntKind.u64.wrap (IntKind.u64.wrap (y0.2.2.2.2.1 * 4294967296) + y0.2.2.2.2.2.1) -
 IntKind.u64.wrap (IntKind.u64.wrap (y0.2.2.2.2.2.2.2.1 - 1) * y0.1)) -
 IntKind.u64.wrap
 (IntKind.u64.wrap
 ((IntKind.u64.wrap
 (IntKind.u64.wrap (IntKind.u64.wrap (y0.2.2.2.2.1 * 4294967296) + y0.2.2.2.2.2.1) -
 IntKind.u64.wrap (IntKind.u64.wrap (y0.2.2.2.2.2.2.2.1 - 1) * y0.1))).tdiv
 y0.2.2.1) *
 y0.2.2.1)),
 IntKind.u64.wrap
 (IntKind.u64.wrap (IntKind.u64.wrap (y0.2.2.2.2.1 * 4294967296) + y0.2.2.2.2.2.1) -
 IntKind.u64.wrap (IntKind.u64.wrap (y0.2.2.2.2.2.2.2.1 - 1) * y0.1)),
 IntKind.u64.wrap
 ((IntKind.u64.wrap
 (IntKind.u64.wrap (IntKind.u64.wrap (y0.2.2.2.2.1 * 4294967296) + y0.2.2.2.2.2.1) -
 IntKind.u64.wrap (IntKind.u64.wrap (y0.2.2.2.2.2.2.2.1 - 1) * y0.1))).tdiv
 y0.2.2.1)))) (fun y1=>
 .br (decide (0 <= y1.2.1))
 (.at ((IntKind.u64.wrap (IntKind.u64.wrap (y1.2.2.2.2.2.1 * 4294967296) + IntKind.u64.wrap (y1.2.2.2.2.2.2.2.2 - 1)),(IntKind.u64.wrap
 (IntKind.u64.wrap (IntKind.u64.wrap (y1.2.2.2.2.2.2.2.1 * 4294967296) + y1.2.2.2.2.1) -
 IntKind.u64.wrap (IntKind.u64.wrap (y1.2.2.2.2.2.2.2.2 - 1) * y1.1))).fdiv
 (2 ^ min y1.2.1.toNat 64))))
 (.no))
 (.bi (pj 1
 (qkr
 (y0.1,y0.2.1,y0.2.2.1,y0.2.2.2.1,y0.2.2.2.2.2.2.1,IntKind.u64.wrap (y0.2.2.2.2.2.2.2.1 - 1),
 IntKind.u64.wrap
 (IntKind.u64.wrap
 (IntKind.u64.wrap (IntKind.u64.wrap (y0.2.2.2.2.1 * 4294967296) + y0.2.2.2.2.2.1) -
 IntKind.u64.wrap (IntKind.u64.wrap (y0.2.2.2.2.2.2.2.1 - 1) * y0.1)) -
 IntKind.u64.wrap
 (IntKind.u64.wrap
 ((IntKind.u64.wrap
 (IntKind.u64.wrap (IntKind.u64.wrap (y0.2.2.2.2.1 * 4294967296) + y0.2.2.2.2.2.1) -
 IntKind.u64.wrap (IntKind.u64.wrap (y0.2.2.2.2.2.2.2.1 - 1) * y0.1))).tdiv
 y0.2.2.1) *
 y0.2.2.1)),
 IntKind.u64.wrap
 (IntKind.u64.wrap (IntKind.u64.wrap (y0.2.2.2.2.1 * 4294967296) + y0.2.2.2.2.2.1) -
 IntKind.u64.wrap (IntKind.u64.wrap (y0.2.2.2.2.2.2.2.1 - 1) * y0.1)),
 IntKind.u64.wrap
 ((IntKind.u64.wrap
 (IntKind.u64.wrap (IntKind.u64.wrap (y0.2.2.2.2.1 * 4294967296) + y0.2.2.2.2.2.1) -
 IntKind.u64.wrap (IntKind.u64.wrap (y0.2.2.2.2.2.2.2.1 - 1) * y0.1))).tdiv
 y0.2.2.1)))) (fun y1=>
 .br (decide (0 <= y1.2.1))
 (.at ((IntKind.u64.wrap (IntKind.u64.wrap (y1.2.2.2.2.2.1 * 4294967296) + y1.2.2.2.2.2.2.2.2),(IntKind.u64.wrap
 (IntKind.u64.wrap (IntKind.u64.wrap (y1.2.2.2.2.2.2.2.1 * 4294967296) + y1.2.2.2.2.1) -
 IntKind.u64.wrap (y1.2.2.2.2.2.2.2.2 * y1.1))).fdiv
 (2 ^ min y1.2.1.toNat 64))))
 (.no))
 (.no)))
 (.no))
 (.bi (pj 1
 (qqJ
 (IntKind.u64.wrap (x2 * 2 ^ min (IntKind.u64.wrap (64 - ((Lib.bitLen x2.toNat):Int))).toNat 64),IntKind.u64.wrap (64 - ((Lib.bitLen x2.toNat):Int)),
 (IntKind.u64.wrap (x2 * 2 ^ min (IntKind.u64.wrap (64 - ((Lib.bitLen x2.toNat):Int))).toNat 64)).fdiv (2 ^ 32),
 IntKind.u64.wrap
 ((BitVec.ofInt 64 (IntKind.u64.wrap (x2 * 2 ^ min (IntKind.u64.wrap (64 - ((Lib.bitLen x2.toNat):Int))).toNat 64)) &&& BitVec.ofInt 64 4294967295).toNat:Int),
 IntKind.u64.wrap
 ((BitVec.ofInt 64 (IntKind.u64.wrap (x0 * 2 ^ min (IntKind.u64.wrap (64 - ((Lib.bitLen x2.toNat):Int))).toNat 64)) |||
 BitVec.ofInt 64 (x1.fdiv (2 ^ min (IntKind.u64.wrap (64 - IntKind.u64.wrap (64 - ((Lib.bitLen x2.toNat):Int)))).toNat 64))).toNat :
 Int),
 (IntKind.u64.wrap (x1 * 2 ^ min (IntKind.u64.wrap (64 - ((Lib.bitLen x2.toNat):Int))).toNat 64)).fdiv (2 ^ 32),
 IntKind.u64.wrap
 ((BitVec.ofInt 64 (IntKind.u64.wrap (x1 * 2 ^ min (IntKind.u64.wrap (64 - ((Lib.bitLen x2.toNat):Int))).toNat 64)) &&& BitVec.ofInt 64 4294967295).toNat:Int),
 IntKind.u64.wrap
 ((IntKind.u64.wrap
 ((BitVec.ofInt 64 (IntKind.u64.wrap (x0 * 2 ^ min (IntKind.u64.wrap (64 - ((Lib.bitLen x2.toNat):Int))).toNat 64)) |||
 BitVec.ofInt 64 (x1.fdiv (2 ^ min (IntKind.u64.wrap (64 - IntKind.u64.wrap (64 - ((Lib.bitLen x2.toNat):Int)))).toNat 64))).toNat :
 Int)).tdiv
 ((IntKind.u64.wrap (x2 * 2 ^ min (IntKind.u64.wrap (64 - ((Lib.bitLen x2.toNat):Int))).toNat 64)).fdiv (2 ^ 32))),
 IntKind.u64.wrap
 (IntKind.u64.wrap
 ((BitVec.ofInt 64 (IntKind.u64.wrap (x0 * 2 ^ min (IntKind.u64.wrap (64 - ((Lib.bitLen x2.toNat):Int))).toNat 64)) |||
 BitVec.ofInt 64 (x1.fdiv (2 ^ min (IntKind.u64.wrap (64 - IntKind.u64.wrap (64 - ((Lib.bitLen x2.toNat):Int)))).toNat 64))).toNat :
 Int) -
 IntKind.u64.wrap
 (IntKind.u64.wrap
 ((IntKind.u64.wrap
 ((BitVec.ofInt 64 (IntKind.u64.wrap (x0 * 2 ^ min (IntKind.u64.wrap (64 - ((Lib.bitLen x2.toNat):Int))).toNat 64)) |||
 BitVec.ofInt 64 (x1.fdiv (2 ^ min (IntKind.u64.wrap (64 - IntKind.u64.wrap (64 - ((Lib.bitLen x2.toNat):Int)))).toNat 64))).toNat :
 Int)).tdiv
 ((IntKind.u64.wrap (x2 * 2 ^ min (IntKind.u64.wrap (64 - ((Lib.bitLen x2.toNat):Int))).toNat 64)).fdiv (2 ^ 32))) *
 (IntKind.u64.wrap (x2 * 2 ^ min (IntKind.u64.wrap (64 - ((Lib.bitLen x2.toNat):Int))).toNat 64)).fdiv (2 ^ 32)))))) (fun y0=>
 .br (decide (y0.2.2.1 ≠ 0))
 (.bi (pj 0
 (qkr
 (y0.1,y0.2.1,y0.2.2.1,y0.2.2.2.1,y0.2.2.2.2.2.2.1,y0.2.2.2.2.2.2.2.1,
 IntKind.u64.wrap
 (IntKind.u64.wrap
 (IntKind.u64.wrap (IntKind.u64.wrap (y0.2.2.2.2.1 * 4294967296) + y0.2.2.2.2.2.1) -
 IntKind.u64.wrap (y0.2.2.2.2.2.2.2.1 * y0.1)) -
 IntKind.u64.wrap
 (IntKind.u64.wrap
 ((IntKind.u64.wrap
 (IntKind.u64.wrap (IntKind.u64.wrap (y0.2.2.2.2.1 * 4294967296) + y0.2.2.2.2.2.1) -
 IntKind.u64.wrap (y0.2.2.2.2.2.2.2.1 * y0.1))).tdiv
 y0.2.2.1) *
 y0.2.2.1)),
 IntKind.u64.wrap
 (IntKind.u64.wrap (IntKind.u64.wrap (y0.2.2.2.2.1 * 4294967296) + y0.2.2.2.2.2.1) - IntKind.u64.wrap (y0.2.2.2.2.2.2.2.1 * y0.1)),
 IntKind.u64.wrap
 ((IntKind.u64.wrap
 (IntKind.u64.wrap (IntKind.u64.wrap (y0.2.2.2.2.1 * 4294967296) + y0.2.2.2.2.2.1) -
 IntKind.u64.wrap (y0.2.2.2.2.2.2.2.1 * y0.1))).tdiv
 y0.2.2.1)))) (fun y1=>
 .br (decide (0 <= y1.2.1))
 (.at ((IntKind.u64.wrap (IntKind.u64.wrap (y1.2.2.2.2.2.1 * 4294967296) + IntKind.u64.wrap (y1.2.2.2.2.2.2.2.2 - 1)),(IntKind.u64.wrap
 (IntKind.u64.wrap (IntKind.u64.wrap (y1.2.2.2.2.2.2.2.1 * 4294967296) + y1.2.2.2.2.1) -
 IntKind.u64.wrap (IntKind.u64.wrap (y1.2.2.2.2.2.2.2.2 - 1) * y1.1))).fdiv
 (2 ^ min y1.2.1.toNat 64))))
 (.no))
 (.bi (pj 1
 (qkr
 (y0.1,y0.2.1,y0.2.2.1,y0.2.2.2.1,y0.2.2.2.2.2.2.1,y0.2.2.2.2.2.2.2.1,
 IntKind.u64.wrap
 (IntKind.u64.wrap
 (IntKind.u64.wrap (IntKind.u64.wrap (y0.2.2.2.2.1 * 4294967296) + y0.2.2.2.2.2.1) -
 IntKind.u64.wrap (y0.2.2.2.2.2.2.2.1 * y0.1)) -
 IntKind.u64.wrap
 (IntKind.u64.wrap
 ((IntKind.u64.wrap
 (IntKind.u64.wrap (IntKind.u64.wrap (y0.2.2.2.2.1 * 4294967296) + y0.2.2.2.2.2.1) -
 IntKind.u64.wrap (y0.2.2.2.2.2.2.2.1 * y0.1))).tdiv
 y0.2.2.1) *
 y0.2.2.1)),
 IntKind.u64.wrap
 (IntKind.u64.wrap (IntKind.u64.wrap (y0.2.2.2.2.1 * 4294967296) + y0.2.2.2.2.2.1) - IntKind.u64.wrap (y0.2.2.2.2.2.2.2.1 * y0.1)),
 IntKind.u64.wrap
 ((IntKind.u64.wrap
 (IntKind.u64.wrap (IntKind.u64.wrap (y0.2.2.2.2.1 * 4294967296) + y0.2.2.2.2.2.1) -
 IntKind.u64.wrap (y0.2.2.2.2.2.2.2.1 * y0.1))).tdiv
 y0.2.2.1)))) (fun y1=>
 .br (decide (0 <= y1.2.1))
 (.at ((IntKind.u64.wrap (IntKind.u64.wrap (y1.2.2.2.2.2.1 * 4294967296) + y1.2.2.2.2.2.2.2.2),(IntKind.u64.wrap
 (IntKind.u64.wrap (IntKind.u64.wrap (y1.2.2.2.2.2.2.2.1 * 4294967296) + y1.2.2.2.2.1) -
 IntKind.u64.wrap (y1.2.2.2.2.2.2.2.2 * y1.1))).fdiv
 (2 ^ min y1.2.1.toNat 64))))
 (.no))
 (.no)))
 (.no))
 (.no)))
 (.no))
 (.no))
 (.no))
 (.no))
 (.no))
 (.no))))
def qma (x0 x1 x2:Int):Option qIg:=qaK (qlc x0 x1 x2).ev
theorem qpY (x0 x1 x2):qma x0 x1 x2 = (qlc x0 x1 x2).ev:=qaa _
theorem qRr:FH IP 220 qK0 qL3 (k3 qma):=qaj (F:=qFa) (L:=[(1022000,qBU),(1022001,qBV)]) (t:=(k3 qlc)) qun (qaf (l:=[qai qFa 0,qai qFa 1]) (by kernel_rfl) ⟨qaG (by kernel_rfl) qTP,qaG (by kernel_rfl) qTQ,trivial⟩) (by kernel_rfl) (fun v=>by kernel_rfl) (fun _=>qaa _)
def T45:Tab:=(220,FE qK0 qL3 (k3 qma)) :: T44
theorem qI3:qap IP T45:=⟨qas qRr,qun⟩
abbrev qH8:Type:=Int × Int × Int
def qKS:PArgs:=⟨[.agg [.int .u64,.int .u64],.int .u64],[]⟩
def qLV:List PRes:=[⟨false,.tup [.agg [.int .u64,.int .u64],.int .u64],[]⟩]
def qla (x0 x1 x2:Int):DT qH8:=
 .br (decide (x2 ≠ 0))
 (.bi (qma (x0.tmod x2) x1 x2) (fun y0=>
 .br (decide (x2 ≠ 0)) (.at ((IntKind.u64.wrap (x0.tdiv x2),y0.1,y0.2))) (.no))
 (.no))
 (.no)
def ql9 (x0 x1 x2:Int):Option qH8:=qaK (qla x0 x1 x2).ev
theorem qpS (x0 x1 x2):ql9 x0 x1 x2 = (qla x0 x1 x2).ev:=qaa _
theorem qRj:FH IP 192 qKS qLV (k3 ql9):=fh qVE (k3 qla) qI3
def T46:Tab:=(192,FE qKS qLV (k3 ql9)) :: T45
theorem qI4:qap IP T46:=⟨qas qRj,qI3⟩
abbrev qIj:Type:=Int × Int × Bool
def qK3:PArgs:=⟨[.agg [.int .u64,.int .u64],.int .u64,.int .u64],[]⟩
def qL6:List PRes:=[⟨false,.tup [.agg [.int .u64,.int .u64],.bool],[]⟩]
def qoU (x0 x1:Int) (x2 x3:Int):DT qIj:=
 .br (qeg x1 && qeg x2)
 (.br (qeg x0 && qeg x2)
 (.br (qeg (x1 * x2 % 18446744073709551616) && qeg x3 && decide (0 <= 1))
 (.br (qeg (x0 * x2 % 18446744073709551616) && qeg (IntKind.u64.wrap (x1 * x2 / 18446744073709551616 + (x1 * x2 % 18446744073709551616 + x3 + 0) / 18446744073709551616)) &&
 decide (0 <= 1))
 (.bi (br (x0 * x2 / 18446744073709551616 == 0)
 (some
 ((x0 * x2 % 18446744073709551616 + IntKind.u64.wrap (x1 * x2 / 18446744073709551616 + (x1 * x2 % 18446744073709551616 + x3 + 0) / 18446744073709551616) + 0) /
 18446744073709551616 ==
 0))
 (some false)) (fun y0=>
 .at (((x0 * x2 % 18446744073709551616 + IntKind.u64.wrap (x1 * x2 / 18446744073709551616 + (x1 * x2 % 18446744073709551616 + x3 + 0) / 18446744073709551616) + 0) % 18446744073709551616,(x1 * x2 % 18446744073709551616 + x3 + 0) % 18446744073709551616,y0)))
 (.no))
 (.no))
 (.no))
 (.no))
 (.no)
def qp0 (x0 x1:Int) (x2 x3:Int):Option qIj:=qaK (qoU x0 x1 x2 x3).ev
theorem qRu:FH IP 193 qK3 qL6 (k4 qp0):=fh qVF (k4 qoU) qI4
def T47:Tab:=(193,FE qK3 qL6 (k4 qp0)) :: T46
theorem qI5:qap IP T47:=⟨qas qRu,qI4⟩
abbrev qH9:Type:=Int × Int × Int
def qKT:PArgs:=⟨[.agg [.int .u64,.int .u64],.bool],[]⟩
def qLW:List PRes:=[⟨false,.tup [.agg [.int .i64,.int .u64],.int .i64],[]⟩]
def qlb (x0 x1:Int) (x2:Bool):DT qH9:=
 .bi (br (decide (x0 > 9223372036854775808)) (some true) (br (x0 == 9223372036854775808) (br (!x2) (some true) (some (decide (x1 > 0)))) (some false))) (fun y0=>
 .br (y0)
 (.at ((0,0,6)))
 (.br (x2)
 (.bi (qgl (IntKind.i64.wrap x0) x1) (fun y1=>
 .at ((y1.1,y1.2,0)))
 (.no))
 (.at ((IntKind.i64.wrap x0,x1,0)))))
 (.no)
def qg6 (x0 x1:Int) (x2:Bool):Option qH9:=qaK (qlb x0 x1 x2).ev
theorem qpT (x0 x1 x2):qg6 x0 x1 x2 = (qlb x0 x1 x2).ev:=qaa _
theorem qRk:FH IP 194 qKT qLW (k3 qg6):=fh qVG (k3 qlb) qI5
def T48:Tab:=(194,FE qKT qLW (k3 qg6)) :: T47
theorem qI6:qap IP T48:=⟨qas qRk,qI5⟩
abbrev qyc:Type:=Int × Int × Int × Int
def qDb:PArgs:=⟨[.agg [.int .i64,.int .u64],.int .i64],[]⟩
def qDW:List PRes:=[⟨false,.tup [.agg [.int .i64,.int .u64],.int .i64,.int .i64],[]⟩]
def qht (x0 x1 x2:Int):DT qyc:=
 .br (decide (x2 < 1))
 (.at ((0,0,0,1)))
 (.bi (qmh x0 x1) (fun y0=>
 .bi (ql9 y0.1 y0.2 (IntKind.u64.wrap x2)) (fun y1=>
 .bi (br (decide (x0 < 0)) (some (decide (y1.2.2 > 0))) (some false)) (fun y2=>
 .br (y2)
 (.bi (qp0 y1.1 y1.2.1 1 1) (fun y3=>
 .br (decide (x0 < 0))
 (.bi (qg6 y3.1 y3.2.1 (if true = true then !(y3.1 == 0 && (y3.2.1 == 0 && true)) else y3.1 == 0 && (y3.2.1 == 0 && true))) (fun y4=>
 .at ((y4.1,y4.2.1,IntKind.i64.wrap (IntKind.u64.wrap (IntKind.u64.wrap x2 - y1.2.2)),0)))
 (.no))
 (.bi (qg6 y3.1 y3.2.1 false) (fun y4=>
 .at ((y4.1,y4.2.1,IntKind.i64.wrap (IntKind.u64.wrap (IntKind.u64.wrap x2 - y1.2.2)),0)))
 (.no)))
 (.no))
 (.br (decide (x0 < 0))
 (.bi (qg6 y1.1 y1.2.1 (if true = true then !(y1.1 == 0 && (y1.2.1 == 0 && true)) else y1.1 == 0 && (y1.2.1 == 0 && true))) (fun y3=>
 .at ((y3.1,y3.2.1,IntKind.i64.wrap y1.2.2,0)))
 (.no))
 (.bi (qg6 y1.1 y1.2.1 false) (fun y3=>
 .at ((y3.1,y3.2.1,IntKind.i64.wrap y1.2.2,0)))
 (.no))))
 (.no))
 (.no))
 (.no))
def qhP (x0 x1 x2:Int):Option qyc:=qaK (qht x0 x1 x2).ev
theorem qlV (x0 x1 x2):qhP x0 x1 x2 = (qht x0 x1 x2).ev:=qaa _
theorem qNg:FH IP 152 qDb qDW (k3 qhP):=fh qVr (k3 qht) qI6
def T49:Tab:=(152,FE qDb qDW (k3 qhP)) :: T48
theorem qI7:qap IP T49:=⟨qas qNg,qI6⟩
abbrev qIz:Type:=Int
def qLk:PArgs:=⟨[.agg [.int .i64,.int .u64],.int .i64,.int .i64,.int .i64],[]⟩
def qMn:List PRes:=[⟨false,.int .i64,[]⟩]
def qlf (x0 x1:Int) (x2 x3 x4:Int):DT qIz:=
 .br (decide (x4 < 5))
 (.br (decide (x0 < 0))
 (.br (decide (x4 = Int.ofNat 0))
 (.at (0))
 (.br (decide (x4 = Int.ofNat 1))
 (.at (1))
 (.br (decide (x4 = Int.ofNat 2))
 (.at (0))
 (.br (decide (x4 = Int.ofNat 3))
 (.at (0))
 (.br (decide (x4 = Int.ofNat 4)) (.at (1)) (.no))))))
 (.br (decide (x4 = Int.ofNat 0))
 (.at (0))
 (.br (decide (x4 = Int.ofNat 1))
 (.at (0))
 (.br (decide (x4 = Int.ofNat 2))
 (.at (1))
 (.br (decide (x4 = Int.ofNat 3))
 (.at (0))
 (.br (decide (x4 = Int.ofNat 4)) (.at (1)) (.no)))))))
 (.br (decide (x2 > IntKind.i64.wrap (x3 - x2)))
 (.at (1))
 (.br (decide (x2 < IntKind.i64.wrap (x3 - x2)))
 (.at (0))
 (.br (x4 == 6)
 (.at (IntKind.i64.wrap (IntKind.u64.wrap ((BitVec.ofInt 64 x1 &&& BitVec.ofInt 64 1).toNat:Int))))
 (.br (decide (x0 < 0)) (.at (0)) (.at (1))))))
def qmg (x0 x1:Int) (x2 x3 x4:Int):Option qIz:=qaK (qlf x0 x1 x2 x3 x4).ev
theorem qqa (x0 x1 x2 x3 x4):qmg x0 x1 x2 x3 x4 = (qlf x0 x1 x2 x3 x4).ev:=qaa _
theorem qRL:FH IP 155 qLk qMn (k5 qmg):=fh qVu (k5 qlf) qI7
def T50:Tab:=(155,FE qLk qMn (k5 qmg)) :: T49
theorem qI8:qap IP T50:=⟨qas qRL,qI7⟩
abbrev qyg:Type:=Int × Int
def qDf:PArgs:=⟨[.int .i64],[]⟩
def qD0:List PRes:=[⟨false,.agg [.int .i64,.int .u64],[]⟩]
def qhv (x0:Int):DT qyg:=
 .at ((x0.fdiv (2 ^ 63),IntKind.u64.wrap x0))
def qgu (x0:Int):Option qyg:=qaK (qhv x0).ev
theorem qlX (x0):qgu x0 = (qhv x0).ev:=qaa _
theorem qNk:FH IP 154 qDf qD0 qgu:=fh qVt qhv qI8
def T51:Tab:=(154,FE qDf qD0 qgu) :: T50
theorem qI9:qap IP T51:=⟨qas qNk,qI8⟩
abbrev qyb:Type:=Int × Int × Int
def qDa:PArgs:=⟨[.agg [.int .i64,.int .u64],.agg [.int .i64,.int .u64]],[]⟩
def qDV:List PRes:=[⟨false,.tup [.agg [.int .i64,.int .u64],.int .i64],[]⟩]
def qhs (x0 x1:Int) (x2 x3:Int):DT qyb:=
 .br (qeg x1 && qeg x3 && decide (0 <= 1))
 (.bi (br (if false = true then !decide (x0 < 0) == decide (x2 < 0) else decide (x0 < 0) == decide (x2 < 0))
 (some
 (if true = true then !decide (IntKind.i64.wrap (IntKind.i64.wrap (x0 + x2) + IntKind.i64.wrap ((x1 + x3 + 0) / 18446744073709551616)) < 0) == decide (x0 < 0)
 else decide (IntKind.i64.wrap (IntKind.i64.wrap (x0 + x2) + IntKind.i64.wrap ((x1 + x3 + 0) / 18446744073709551616)) < 0) == decide (x0 < 0)))
 (some false)) (fun y0=>
 .br (y0)
 (.at ((0,0,6)))
 (.at ((IntKind.i64.wrap (IntKind.i64.wrap (x0 + x2) + IntKind.i64.wrap ((x1 + x3 + 0) / 18446744073709551616)),(x1 + x3 + 0) % 18446744073709551616,0))))
 (.no))
 (.no)
def qhO (x0 x1:Int) (x2 x3:Int):Option qyb:=qaK (qhs x0 x1 x2 x3).ev
theorem qlU (x0 x1 x2 x3):qhO x0 x1 x2 x3 = (qhs x0 x1 x2 x3).ev:=qaa _
theorem qNf:FH IP 153 qDa qDV (k4 qhO):=fh qVs (k4 qhs) qI9
def T52:Tab:=(153,FE qDa qDV (k4 qhO)) :: T51
theorem qJa:qap IP T52:=⟨qas qNf,qI9⟩
abbrev qyd:Type:=Int × Bool
def qDc:PArgs:=⟨[.agg [.int .i64,.int .u64]],[]⟩
def qDX:List PRes:=[⟨false,.tup [.int .i64,.bool],[]⟩]
def qhu (x0 x1:Int):DT qyd:=
 .bi (qgu (IntKind.i64.wrap x1)) (fun y0=>
 .br (if true = true then !(y0.1 == x0 && (y0.2 == x1 && true)) else y0.1 == x0 && (y0.2 == x1 && true)) (.at ((0,false))) (.at ((IntKind.i64.wrap x1,true))))
 (.no)
def qgt (x0 x1:Int):Option qyd:=qaK (qhu x0 x1).ev
theorem qlW (x0 x1):qgt x0 x1 = (qhu x0 x1).ev:=qaa _
theorem qNh:FH IP 156 qDc qDX (k2 qgt):=fh qVv (k2 qhu) qJa
def T53:Tab:=(156,FE qDc qDX (k2 qgt)) :: T52
theorem qJb:qap IP T53:=⟨qas qNh,qJa⟩
abbrev qIh:Type:=Int × Int
def qK1:PArgs:=⟨[.agg [.int .i64,.int .u64],.int .i64,.int .i64],[]⟩
def qL4:List PRes:=[⟨false,.tup [.int .i64,.int .i64],[]⟩]
def qld (x0 x1:Int) (x2 x3:Int):DT qIh:=
 .bi (br (decide (x2 < 1)) (some true) (br (sm (qd0 x3)) (some !gv (qd0 x3)) none)) (fun y0=>
 .br (y0)
 (.at ((0,1)))
 (.bi (qhP x0 x1 x2) (fun y1=>
 .br (decide (y1.2.2.1 > 0))
 (.bi (qmg y1.1 y1.2.1 y1.2.2.1 x2 x3) (fun y2=>
 .bi (qgu y2) (fun y3=>
 .bi (qhO y1.1 y1.2.1 y3.1 y3.2) (fun y4=>
 .bi (qgt y4.1 y4.2.1) (fun y5=>
 .br (!y5.2) (.at ((0,6))) (.at ((y5.1,0))))
 (.no))
 (.no))
 (.no))
 (.no))
 (.bi (qgt y1.1 y1.2.1) (fun y2=>
 .br (!y2.2) (.at ((0,6))) (.at ((y2.1,0))))
 (.no)))
 (.no)))
 (.no)
def qj7 (x0 x1:Int) (x2 x3:Int):Option qIh:=qaK (qld x0 x1 x2 x3).ev
theorem qpZ (x0 x1 x2 x3):qj7 x0 x1 x2 x3 = (qld x0 x1 x2 x3).ev:=qaa _
theorem qRs:FH IP 116 qK1 qL4 (k4 qj7):=fh qVi (k4 qld) qJb
def T54:Tab:=(116,FE qK1 qL4 (k4 qj7)) :: T53
theorem qJc:qap IP T54:=⟨qas qRs,qJb⟩
abbrev qHN:Type:=Int
def qKy:PArgs:=⟨[.agg [.int .i64,.int .i64,.int .i64],.int .i64],[]⟩
def qLB:List PRes:=[⟨false,.int .i64,[]⟩]
def qou (x0 x1:Int) (x2 x3:Int):DT qHN:=
 .bi (qhQ x3 (IntKind.i64.wrap (x0 * x1))) (fun y0=>
 .bi (qj7 y0.1 y0.2 12000000 x2) (fun y1=>
 .at (y1.1))
 (.no))
 (.no)
def qir (x0 x1:Int) (x2 x3:Int):Option qHN:=qaK (qou x0 x1 x2 x3).ev
theorem qAb (x0 x1 x2 x3):qir x0 x1 x2 x3 = (qou x0 x1 x2 x3).ev:=qaa _
theorem qQ2:FH IP 86 qKy qLB (k4 qir):=fh F86 (k4 qou) qJc
def T55:Tab:=(86,FE qKy qLB (k4 qir)) :: T54
theorem qyV:qap IP T55:=⟨qas qQ2,qJc⟩
abbrev qdF:Type:=Int × Int × Int × Int × Int × Int × Int
def qBg:List PSt:=[⟨[(1008500,.junk),(1,.int .i64),(3,.int .i64),(4,.ref 0 0 0),(10,.int .i64),(11,.int .i64)],[(0,.box [.int .i64,.int .i64,.int .i64] false)],1,0⟩]
def qG3 (x0 x1:Int) (x2 x3:Int) (x4 x5 x6:Int):X × St:=(.ret,
 ⟨[(1,
 .int .i64
 (if IntKind.i64.wrap (IntKind.i64.wrap (x0 + gv (qir x4 x5 x6 x0)) - x1) > 0 then
 IntKind.i64.wrap (IntKind.i64.wrap (x0 + gv (qir x4 x5 x6 x0)) - x1)
 else 0)),
 (8,.int .i64 0),(9,.bool false)],[],0,0⟩)
def qG4 (x0 x1:Int) (x2 x3:Int) (x4 x5 x6:Int):X × St:=(.exit 0,⟨[(1,.int .i64 x0),(8,.junk),(9,.junk)],[],0,0⟩)
def qUm:List (qdF -> X × St):=[(k7 qG3),(k7 qG4)]
def qrF (x0 x1:Int) (x2 x3:Int) (x4 x5 x6:Int):DT (Rd qdF):=
 .br (decide (x3 < x2))
 (.bi (qir x4 x5 x6 x0) (fun y0=>
 .br (decide ((if IntKind.i64.wrap (IntKind.i64.wrap (x0 + y0) - x1) > 0 then IntKind.i64.wrap (IntKind.i64.wrap (x0 + y0) - x1) else 0) > 1000000000000))
 (.at (.done 0))
 (.at (.next ((if IntKind.i64.wrap (IntKind.i64.wrap (x0 + y0) - x1) > 0 then IntKind.i64.wrap (IntKind.i64.wrap (x0 + y0) - x1) else 0,x1,x2,IntKind.i64.wrap (x3 + 1),x4,x5,x6)))))
 (.no))
 (.at (.done 1))
def qn7:qdF -> DT (Rd qdF):=(fun v=>qrF v.1 v.2.1 v.2.2.1 v.2.2.2.1 v.2.2.2.2.1 v.2.2.2.2.2.1 v.2.2.2.2.2.2)
def qqB (v:qdF):Option (Nat × qdF):=qaK (qat (fun v=>(qn7 v).ev) v)
theorem qqC (v):qqB v = qat (fun v=>(qn7 v).ev) v:=qaa _
def qBO:qdC:=LE (τ:=qdF) (hD qBg) (qqB) qUm
theorem qTJ:Go.Eng.Told IP (qai F85 0).1 (qai F85 0).2 (qBO):=lp (inferInstance:Inhabited qdF) (hs:=qBg) qn7 qyV qqC
end
end Go.Proofs.H35
namespace Go.Proofs.H35
open Go Go.Eng
set_option maxRecDepth 100000
noncomputable section
abbrev qHS:Type:=Int × Bool
def qKC:PArgs:=⟨[.agg [.int .i64,.int .i64,.int .i64],.int .i64,.int .i64,.int .i64],[]⟩
def qLF:List PRes:=[⟨false,.tup [.int .i64,.bool],[]⟩]
def qoz (x0 x1:Int) (x2 x3:Int) (x4 x5:Int):DT qHS:=
 .bi (pj 0 (qqB (x3,x5,x4,0,x0,x1,x2))) (fun y0=>
 .at ((0,false)))
 (.bi (pj 1 (qqB (x3,x5,x4,0,x0,x1,x2))) (fun y0=>
 .at ((y0.1,true)))
 (.no))
def qpK (x0 x1:Int) (x2 x3:Int) (x4 x5:Int):Option qHS:=qaK (qoz x0 x1 x2 x3 x4 x5).ev
theorem qAg (x0 x1 x2 x3 x4 x5):qpK x0 x1 x2 x3 x4 x5 = (qoz x0 x1 x2 x3 x4 x5).ev:=qaa _
theorem qQ6:FH IP 85 qKC qLF (k6 qpK):=qaj (F:=F85) (L:=[(1008500,qBO)]) (t:=(k6 qoz)) qyV (qaf (l:=[qai F85 0]) (by kernel_rfl) ⟨qaG (by kernel_rfl) qTJ,trivial⟩) (by kernel_rfl) (fun v=>by kernel_rfl) (fun _=>qaa _)
def T56:Tab:=(85,FE qKC qLF (k6 qpK)) :: T55
theorem qJd:qap IP T56:=⟨qas qQ6,qyV⟩
abbrev qHX:Type:=Bool × Int × Int × Int × Int × Int × Int
def qKH:PArgs:=⟨[.int .i64,.ref 0 0 0,.ref 1 0 0,.ref 2 0 0,.ref 3 0 0],[(0,.box [.int .i64,.int .i64,.int .i64] false),(1,.box [.int .i64] false),(2,.box [.int .i64] false),(3,.box [.int .i64] false)]⟩
def qLK:List PRes:=[⟨false,.bool,[(0,.box [.int .i64,.int .i64,.int .i64] false),(1,.box [.int .i64] false),(2,.box [.int .i64] false),(3,.box [.int .i64] false)]⟩]
def qoC (x0 x1:Int) (x2 x3:Int) (x4 x5 x6:Int):DT qHX:=
 .bi (qpK x1 x2 x3 x4 x5 x0) (fun y0=>
 .bi (br y0.2 (some (decide (y0.1 <= x6))) (some false)) (fun y1=>
 .at ((y1,x1,x2,x3,x4,x5,x6)))
 (.no))
 (.no)
def ql6 (x0 x1:Int) (x2 x3:Int) (x4 x5 x6:Int):Option qHX:=qaK (qoC x0 x1 x2 x3 x4 x5 x6).ev
theorem qAj (x0 x1 x2 x3 x4 x5 x6):ql6 x0 x1 x2 x3 x4 x5 x6 = (qoC x0 x1 x2 x3 x4 x5 x6).ev:=qaa _
theorem qQ9:FH IP 84 qKH qLK (k7 ql6):=fh F84 (k7 qoC) qJd
def T57:Tab:=(84,FE qKH qLK (k7 ql6)) :: T56
theorem qyW:qap IP T57:=⟨qas qQ9,qJd⟩
abbrev qdH:Type:=Int × Int × Int × Int × Int × Int × Int × Int
def qBk:List PSt:=[⟨[(1005100,.junk),(15,.fn (.func 84) [.ref 0 0 0,.ref 1 0 0,.ref 2 0 0,.ref 3 0 0]),(16,.int .i64),(17,.int .i64)],[(0,.box [.int .i64,.int .i64,.int .i64] false),(1,.box [.int .i64] false),(2,.box [.int .i64] false),(3,.box [.int .i64] false)],4,0⟩]
def qHa (x0 x1:Int) (x2 x3:Int) (x4 x5:Int) (x6 x7:Int):X × St:=(.exit 0,⟨[(17,.int .i64 x1)],[],0,0⟩)
def qUq:List (qdH -> X × St):=[(k8 qHa)]
def qrI (x0 x1:Int) (x2 x3:Int) (x4 x5:Int) (x6 x7:Int):DT (Rd qdH):=
 .br (decide (x0 < x1))
 (.bi (ql6 (IntKind.i64.wrap ((IntKind.i64.wrap (x0 + x1)).tdiv 2)) x2 x3 x4 x5 x6 x7) (fun y0=>
 .br (y0.1)
 (.at (.next ((x0,IntKind.i64.wrap ((IntKind.i64.wrap (x0 + x1)).tdiv 2),y0.2.1,y0.2.2.1,y0.2.2.2.1,y0.2.2.2.2.1,y0.2.2.2.2.2.1,y0.2.2.2.2.2.2))))
 (.at (.next ((IntKind.i64.wrap (IntKind.i64.wrap ((IntKind.i64.wrap (x0 + x1)).tdiv 2) + 1),x1,y0.2.1,y0.2.2.1,y0.2.2.2.1,y0.2.2.2.2.1,y0.2.2.2.2.2.1,y0.2.2.2.2.2.2)))))
 (.no))
 (.at (.done 0))
def qoa:qdH -> DT (Rd qdH):=(fun v=>qrI v.1 v.2.1 v.2.2.1 v.2.2.2.1 v.2.2.2.2.1 v.2.2.2.2.2.1 v.2.2.2.2.2.2.1 v.2.2.2.2.2.2.2)
def qvb (v:qdH):Option (Nat × qdH):=qaK (qat (fun v=>(qoa v).ev) v)
theorem qqG (v):qvb v = qat (fun v=>(qoa v).ev) v:=qaa _
def qBS:qdC:=LE (τ:=qdH) (hD qBk) (qvb) qUq
theorem qTN:Go.Eng.Told IP (qai F51 0).1 (qai F51 0).2 (qBS):=lp (inferInstance:Inhabited qdH) (hs:=qBk) qoa qyW qqG
abbrev qIa:Type:=Int × Int
def qKU:PArgs:=⟨[.int .i64,.int .i64,.int .i64,.int .i64,.int .i64,.int .i64],[]⟩
def qLX:List PRes:=[⟨false,.tup [.int .i64,.int .i64],[]⟩]
def qoN (x0 x1:Int) (x2 x3:Int) (x4 x5:Int):DT qIa:=
 .bi (ql3 x1 x2 x3 x0) (fun y0=>
 .bi (br (!y0) (some true) (some (decide (x4 < 1)))) (fun y1=>
 .bi (br y1 (some true) (some (decide (x4 > 120)))) (fun y2=>
 .bi (br y2 (some true) (some (decide (x5 < 0)))) (fun y3=>
 .bi (br y3 (some true) (some (decide (x5 > x0)))) (fun y4=>
 .br (y4)
 (.at ((0,1)))
 (.bi (ql6 1000000000000 x1 x2 x3 x0 x4 x5) (fun y5=>
 .br (!y5.1)
 (.at ((0,6)))
 (.bi (pj 0 (qvb (0,1000000000000,y5.2.1,y5.2.2.1,y5.2.2.2.1,y5.2.2.2.2.1,y5.2.2.2.2.2.1,y5.2.2.2.2.2.2))) (fun y6=>
 .at ((y6.2.1,0)))
 (.no)))
 (.no)))
 (.no))
 (.no))
 (.no))
 (.no))
 (.no)
def qpU (x0 x1:Int) (x2 x3:Int) (x4 x5:Int):Option qIa:=qaK (qoN x0 x1 x2 x3 x4 x5).ev
theorem qAu (x0 x1 x2 x3 x4 x5):qpU x0 x1 x2 x3 x4 x5 = (qoN x0 x1 x2 x3 x4 x5).ev:=qaa _
theorem qRl:FH IP 51 qKU qLX (k6 qpU):=qaj (F:=F51) (L:=[(1005100,qBS)]) (t:=(k6 qoN)) qyW (qaf (l:=[qai F51 0]) (by kernel_rfl) ⟨qaG (by kernel_rfl) qTN,trivial⟩) (by kernel_rfl) (fun v=>by kernel_rfl) (fun _=>qaa _)
def T58:Tab:=(51,FE qKU qLX (k6 qpU)) :: T57
theorem qJe:qap IP T58:=⟨qas qRl,qyW⟩
abbrev qH1:Type:=Int × Int
def qKL:PArgs:=⟨[.int .i64,.int .i64,.int .i64,.int .i64],[]⟩
def qLO:List PRes:=[⟨false,.tup [.int .i64,.int .i64],[]⟩]
def qoG (x0 x1:Int) (x2 x3:Int):DT qH1:=
 .bi (ql3 x1 x2 x3 x0) (fun y0=>
 .br (!y0)
 (.at ((0,1)))
 (.bi (qir x1 x2 x3 x0) (fun y1=>
 .at ((y1,0)))
 (.no)))
 (.no)
def qds (x0 x1:Int) (x2 x3:Int):Option qH1:=qaK (qoG x0 x1 x2 x3).ev
theorem qAn (x0 x1 x2 x3):qds x0 x1 x2 x3 = (qoG x0 x1 x2 x3).ev:=qaa _
theorem qRc:FH IP 52 qKL qLO (k4 qds):=fh F52 (k4 qoG) qJe
def T59:Tab:=(52,FE qKL qLO (k4 qds)) :: T58
theorem qJf:qap IP T59:=⟨qas qRc,qJe⟩
abbrev qHW:Type:=Int
def qKG:PArgs:=⟨[.agg [.int .i64,.int .i64,.int .i64,.int .i64,.int .i64,.int .i64,.int .i64,.int .i64,.int .i64,.int .i64,.str,.str],.int .i64,.int .i64,.int .i64,.int .i64],[]⟩
def qLJ:List PRes:=[⟨false,.int .i64,[]⟩]
def qoB (x0 x1:Int) (x2 x3:Int) (x4 x5:Int) (x6 x7:Int) (x8 x9:Int) (x10 x11:List UInt8) (x12 x13:Int) (x14 x15:Int):DT qHW:=
 .br (x0 == 2)
 (.br (decide (x5 ≠ 0))
 (.br (decide (x5 ≠ 0))
 (.br (decide (x12 < x1.tmod x5)) (.at (IntKind.i64.wrap (IntKind.i64.wrap (x1.tdiv x5) + 1))) (.at (IntKind.i64.wrap (x1.tdiv x5))))
 (.no))
 (.no))
 (.br (x0 == 3) (.at (0)) (.at (if x13 < IntKind.i64.wrap (x15 - x14) then x13 else IntKind.i64.wrap (x15 - x14))))
def ql5 (x0 x1:Int) (x2 x3:Int) (x4 x5:Int) (x6 x7:Int) (x8 x9:Int) (x10 x11:List UInt8) (x12 x13:Int) (x14 x15:Int):Option qHW:=qaK (qoB x0 x1 x2 x3 x4 x5 x6 x7 x8 x9 x10 x11 x12 x13 x14 x15).ev
theorem qAi (x0 x1 x2 x3 x4 x5 x6 x7 x8 x9 x10 x11 x12 x13 x14 x15):ql5 x0 x1 x2 x3 x4 x5 x6 x7 x8 x9 x10 x11 x12 x13 x14 x15 = (qoB x0 x1 x2 x3 x4 x5 x6 x7 x8 x9 x10 x11 x12 x13 x14 x15).ev:=qaa _
theorem qQ8:FH IP 53 qKG qLJ (k16 ql5):=fh F53 (k16 qoB) qJf
def T60:Tab:=(53,FE qKG qLJ (k16 ql5)) :: T59
theorem qyX:qap IP T60:=⟨qas qQ8,qJf⟩
abbrev qcl:Type:=(List AV × Int × Int × Nat × List AV × Int × Int × Int × Int × Int × Int × Int × Int × Int × Int × Int × Int × List UInt8 × List UInt8 × List AV) ⊕ (List AV × Int × Int × List AV × Int × Int × Int × Int × Int × Int × Int × Int × Int × Int × Int × Int × List UInt8 × List UInt8 × List AV)
def qBo:List PSt:=[⟨[(1001700,.junk),(2,.ref 0 0 0),(6,.view 1),(8,.int .i64),(9,.int .i64),(10,.ownn 1 0),(57,.view 1),(58,.int .i64),(59,.int .i64)],[(0,.box [.int .i64,.int .i64,.int .i64,.int .i64,.int .i64,.int .i64,.int .i64,.int .i64,.int .i64,.int .i64,.str,.str] false),(1,.arr 4 false)],2,0⟩,⟨[(1001700,.junk),(2,.ref 0 0 0),(6,.view 1),(8,.int .i64),(9,.int .i64),(10,.own 1 0),(57,.view 1),(58,.int .i64),(59,.int .i64)],[(0,.box [.int .i64,.int .i64,.int .i64,.int .i64,.int .i64,.int .i64,.int .i64,.int .i64,.int .i64,.int .i64,.str,.str] false),(1,.arr 4 false)],2,0⟩]
def qHh (x0:List AV) (x1 x2:Int) (x3:Nat) (x4:List AV) (x5 x6:Int) (x7 x8:Int) (x9 x10:Int) (x11 x12:Int) (x13 x14:Int) (x15 x16:Int) (x17 x18:List UInt8) (x19:List AV):X × St:=(.ret,
 ⟨[(4,.nils ⟨4,.nil⟩),(5,.int .i64 (gv (qds x2 x9 x11 x14)).2),(10,.own 0 0 (some x3))],[(0,.arr 4 x19 false)],1,0⟩)
def qHi (x0:List AV) (x1 x2:Int) (x3:Nat) (x4:List AV) (x5 x6:Int) (x7 x8:Int) (x9 x10:Int) (x11 x12:Int) (x13 x14:Int) (x15 x16:Int) (x17 x18:List UInt8) (x19:List AV):X × St:=(.exit 0,⟨[(4,.junk),(5,.junk),(10,.own 0 0 (some x3))],[(0,.arr 4 x19 false)],1,0⟩)
def qHj (x0:List AV) (x1 x2:Int) (x3:List AV) (x4 x5:Int) (x6 x7:Int) (x8 x9:Int) (x10 x11:Int) (x12 x13:Int) (x14 x15:Int) (x16 x17:List UInt8) (x18:List AV):X × St:=(.ret,
 ⟨[(4,.nils ⟨4,.nil⟩),(5,.int .i64 (gv (qds x2 x8 x10 x13)).2),(10,.own 0 0 none)],[(0,.arr 4 x18 false)],1,0⟩)
def qHk (x0:List AV) (x1 x2:Int) (x3:List AV) (x4 x5:Int) (x6 x7:Int) (x8 x9:Int) (x10 x11:Int) (x12 x13:Int) (x14 x15:Int) (x16 x17:List UInt8) (x18:List AV):X × St:=(.exit 0,⟨[(4,.junk),(5,.junk),(10,.own 0 0 none)],[(0,.arr 4 x18 false)],1,0⟩)
def qUu:List (qcl -> X × St):=[fun w=>(k20 qHh) ((sl w)),fun w=>(k20 qHi) ((sl w)),fun w=>(k19 qHj) ((sr w)),fun w=>(k19 qHk) ((sr w))]
def qkW (x0:List AV) (x1 x2:Int) (x3:Nat) (x4:List AV) (x5 x6:Int) (x7 x8:Int) (x9 x10:Int) (x11 x12:Int) (x13 x14:Int) (x15 x16:Int) (x17 x18:List UInt8) (x19:List AV):DT (Rd qcl):=
 .br (decide (x6 < x5))
 (.br (qcO [.int .i64] x4 x6)
 (.bi (qds x2 x9 x11 x14) (fun y0=>
 .br (y0.2 != 0)
 (.at (.done 0))
 (.br (decide (x6 < IntKind.i64.wrap ((x0.length:Int) - 1)))
 (.bi (ql5 x7 x8 x9 x10 x11 x12 x13 x14 x15 x16 x17 x18 x6 x2 y0.1 x1) (fun y1=>
 .br (decide (0 + x3 + 1 <= x19.length) && decide (4 = 4))
 (.at (.next ((.inl (x0,x1,IntKind.i64.wrap (x2 - y1),x3 + 1,x4,x5,IntKind.i64.wrap (x6 + 1),x7,x8,x9,x10,x11,x12,x13,x14,x15,x16,x17,x18,List.take (0 + x3) x19 ++
 [AV.agg [.int .i64 (IntKind.i64.wrap (x6 + 1)),.int .i64 (intOf (cellAt x4 x6 0)),.int .i64 y1,.int .i64 y0.1]] ++
 List.drop (0 + x3 + 1) x19)))))
 (.br (decide (x19.length < 0 + x3 + 1) && (decide (0 + x3 <= x19.length) && room (x3 + 1) 32))
 (.at (.next ((.inr (x0,x1,IntKind.i64.wrap (x2 - y1),x4,x5,IntKind.i64.wrap (x6 + 1),x7,x8,x9,x10,x11,x12,x13,x14,x15,x16,x17,x18,List.take x3 x19 ++ [AV.agg [.int .i64 (IntKind.i64.wrap (x6 + 1)),.int .i64 (intOf (cellAt x4 x6 0)),.int .i64 y1,.int .i64 y0.1]])))))
 (.no)))
 (.no))
 (.br (decide (0 + x3 + 1 <= x19.length) && decide (4 = 4))
 (.at (.next ((.inl (x0,x1,IntKind.i64.wrap (x2 - x2),x3 + 1,x4,x5,IntKind.i64.wrap (x6 + 1),x7,x8,x9,x10,x11,x12,x13,x14,x15,x16,x17,x18,List.take (0 + x3) x19 ++
 [AV.agg [.int .i64 (IntKind.i64.wrap (x6 + 1)),.int .i64 (intOf (cellAt x4 x6 0)),.int .i64 x2,.int .i64 y0.1]] ++
 List.drop (0 + x3 + 1) x19)))))
 (.br (decide (x19.length < 0 + x3 + 1) && (decide (0 + x3 <= x19.length) && room (x3 + 1) 32))
 (.at (.next ((.inr (x0,x1,IntKind.i64.wrap (x2 - x2),x4,x5,IntKind.i64.wrap (x6 + 1),x7,x8,x9,x10,x11,x12,x13,x14,x15,x16,x17,x18,List.take x3 x19 ++ [AV.agg [.int .i64 (IntKind.i64.wrap (x6 + 1)),.int .i64 (intOf (cellAt x4 x6 0)),.int .i64 x2,.int .i64 y0.1]])))))
 (.no)))))
 (.no))
 (.no))
 (.at (.done 1))
def qEi (x0:List AV) (x1 x2:Int) (x3:List AV) (x4 x5:Int) (x6 x7:Int) (x8 x9:Int) (x10 x11:Int) (x12 x13:Int) (x14 x15:Int) (x16 x17:List UInt8) (x18:List AV):DT (Rd qcl):=
 .br (decide (x5 < x4))
 (.br (qcO [.int .i64] x3 x5)
 (.bi (qds x2 x8 x10 x13) (fun y0=>
 .br (y0.2 != 0)
 (.at (.done 2))
 (.br (decide (x5 < IntKind.i64.wrap ((x0.length:Int) - 1)))
 (.bi (ql5 x6 x7 x8 x9 x10 x11 x12 x13 x14 x15 x16 x17 x5 x2 y0.1 x1) (fun y1=>
 .br (room (x18.length + 1) 32)
 (.at (.next ((.inr (x0,x1,IntKind.i64.wrap (x2 - y1),x3,x4,IntKind.i64.wrap (x5 + 1),x6,x7,x8,x9,x10,x11,x12,x13,x14,x15,x16,x17,x18 ++ [AV.agg [.int .i64 (IntKind.i64.wrap (x5 + 1)),.int .i64 (intOf (cellAt x3 x5 0)),.int .i64 y1,.int .i64 y0.1]])))))
 (.no))
 (.no))
 (.br (room (x18.length + 1) 32)
 (.at (.next ((.inr (x0,x1,IntKind.i64.wrap (x2 - x2),x3,x4,IntKind.i64.wrap (x5 + 1),x6,x7,x8,x9,x10,x11,x12,x13,x14,x15,x16,x17,x18 ++ [AV.agg [.int .i64 (IntKind.i64.wrap (x5 + 1)),.int .i64 (intOf (cellAt x3 x5 0)),.int .i64 x2,.int .i64 y0.1]])))))
 (.no))))
 (.no))
 (.no))
 (.at (.done 3))
def qtc:qcl -> DT (Rd qcl):=(Sum.elim (fun v=>qkW v.1 v.2.1 v.2.2.1 v.2.2.2.1 v.2.2.2.2.1 v.2.2.2.2.2.1 v.2.2.2.2.2.2.1 v.2.2.2.2.2.2.2.1 v.2.2.2.2.2.2.2.2.1 v.2.2.2.2.2.2.2.2.2.1 v.2.2.2.2.2.2.2.2.2.2.1 v.2.2.2.2.2.2.2.2.2.2.2.1 v.2.2.2.2.2.2.2.2.2.2.2.2.1 v.2.2.2.2.2.2.2.2.2.2.2.2.2.1 v.2.2.2.2.2.2.2.2.2.2.2.2.2.2.1 v.2.2.2.2.2.2.2.2.2.2.2.2.2.2.2.1 v.2.2.2.2.2.2.2.2.2.2.2.2.2.2.2.2.1 v.2.2.2.2.2.2.2.2.2.2.2.2.2.2.2.2.2.1 v.2.2.2.2.2.2.2.2.2.2.2.2.2.2.2.2.2.2.1 v.2.2.2.2.2.2.2.2.2.2.2.2.2.2.2.2.2.2.2) (fun v=>qEi v.1 v.2.1 v.2.2.1 v.2.2.2.1 v.2.2.2.2.1 v.2.2.2.2.2.1 v.2.2.2.2.2.2.1 v.2.2.2.2.2.2.2.1 v.2.2.2.2.2.2.2.2.1 v.2.2.2.2.2.2.2.2.2.1 v.2.2.2.2.2.2.2.2.2.2.1 v.2.2.2.2.2.2.2.2.2.2.2.1 v.2.2.2.2.2.2.2.2.2.2.2.2.1 v.2.2.2.2.2.2.2.2.2.2.2.2.2.1 v.2.2.2.2.2.2.2.2.2.2.2.2.2.2.1 v.2.2.2.2.2.2.2.2.2.2.2.2.2.2.2.1 v.2.2.2.2.2.2.2.2.2.2.2.2.2.2.2.2.1 v.2.2.2.2.2.2.2.2.2.2.2.2.2.2.2.2.2.1 v.2.2.2.2.2.2.2.2.2.2.2.2.2.2.2.2.2.2))
def qc9 (v:qcl):Option (Nat × qcl):=qaK (qat (fun v=>(qtc v).ev) v)
theorem qqM (v):qc9 v = qat (fun v=>(qtc v).ev) v:=qaa _
def qBW:qdC:=LE (τ:=qcl) (hD qBo) (qc9) qUu
theorem qTR:Go.Eng.Told IP (qai F17 0).1 (qai F17 0).2 (qBW):=qaF (inferInstance:Inhabited qcl) (hs:=qBo) (st:=qtc) (L:=[]) qyX (qaf (l:=[]) (by kernel_rfl) trivial) (qqM) (fun v=>match v with | (.inl v)=>by kernel_rfl | (.inr v)=>by kernel_rfl) (fun v=>match v with | (.inl v)=>by kernel_rfl | (.inr v)=>by kernel_rfl)
abbrev qtp:Type:=List AV × Int
def qLa:PArgs:=⟨[.agg [.int .i64,.int .i64,.int .i64,.int .i64,.int .i64,.int .i64,.int .i64,.int .i64,.int .i64,.int .i64,.str,.str],.agg [.str,.view 1,.view 1]],[]⟩
def qMd:List PRes:=[⟨false,.tup [.view 4,.int .i64],[]⟩]
def qo0 (x0 x1:Int) (x2 x3:Int) (x4 x5:Int) (x6 x7:Int) (x8 x9:Int) (x10 x11 x12:List UInt8) (x13 x14:List AV):DT qtp:=
 .bi (qqb x0 x1 x2 x3 x4 x5 x6 x7 x8 x9 x10 x11 x12 x13 x14) (fun y0=>
 .br (y0.2 != 0)
 (.at (([],y0.2)))
 (.bi (br (x0 == 1) (some true) (some (x0 == 4))) (fun y1=>
 .br (y1)
 (.bi (qpU x1 x2 x4 x7 x5 x6) (fun y2=>
 .br (y2.2 != 0)
 (.at (([],y2.2)))
 (.br (decide (0 <= (y0.1.length:Int)) && room (y0.1.length:Int).toNat 32 && decide ((y0.1.length:Int) <= 4611686018427387904))
 (.bi (pj 0
 (qc9
 (Sum.inl
 (y0.1,y2.1,x1,0,y0.1,(y0.1.length:Int),0,x0,x1,x2,x3,x4,x5,x6,x7,x8,x9,x10,x11,
 List.replicate (y0.1.length:Int).toNat (AV.agg [.int .i64 0,.int .i64 0,.int .i64 0,.int .i64 0]))))) (fun y3=>
 .at (([],(gv
 (qds (sl y3).2.2.1 (sl y3).2.2.2.2.2.2.2.2.2.1 (sl y3).2.2.2.2.2.2.2.2.2.2.2.1
 (sl y3).2.2.2.2.2.2.2.2.2.2.2.2.2.2.1)).2)))
 (.bi (pj 1
 (qc9
 (Sum.inl
 (y0.1,y2.1,x1,0,y0.1,(y0.1.length:Int),0,x0,x1,x2,x3,x4,x5,x6,x7,x8,x9,x10,x11,
 List.replicate (y0.1.length:Int).toNat (AV.agg [.int .i64 0,.int .i64 0,.int .i64 0,.int .i64 0]))))) (fun y3=>
 .br (qcF [(0,Blk.arr 4 (sl y3).2.2.2.2.2.2.2.2.2.2.2.2.2.2.2.2.2.2.2 false)] qbl
 (AV.tup [AV.own 0 0 (some (sl y3).2.2.2.1),.int .i64 0]))
 (.at ((List.take (sl y3).2.2.2.1 (sl y3).2.2.2.2.2.2.2.2.2.2.2.2.2.2.2.2.2.2.2,0)))
 (.no))
 (.bi (pj 2
 (qc9
 (Sum.inl
 (y0.1,y2.1,x1,0,y0.1,(y0.1.length:Int),0,x0,x1,x2,x3,x4,x5,x6,x7,x8,x9,x10,x11,
 List.replicate (y0.1.length:Int).toNat (AV.agg [.int .i64 0,.int .i64 0,.int .i64 0,.int .i64 0]))))) (fun y3=>
 .at (([],(gv
 (qds (sr y3).2.2.1 (sr y3).2.2.2.2.2.2.2.2.1 (sr y3).2.2.2.2.2.2.2.2.2.2.1
 (sr y3).2.2.2.2.2.2.2.2.2.2.2.2.2.1)).2)))
 (.bi (pj 3
 (qc9
 (Sum.inl
 (y0.1,y2.1,x1,0,y0.1,(y0.1.length:Int),0,x0,x1,x2,x3,x4,x5,x6,x7,x8,x9,x10,x11,
 List.replicate (y0.1.length:Int).toNat (AV.agg [.int .i64 0,.int .i64 0,.int .i64 0,.int .i64 0]))))) (fun y3=>
 .at (((sr y3).2.2.2.2.2.2.2.2.2.2.2.2.2.2.2.2.2.2,0)))
 (.no)))))
 (.no)))
 (.no))
 (.br (decide (0 <= (y0.1.length:Int)) && room (y0.1.length:Int).toNat 32 && decide ((y0.1.length:Int) <= 4611686018427387904))
 (.bi (pj 0
 (qc9
 (Sum.inl
 (y0.1,0,x1,0,y0.1,(y0.1.length:Int),0,x0,x1,x2,x3,x4,x5,x6,x7,x8,x9,x10,x11,
 List.replicate (y0.1.length:Int).toNat (AV.agg [.int .i64 0,.int .i64 0,.int .i64 0,.int .i64 0]))))) (fun y2=>
 .at (([],(gv
 (qds (sl y2).2.2.1 (sl y2).2.2.2.2.2.2.2.2.2.1 (sl y2).2.2.2.2.2.2.2.2.2.2.2.1
 (sl y2).2.2.2.2.2.2.2.2.2.2.2.2.2.2.1)).2)))
 (.bi (pj 1
 (qc9
 (Sum.inl
 (y0.1,0,x1,0,y0.1,(y0.1.length:Int),0,x0,x1,x2,x3,x4,x5,x6,x7,x8,x9,x10,x11,
 List.replicate (y0.1.length:Int).toNat (AV.agg [.int .i64 0,.int .i64 0,.int .i64 0,.int .i64 0]))))) (fun y2=>
 .br (qcF [(0,Blk.arr 4 (sl y2).2.2.2.2.2.2.2.2.2.2.2.2.2.2.2.2.2.2.2 false)] qbl
 (AV.tup [AV.own 0 0 (some (sl y2).2.2.2.1),.int .i64 0]))
 (.at ((List.take (sl y2).2.2.2.1 (sl y2).2.2.2.2.2.2.2.2.2.2.2.2.2.2.2.2.2.2.2,0)))
 (.no))
 (.bi (pj 2
 (qc9
 (Sum.inl
 (y0.1,0,x1,0,y0.1,(y0.1.length:Int),0,x0,x1,x2,x3,x4,x5,x6,x7,x8,x9,x10,x11,
 List.replicate (y0.1.length:Int).toNat (AV.agg [.int .i64 0,.int .i64 0,.int .i64 0,.int .i64 0]))))) (fun y2=>
 .at (([],(gv
 (qds (sr y2).2.2.1 (sr y2).2.2.2.2.2.2.2.2.1 (sr y2).2.2.2.2.2.2.2.2.2.2.1
 (sr y2).2.2.2.2.2.2.2.2.2.2.2.2.2.1)).2)))
 (.bi (pj 3
 (qc9
 (Sum.inl
 (y0.1,0,x1,0,y0.1,(y0.1.length:Int),0,x0,x1,x2,x3,x4,x5,x6,x7,x8,x9,x10,x11,
 List.replicate (y0.1.length:Int).toNat (AV.agg [.int .i64 0,.int .i64 0,.int .i64 0,.int .i64 0]))))) (fun y2=>
 .at (((sr y2).2.2.2.2.2.2.2.2.2.2.2.2.2.2.2.2.2.2,0)))
 (.no)))))
 (.no)))
 (.no)))
 (.no)
def qp5 (x0 x1:Int) (x2 x3:Int) (x4 x5:Int) (x6 x7:Int) (x8 x9:Int) (x10 x11 x12:List UInt8) (x13 x14:List AV):Option qtp:=qaK (qo0 x0 x1 x2 x3 x4 x5 x6 x7 x8 x9 x10 x11 x12 x13 x14).ev
theorem qAH (x0 x1 x2 x3 x4 x5 x6 x7 x8 x9 x10 x11 x12 x13 x14):qp5 x0 x1 x2 x3 x4 x5 x6 x7 x8 x9 x10 x11 x12 x13 x14 = (qo0 x0 x1 x2 x3 x4 x5 x6 x7 x8 x9 x10 x11 x12 x13 x14).ev:=qaa _
theorem qRB:FH IP 17 qLa qMd (k15 qp5):=qaj (F:=F17) (L:=[(1001700,qBW)]) (t:=(k15 qo0)) qyX (qaf (l:=[qai F17 0]) (by kernel_rfl) ⟨qaG (by kernel_rfl) qTR,trivial⟩) (by kernel_rfl) (fun v=>by kernel_rfl) (fun _=>qaa _)
def T61:Tab:=(17,FE qLa qMd (k15 qp5)) :: T60
theorem qJg:qap IP T61:=⟨qas qRB,qyX⟩
abbrev qIy:Type:=Int × Int × Int × Int × Int × Int × Int × Int × Int × Int × Int × Int × Int × Int × Int × Int × Int × Int × Int × Int × Int × List UInt8 × List UInt8 × List AV × List AV × Int
def qLj:PArgs:=⟨[.int .i64,.int .i64,.agg [.int .i64,.int .i64,.int .i64,.int .i64,.int .i64,.int .i64,.int .i64,.int .i64,.int .i64,.int .i64,.str,.str],.agg [.str,.view 1,.view 1]],[]⟩
def qMm:List PRes:=[⟨false,.tup [.agg [.int .i64,.int .i64,.int .i64,.int .i64,.int .i64,.int .i64,.int .i64,.int .i64,.int .i64,.int .i64,.int .i64,.int .i64,.int .i64,.int .i64,.int .i64,.int .i64,.int .i64,.int .i64,.int .i64,.int .i64,.int .i64,.str,.str,.view 4,.view 14],.int .i64],[]⟩]
def qo9 (x0 x1:Int) (x2 x3:Int) (x4 x5:Int) (x6 x7:Int) (x8 x9:Int) (x10 x11:Int) (x12 x13 x14:List UInt8) (x15 x16:List AV):DT qIy:=
 .bi (br (decide (x0 < 1)) (some true) (some (decide (x1 < 1000)))) (fun y0=>
 .br (y0)
 (.at ((0,0,0,0,0,0,0,0,0,0,0,0,0,0,0,0,0,0,0,0,0,[],[],[],[],1)))
 (.bi (qp5 x2 x3 x4 x5 x6 x7 x8 x9 x10 x11 x12 x13 x14 x15 x16) (fun y1=>
 .br (y1.2 != 0)
 (.at ((0,0,0,0,0,0,0,0,0,0,0,0,0,0,0,0,0,0,0,0,0,[],[],[],[],y1.2)))
 (.at ((x0,x1,1,0,0,0,0,x5,0,0,0,x2,x3,x4,x5,x6,x7,x8,x9,x10,x11,x12,x13,y1.1,[],0))))
 (.no)))
 (.no)
def qp9 (x0 x1:Int) (x2 x3:Int) (x4 x5:Int) (x6 x7:Int) (x8 x9:Int) (x10 x11:Int) (x12 x13 x14:List UInt8) (x15 x16:List AV):Option qIy:=qaK (qo9 x0 x1 x2 x3 x4 x5 x6 x7 x8 x9 x10 x11 x12 x13 x14 x15 x16).ev
theorem qAQ (x0 x1 x2 x3 x4 x5 x6 x7 x8 x9 x10 x11 x12 x13 x14 x15 x16):qp9 x0 x1 x2 x3 x4 x5 x6 x7 x8 x9 x10 x11 x12 x13 x14 x15 x16 = (qo9 x0 x1 x2 x3 x4 x5 x6 x7 x8 x9 x10 x11 x12 x13 x14 x15 x16).ev:=qaa _
theorem qRK:FH IP 6 qLj qMm (k17 qp9):=fh F6 (k17 qo9) qJg
def T62:Tab:=(6,FE qLj qMm (k17 qp9)) :: T61
theorem qyY:qap IP T62:=⟨qas qRK,qJg⟩
abbrev qen:Type:=List AV × Int × Int × Int
def qBj:List PSt:=[⟨[(1000800,.junk),(0,.view 2),(1,.int .i64),(5,.int .i64),(6,.int .i64)],[],0,0⟩]
def qG9 (x0:List AV) (x1 x2 x3:Int):X × St:=(.exit 0,⟨[(5,.int .i64 x2)],[],0,0⟩)
def qUp:List (qen -> X × St):=[(k4 qG9)]
def qkV (x0:List AV) (x1 x2 x3:Int):DT (Rd qen):=
 .br (decide (x3 < (x0.length:Int)))
 (.br (qcO [.int .i64,.int .i64] x0 x3)
 (.br (intOf (cellAt x0 x3 0) == x1)
 (.br (qcO [.int .i64,.int .i64] x0 x3) (.at (.next ((x0,x1,IntKind.i64.wrap (x2 + intOf (cellAt x0 x3 1)),IntKind.i64.wrap (x3 + 1))))) (.no))
 (.at (.next ((x0,x1,x2,IntKind.i64.wrap (x3 + 1))))))
 (.no))
 (.at (.done 0))
def qig:qen -> DT (Rd qen):=(fun v=>qkV v.1 v.2.1 v.2.2.1 v.2.2.2)
def qva (v:qen):Option (Nat × qen):=qaK (qat (fun v=>(qig v).ev) v)
theorem qqF (v):qva v = qat (fun v=>(qig v).ev) v:=qaa _
def qBR:qdC:=LE (τ:=qen) (hD qBj) (qva) qUp
theorem qTM:Go.Eng.Told IP (qai F8 0).1 (qai F8 0).2 (qBR):=lp (inferInstance:Inhabited qen) (hs:=qBj) qig qyY qqF
abbrev qH4:Type:=Int
def qKO:PArgs:=⟨[.view 2,.int .i64],[]⟩
def qLR:List PRes:=[⟨false,.int .i64,[]⟩]
def qoJ (x0:List AV) (x1:Int):DT qH4:=
 .bi (pj 0 (qva (x0,x1,0,0))) (fun y0=>
 .at (y0.2.2.1))
 (.no)
def ql8 (x0:List AV) (x1:Int):Option qH4:=qaK (qoJ x0 x1).ev
theorem qAq (x0 x1):ql8 x0 x1 = (qoJ x0 x1).ev:=qaa _
theorem qRf:FH IP 8 qKO qLR (k2 ql8):=qaj (F:=F8) (L:=[(1000800,qBR)]) (t:=(k2 qoJ)) qyY (qaf (l:=[qai F8 0]) (by kernel_rfl) ⟨qaG (by kernel_rfl) qTM,trivial⟩) (by kernel_rfl) (fun v=>by kernel_rfl) (fun _=>qaa _)
def T63:Tab:=(8,FE qKO qLR (k2 ql8)) :: T62
theorem qyZ:qap IP T63:=⟨qas qRf,qyY⟩
abbrev qdD:Type:=Int × Int × Int × Int × Int × Int × Int × Int × Int × Int × Int × Int × Int × Int × List UInt8 × List UInt8 × Int × Int × Int × Int × Int × Int × Int × Int × Int × Int × Int × Int × Int × Int × Int × Int × Int × Int × Int × Int × Int × List UInt8 × List UInt8 × List AV × List AV
def qBd:List PSt:=[⟨[(1000300,.junk),(3,.ref 0 0 0),(7,.ref 1 0 0),(9,.int .i64),(10,.int .i64),(11,.int .i64),(12,.int .i64)],[(0,.box [.int .i64,.int .i64,.int .i64,.int .i64,.int .i64,.int .i64,.int .i64,.int .i64,.int .i64,.int .i64,.str,.str] false),(1,.box [.int .i64,.int .i64,.int .i64,.int .i64,.int .i64,.int .i64,.int .i64,.int .i64,.int .i64,.int .i64,.int .i64,.int .i64,.int .i64,.int .i64,.int .i64,.int .i64,.int .i64,.int .i64,.int .i64,.int .i64,.int .i64,.str,.str,.view 4,.view 14] false)],2,0⟩]
def qGZ (x0 x1:Int) (x2 x3:Int) (x4 x5:Int) (x6 x7:Int) (x8 x9:Int) (x10 x11:Int) (x12 x13:Int) (x14 x15:List UInt8) (x16 x17:Int) (x18 x19:Int) (x20 x21:Int) (x22 x23:Int) (x24 x25:Int) (x26 x27:Int) (x28 x29:Int) (x30 x31:Int) (x32 x33:Int) (x34 x35 x36:Int) (x37 x38:List UInt8) (x39 x40:List AV):X × St:=(.exit 0,
 ⟨[(3,.ref 0 0 0),(7,.ref 1 0 0),(10,.int .i64 x1),(11,.int .i64 x2)],[(0,
 .box
 [.int .i64 x4,.int .i64 x5,.int .i64 x6,.int .i64 x7,.int .i64 x8,.int .i64 x9,.int .i64 x10,
 .int .i64 x11,.int .i64 x12,.int .i64 x13,.str x14,.str x15]
 false),
 (1,
 .box
 [.int .i64 x16,.int .i64 x17,.int .i64 x18,.int .i64 x19,.int .i64 x20,.int .i64 x21,.int .i64 x22,
 .int .i64 x23,.int .i64 x24,.int .i64 x25,.int .i64 x26,.int .i64 x27,.int .i64 x28,
 .int .i64 x29,.int .i64 x30,.int .i64 x31,.int .i64 x32,.int .i64 x33,.int .i64 x34,
 .int .i64 x35,.int .i64 x36,.str x37,.str x38,.view 4 x39,.view 14 x40]
 false)],2,0⟩)
def qUj:List (qdD -> X × St):=[(k41 qGZ)]
def qkT (x0 x1:Int) (x2 x3:Int) (x4 x5:Int) (x6 x7:Int) (x8 x9:Int) (x10 x11:Int) (x12 x13:Int) (x14 x15:List UInt8) (x16 x17:Int) (x18 x19:Int) (x20 x21:Int) (x22 x23:Int) (x24 x25:Int) (x26 x27:Int) (x28 x29:Int) (x30 x31:Int) (x32 x33:Int) (x34 x35 x36:Int) (x37 x38:List UInt8) (x39 x40:List AV):DT (Rd qdD):=
 .br (decide (x3 < x0))
 (.br (qcO [.int .i64,.int .i64,.int .i64,.int .i64] x39 x3)
 (.br (qcO [.int .i64,.int .i64,.int .i64,.int .i64] x39 x3)
 (.br (qcO [.int .i64,.int .i64,.int .i64,.int .i64] x39 x3)
 (.br (qrl (AV.int IntKind.i64 x16) (AV.int IntKind.i64 x17) { st:=x18,pp:=x19,pi:=x20 }
 [.int .i64 x21,.int .i64 x22,.int .i64 x23,.int .i64 x24,.int .i64 x25,.int .i64 x26,.int .i64 x27,
 .int .i64 x28,.int .i64 x29,.int .i64 x30,.int .i64 x31,.int .i64 x32,.int .i64 x33,.int .i64 x34,
 .int .i64 x35,.int .i64 x36,AV.str x37,AV.str x38,AV.view 4 x39,AV.view 14 x40]
 (Tk.dusO x39) (IntKind.i64.wrap (intOf (cellAt x39 x3 2) + intOf (cellAt x39 x3 3))) (intOf (cellAt x39 x3 1)))
 (.bi (ql8
 (Tk.EPa (Tk.payL (Tk.dusO x39) (IntKind.i64.wrap (intOf (cellAt x39 x3 2) + intOf (cellAt x39 x3 3))) (intOf (cellAt x39 x3 1)) { st:=x18,pp:=x19,pi:=x20 })) 4) (fun y0=>
 .at (.next ((x0,intOf (cellAt x39 x3 1),IntKind.i64.wrap (x2 + y0),IntKind.i64.wrap (x3 + 1),x4,x5,x6,x7,x8,x9,x10,x11,x12,x13,x14,x15,x16,x17,(Tk.payT (Tk.dusO x39) (IntKind.i64.wrap (intOf (cellAt x39 x3 2) + intOf (cellAt x39 x3 3))) (intOf (cellAt x39 x3 1)) { st:=x18,pp:=x19,pi:=x20 }).st,(Tk.payT (Tk.dusO x39) (IntKind.i64.wrap (intOf (cellAt x39 x3 2) + intOf (cellAt x39 x3 3))) (intOf (cellAt x39 x3 1)) { st:=x18,pp:=x19,pi:=x20 }).pp,(Tk.payT (Tk.dusO x39) (IntKind.i64.wrap (intOf (cellAt x39 x3 2) + intOf (cellAt x39 x3 3))) (intOf (cellAt x39 x3 1)) { st:=x18,pp:=x19,pi:=x20 }).pi,x21,x22,x23,x24,x25,x26,x27,x28,x29,x30,x31,x32,x33,x34,x35,x36,x37,x38,x39,x40))))
 (.no))
 (.br (qiJ (AV.int IntKind.i64 x16) (AV.int IntKind.i64 x17) { st:=x18,pp:=x19,pi:=x20 }
 [.int .i64 x21,.int .i64 x22,.int .i64 x23,.int .i64 x24,.int .i64 x25,.int .i64 x26,.int .i64 x27,
 .int .i64 x28,.int .i64 x29,.int .i64 x30,.int .i64 x31,.int .i64 x32,.int .i64 x33,.int .i64 x34,
 .int .i64 x35,.int .i64 x36,AV.str x37,AV.str x38,AV.view 4 x39,AV.view 14 x40]
 (IntKind.i64.wrap (intOf (cellAt x39 x3 2) + intOf (cellAt x39 x3 3))) (intOf (cellAt x39 x3 1)) 1)
 (.at (.next ((x0,intOf (cellAt x39 x3 1),x2,IntKind.i64.wrap (x3 + 1),x4,x5,x6,x7,x8,x9,x10,x11,x12,x13,x14,x15,x16,x17,x18,x19,x20,x21,x22,x23,x24,x25,x26,x27,x28,x29,x30,x31,x32,x33,x34,x35,x36,x37,x38,x39,x40))))
 (.br (qiJ (AV.int IntKind.i64 x16) (AV.int IntKind.i64 x17) { st:=x18,pp:=x19,pi:=x20 }
 [.int .i64 x21,.int .i64 x22,.int .i64 x23,.int .i64 x24,.int .i64 x25,.int .i64 x26,.int .i64 x27,
 .int .i64 x28,.int .i64 x29,.int .i64 x30,.int .i64 x31,.int .i64 x32,.int .i64 x33,.int .i64 x34,
 .int .i64 x35,.int .i64 x36,AV.str x37,AV.str x38,AV.view 4 x39,AV.view 14 x40]
 (IntKind.i64.wrap (intOf (cellAt x39 x3 2) + intOf (cellAt x39 x3 3))) (intOf (cellAt x39 x3 1)) 17)
 (.at (.next ((x0,intOf (cellAt x39 x3 1),x2,IntKind.i64.wrap (x3 + 1),x4,x5,x6,x7,x8,x9,x10,x11,x12,x13,x14,x15,x16,x17,x18,x19,x20,x21,x22,x23,x24,x25,x26,x27,x28,x29,x30,x31,x32,x33,x34,x35,x36,x37,x38,x39,x40))))
 (.no))))
 (.no))
 (.no))
 (.no))
 (.at (.done 0))
def qgI:qdD -> DT (Rd qdD):=(fun v=>qkT v.1 v.2.1 v.2.2.1 v.2.2.2.1 v.2.2.2.2.1 v.2.2.2.2.2.1 v.2.2.2.2.2.2.1 v.2.2.2.2.2.2.2.1 v.2.2.2.2.2.2.2.2.1 v.2.2.2.2.2.2.2.2.2.1 v.2.2.2.2.2.2.2.2.2.2.1 v.2.2.2.2.2.2.2.2.2.2.2.1 v.2.2.2.2.2.2.2.2.2.2.2.2.1 v.2.2.2.2.2.2.2.2.2.2.2.2.2.1 v.2.2.2.2.2.2.2.2.2.2.2.2.2.2.1 v.2.2.2.2.2.2.2.2.2.2.2.2.2.2.2.1 v.2.2.2.2.2.2.2.2.2.2.2.2.2.2.2.2.1 v.2.2.2.2.2.2.2.2.2.2.2.2.2.2.2.2.2.1 v.2.2.2.2.2.2.2.2.2.2.2.2.2.2.2.2.2.2.1 v.2.2.2.2.2.2.2.2.2.2.2.2.2.2.2.2.2.2.2.1 v.2.2.2.2.2.2.2.2.2.2.2.2.2.2.2.2.2.2.2.2.1 v.2.2.2.2.2.2.2.2.2.2.2.2.2.2.2.2.2.2.2.2.2.1 v.2.2.2.2.2.2.2.2.2.2.2.2.2.2.2.2.2.2.2.2.2.2.1 v.2.2.2.2.2.2.2.2.2.2.2.2.2.2.2.2.2.2.2.2.2.2.2.1 v.2.2.2.2.2.2.2.2.2.2.2.2.2.2.2.2.2.2.2.2.2.2.2.2.1 v.2.2.2.2.2.2.2.2.2.2.2.2.2.2.2.2.2.2.2.2.2.2.2.2.2.1 v.2.2.2.2.2.2.2.2.2.2.2.2.2.2.2.2.2.2.2.2.2.2.2.2.2.2.1 v.2.2.2.2.2.2.2.2.2.2.2.2.2.2.2.2.2.2.2.2.2.2.2.2.2.2.2.1 v.2.2.2.2.2.2.2.2.2.2.2.2.2.2.2.2.2.2.2.2.2.2.2.2.2.2.2.2.1 v.2.2.2.2.2.2.2.2.2.2.2.2.2.2.2.2.2.2.2.2.2.2.2.2.2.2.2.2.2.1 v.2.2.2.2.2.2.2.2.2.2.2.2.2.2.2.2.2.2.2.2.2.2.2.2.2.2.2.2.2.2.1 v.2.2.2.2.2.2.2.2.2.2.2.2.2.2.2.2.2.2.2.2.2.2.2.2.2.2.2.2.2.2.2.1 v.2.2.2.2.2.2.2.2.2.2.2.2.2.2.2.2.2.2.2.2.2.2.2.2.2.2.2.2.2.2.2.2.1 v.2.2.2.2.2.2.2.2.2.2.2.2.2.2.2.2.2.2.2.2.2.2.2.2.2.2.2.2.2.2.2.2.2.1 v.2.2.2.2.2.2.2.2.2.2.2.2.2.2.2.2.2.2.2.2.2.2.2.2.2.2.2.2.2.2.2.2.2.2.1 v.2.2.2.2.2.2.2.2.2.2.2.2.2.2.2.2.2.2.2.2.2.2.2.2.2.2.2.2.2.2.2.2.2.2.2.1 v.2.2.2.2.2.2.2.2.2.2.2.2.2.2.2.2.2.2.2.2.2.2.2.2.2.2.2.2.2.2.2.2.2.2.2.2.1 v.2.2.2.2.2.2.2.2.2.2.2.2.2.2.2.2.2.2.2.2.2.2.2.2.2.2.2.2.2.2.2.2.2.2.2.2.2.1 v.2.2.2.2.2.2.2.2.2.2.2.2.2.2.2.2.2.2.2.2.2.2.2.2.2.2.2.2.2.2.2.2.2.2.2.2.2.2.1 v.2.2.2.2.2.2.2.2.2.2.2.2.2.2.2.2.2.2.2.2.2.2.2.2.2.2.2.2.2.2.2.2.2.2.2.2.2.2.2.1 v.2.2.2.2.2.2.2.2.2.2.2.2.2.2.2.2.2.2.2.2.2.2.2.2.2.2.2.2.2.2.2.2.2.2.2.2.2.2.2.2)
def qqv (v:qdD):Option (Nat × qdD):=qaK (qat (fun v=>(qgI v).ev) v)
theorem qqw (v):qqv v = qat (fun v=>(qgI v).ev) v:=qaa _
def qBL:qdC:=LE (τ:=qdD) (hD qBd) (qqv) qUj
theorem qTG:Go.Eng.Told IP (qai F3 0).1 (qai F3 0).2 (qBL):=lp (inferInstance:Inhabited qdD) (hs:=qBd) qgI qyZ qqw
abbrev qya:Type:=Bool
def qC9:PArgs:=⟨[.int .i64],[]⟩
def qDU:List PRes:=[⟨false,.bool,[]⟩]
def qjs (x0:Int):DT qya:=
 .bi (br (decide (x0 >= 0)) (some (decide (x0 <= 73048))) (some false)) (fun y0=>
 .at (y0))
 (.no)
def qgs (x0:Int):Option qya:=qaK (qjs x0).ev
theorem qwQ (x0):qgs x0 = (qjs x0).ev:=qaa _
theorem qzr:FH IP 19 qC9 qDU qgs:=fh F19 qjs qyZ
def T64:Tab:=(19,FE qC9 qDU qgs) :: T63
theorem qJh:qap IP T64:=⟨qas qzr,qyZ⟩
abbrev qx4:Type:=Bool
def qC3:PArgs:=⟨[.int .i64],[]⟩
def qDO:List PRes:=[⟨false,.bool,[]⟩]
def qjn (x0:Int):DT qx4:=
 .bi (br (decide (x0 >= 0)) (some (decide (x0 <= 1000000))) (some false)) (fun y0=>
 .at (y0))
 (.no)
def qgr (x0:Int):Option qx4:=qaK (qjn x0).ev
theorem qwL (x0):qgr x0 = (qjn x0).ev:=qaa _
theorem qM9:FH IP 87 qC3 qDO qgr:=fh F87 qjn qJh
def T65:Tab:=(87,FE qC3 qDO qgr) :: T64
theorem qJi:qap IP T65:=⟨qas qM9,qJh⟩
abbrev qxL:Type:=Bool
def qCO:PArgs:=⟨[.int .i64],[]⟩
def qDz:List PRes:=[⟨false,.bool,[]⟩]
def qi9 (x0:Int):DT qxL:=
 .bi (br (decide (x0 >= 0)) (some (decide (x0 <= 1000000000000))) (some false)) (fun y0=>
 .at (y0))
 (.no)
def qcJ (x0:Int):Option qxL:=qaK (qi9 x0).ev
theorem qwx (x0):qcJ x0 = (qi9 x0).ev:=qaa _
theorem qMU:FH IP 88 qCO qDz qcJ:=fh F88 qi9 qJi
def T66:Tab:=(88,FE qCO qDz qcJ) :: T65
theorem qy0:qap IP T66:=⟨qas qMU,qJi⟩
abbrev qes:Type:=Int × Int × Int × Int × Int × Int × Int × Int × Int × Int × Int × Int × Int × Int × Int × Int × Int × Int × Int × Int × Int × Int × Int × Int × Int × Int × List UInt8 × List UInt8 × List AV × List AV
def qBu:List PSt:=[⟨[(1005400,.junk),(1,.ref 0 0 0),(82,.agg [.int .i64,.int .i64,.int .i64,.int .i64]),(83,.int .i64)],[(0,.box [.int .i64,.int .i64,.int .i64,.int .i64,.int .i64,.int .i64,.int .i64,.int .i64,.int .i64,.int .i64,.int .i64,.int .i64,.int .i64,.int .i64,.int .i64,.int .i64,.int .i64,.int .i64,.int .i64,.int .i64,.int .i64,.str,.str,.view 4,.view 14] false)],1,0⟩]
def qHx (x0 x1:Int) (x2 x3:Int) (x4 x5:Int) (x6 x7:Int) (x8 x9:Int) (x10 x11:Int) (x12 x13:Int) (x14 x15:Int) (x16 x17:Int) (x18 x19:Int) (x20 x21:Int) (x22 x23:Int) (x24 x25:Int) (x26 x27:List UInt8) (x28 x29:List AV):X × St:=(.ret,
 ⟨[(1,.ref 0 0 0),(2,.bool false)],[(0,
 .box
 [.int .i64 x5,.int .i64 x6,.int .i64 x7,.int .i64 x8,.int .i64 x9,.int .i64 x10,.int .i64 x11,
 .int .i64 x12,.int .i64 x13,.int .i64 x14,.int .i64 x15,.int .i64 x16,.int .i64 x17,
 .int .i64 x18,.int .i64 x19,.int .i64 x20,.int .i64 x21,.int .i64 x22,.int .i64 x23,
 .int .i64 x24,.int .i64 x25,.str x26,.str x27,.view 4 x28,.view 14 x29]
 false)],1,0⟩)
def qHy (x0 x1:Int) (x2 x3:Int) (x4 x5:Int) (x6 x7:Int) (x8 x9:Int) (x10 x11:Int) (x12 x13:Int) (x14 x15:Int) (x16 x17:Int) (x18 x19:Int) (x20 x21:Int) (x22 x23:Int) (x24 x25:Int) (x26 x27:List UInt8) (x28 x29:List AV):X × St:=(.exit 1,
 ⟨[(1,.ref 0 0 0),(2,.junk)],[(0,
 .box
 [.int .i64 x5,.int .i64 x6,.int .i64 x7,.int .i64 x8,.int .i64 x9,.int .i64 x10,.int .i64 x11,
 .int .i64 x12,.int .i64 x13,.int .i64 x14,.int .i64 x15,.int .i64 x16,.int .i64 x17,
 .int .i64 x18,.int .i64 x19,.int .i64 x20,.int .i64 x21,.int .i64 x22,.int .i64 x23,
 .int .i64 x24,.int .i64 x25,.str x26,.str x27,.view 4 x28,.view 14 x29]
 false)],1,0⟩)
def qUA:List (qes -> X × St):=[(k30 qHx),(k30 qHy)]
def qrN (x0 x1:Int) (x2 x3:Int) (x4 x5:Int) (x6 x7:Int) (x8 x9:Int) (x10 x11:Int) (x12 x13:Int) (x14 x15:Int) (x16 x17:Int) (x18 x19:Int) (x20 x21:Int) (x22 x23:Int) (x24 x25:Int) (x26 x27:List UInt8) (x28 x29:List AV):DT (Rd qes):=
 .br (decide (x4 < 4))
 (.br (decide (x4 = Int.ofNat 0))
 (.bi (qcJ x0) (fun y0=>
 .br (!y0)
 (.at (.done 0))
 (.at (.next ((x0,x1,x2,x3,IntKind.i64.wrap (x4 + 1),x5,x6,x7,x8,x9,x10,x11,x12,x13,x14,x15,x16,x17,x18,x19,x20,x21,x22,x23,x24,x25,x26,x27,x28,x29)))))
 (.no))
 (.br (decide (x4 = Int.ofNat 1))
 (.bi (qcJ x1) (fun y0=>
 .br (!y0)
 (.at (.done 0))
 (.at (.next ((x0,x1,x2,x3,IntKind.i64.wrap (x4 + 1),x5,x6,x7,x8,x9,x10,x11,x12,x13,x14,x15,x16,x17,x18,x19,x20,x21,x22,x23,x24,x25,x26,x27,x28,x29)))))
 (.no))
 (.br (decide (x4 = Int.ofNat 2))
 (.bi (qcJ x2) (fun y0=>
 .br (!y0)
 (.at (.done 0))
 (.at (.next ((x0,x1,x2,x3,IntKind.i64.wrap (x4 + 1),x5,x6,x7,x8,x9,x10,x11,x12,x13,x14,x15,x16,x17,x18,x19,x20,x21,x22,x23,x24,x25,x26,x27,x28,x29)))))
 (.no))
 (.br (decide (x4 = Int.ofNat 3))
 (.bi (qcJ x3) (fun y0=>
 .br (!y0)
 (.at (.done 0))
 (.at (.next ((x0,x1,x2,x3,IntKind.i64.wrap (x4 + 1),x5,x6,x7,x8,x9,x10,x11,x12,x13,x14,x15,x16,x17,x18,x19,x20,x21,x22,x23,x24,x25,x26,x27,x28,x29)))))
 (.no))
 (.no)))))
 (.at (.done 1))
def qk1:qes -> DT (Rd qes):=(fun v=>qrN v.1 v.2.1 v.2.2.1 v.2.2.2.1 v.2.2.2.2.1 v.2.2.2.2.2.1 v.2.2.2.2.2.2.1 v.2.2.2.2.2.2.2.1 v.2.2.2.2.2.2.2.2.1 v.2.2.2.2.2.2.2.2.2.1 v.2.2.2.2.2.2.2.2.2.2.1 v.2.2.2.2.2.2.2.2.2.2.2.1 v.2.2.2.2.2.2.2.2.2.2.2.2.1 v.2.2.2.2.2.2.2.2.2.2.2.2.2.1 v.2.2.2.2.2.2.2.2.2.2.2.2.2.2.1 v.2.2.2.2.2.2.2.2.2.2.2.2.2.2.2.1 v.2.2.2.2.2.2.2.2.2.2.2.2.2.2.2.2.1 v.2.2.2.2.2.2.2.2.2.2.2.2.2.2.2.2.2.1 v.2.2.2.2.2.2.2.2.2.2.2.2.2.2.2.2.2.2.1 v.2.2.2.2.2.2.2.2.2.2.2.2.2.2.2.2.2.2.2.1 v.2.2.2.2.2.2.2.2.2.2.2.2.2.2.2.2.2.2.2.2.1 v.2.2.2.2.2.2.2.2.2.2.2.2.2.2.2.2.2.2.2.2.2.1 v.2.2.2.2.2.2.2.2.2.2.2.2.2.2.2.2.2.2.2.2.2.2.1 v.2.2.2.2.2.2.2.2.2.2.2.2.2.2.2.2.2.2.2.2.2.2.2.1 v.2.2.2.2.2.2.2.2.2.2.2.2.2.2.2.2.2.2.2.2.2.2.2.2.1 v.2.2.2.2.2.2.2.2.2.2.2.2.2.2.2.2.2.2.2.2.2.2.2.2.2.1 v.2.2.2.2.2.2.2.2.2.2.2.2.2.2.2.2.2.2.2.2.2.2.2.2.2.2.1 v.2.2.2.2.2.2.2.2.2.2.2.2.2.2.2.2.2.2.2.2.2.2.2.2.2.2.2.1 v.2.2.2.2.2.2.2.2.2.2.2.2.2.2.2.2.2.2.2.2.2.2.2.2.2.2.2.2.1 v.2.2.2.2.2.2.2.2.2.2.2.2.2.2.2.2.2.2.2.2.2.2.2.2.2.2.2.2.2)
def qks (v:qes):Option (Nat × qes):=qaK (qat (fun v=>(qk1 v).ev) v)
theorem qqU (v):qks v = qat (fun v=>(qk1 v).ev) v:=qaa _
def qB2:qdC:=LE (τ:=qes) (hD qBu) (qks) qUA
theorem qTX:Go.Eng.Told IP (qai F54 0).1 (qai F54 0).2 (qB2):=lp (inferInstance:Inhabited qes) (hs:=qBu) qk1 qy0 qqU
abbrev qIm:Type:=Bool
def qK6:PArgs:=⟨[.agg [.int .i64,.int .i64,.int .i64,.int .i64]],[]⟩
def qL9:List PRes:=[⟨false,.bool,[]⟩]
def qoX (x0 x1:Int) (x2 x3:Int):DT qIm:=
 .bi (qgs x1) (fun y0=>
 .bi (br (!y0) (some true) (br (sm (qcJ x2)) (some !gv (qcJ x2)) none)) (fun y1=>
 .bi (br y1 (some true) (br (sm (qcJ x3)) (some !gv (qcJ x3)) none)) (fun y2=>
 .at (y2))
 (.no))
 (.no))
 (.no)
def qp2 (x0 x1:Int) (x2 x3:Int):Option qIm:=qaK (qoX x0 x1 x2 x3).ev
theorem qAE (x0 x1 x2 x3):qp2 x0 x1 x2 x3 = (qoX x0 x1 x2 x3).ev:=qaa _
theorem qRx:FH IP 90 qK6 qL9 (k4 qp2):=fh F90 (k4 qoX) qy0
def T67:Tab:=(90,FE qK6 qL9 (k4 qp2)) :: T66
theorem qy1:qap IP T67:=⟨qas qRx,qy0⟩
abbrev qej:Type:=List AV × Int × Int
def qBb:List PSt:=[⟨[(1009300,.junk),(0,.view 4),(1,.fn (.func 90) []),(7,.int .i64),(8,.int .i64)],[],0,0⟩]
def qGV (x0:List AV) (x1 x2:Int):X × St:=(.ret,⟨[(4,.int .i64 x2)],[],0,0⟩)
def qGW (x0:List AV) (x1 x2:Int):X × St:=(.exit 0,⟨[(4,.junk)],[],0,0⟩)
def qUh:List (qej -> X × St):=[(k3 qGV),(k3 qGW)]
def qrC (x0:List AV) (x1 x2:Int):DT (Rd qej):=
 .br (decide (x2 < x1))
 (.br (qcO [.int .i64,.int .i64,.int .i64,.int .i64] x0 x2)
 (.bi (qp2 (intOf (cellAt x0 x2 0)) (intOf (cellAt x0 x2 1)) (intOf (cellAt x0 x2 2)) (intOf (cellAt x0 x2 3))) (fun y0=>
 .br (y0) (.at (.done 0)) (.at (.next ((x0,x1,IntKind.i64.wrap (x2 + 1))))))
 (.no))
 (.no))
 (.at (.done 1))
def qn3:qej -> DT (Rd qej):=(fun v=>qrC v.1 v.2.1 v.2.2)
def qqr (v:qej):Option (Nat × qej):=qaK (qat (fun v=>(qn3 v).ev) v)
theorem qqs (v):qqr v = qat (fun v=>(qn3 v).ev) v:=qaa _
def qBJ:qdC:=LE (τ:=qej) (hD qBb) (qqr) qUh
theorem qTE:Go.Eng.Told IP (qai F93 0).1 (qai F93 0).2 (qBJ):=lp (inferInstance:Inhabited qej) (hs:=qBb) qn3 qy1 qqs
abbrev qHI:Type:=Int
def qKt:PArgs:=⟨[.view 4,.fn (.func 90) []],[]⟩
def qLw:List PRes:=[⟨false,.int .i64,[]⟩]
def qop (x0:List AV):DT qHI:=
 .bi (pj 0 (qqr (x0,(x0.length:Int),0))) (fun y0=>
 .at (y0.2.2))
 (.bi (pj 1 (qqr (x0,(x0.length:Int),0))) (fun y0=>
 .at (-1))
 (.no))
def quJ (x0:List AV):Option qHI:=qaK (qop x0).ev
theorem qz6 (x0):quJ x0 = (qop x0).ev:=qaa _
theorem qQX:FH IP 93 qKt qLw quJ:=qaj (F:=F93) (L:=[(1009300,qBJ)]) (t:=qop) qy1 (qaf (l:=[qai F93 0]) (by kernel_rfl) ⟨qaG (by kernel_rfl) qTE,trivial⟩) (by kernel_rfl) (fun v=>by kernel_rfl) (fun _=>qaa _)
def T68:Tab:=(93,FE qKt qLw quJ) :: T67
theorem qJj:qap IP T68:=⟨qas qQX,qy1⟩
end
end Go.Proofs.H35

/- Functions over plain data. Printed by a program of mine. -/
import Derived.Test.YtgpbobelbcbcaaaGreatDoorD10_6
import Derived.KernelRfl
set_option linter.unusedVariables false
set_option linter.unusedSimpArgs false
set_option linter.unnecessarySimpa false
namespace Go.Proofs.H10
open Go Go.Eng
set_option maxRecDepth 100000
noncomputable section
abbrev qM6:Type:=Int
def qPy:PArgs:=⟨[.agg [.int .i64,.int .i64,.str,.view 4]],[]⟩
def qQj:List PRes:=[⟨false,.int .i64,[]⟩]
def qsP (x0 x1:Int) (x2:List UInt8) (x3:List AV):DT qM6:=
 .bi (qdN x0 x1 x2 x3 64) (fun y0=>
 .bi (br y0 (some true) (br (sm (qmD x0 x1 x2 x3)) (some (decide (gv (qmD x0 x1 x2 x3) > 8))) none)) (fun y1=>
 .br (y1)
 (.at (5))
 (.bi (qq6 x0 x1 x2 x3) (fun y2=>
 .br (!y2)
 (.at (1))
 (.bi (qmE x0 x1 x2 x3) (fun y3=>
 .bi (pj 0 (qtU (y3,0))) (fun y4=>
 .at (4))
 (.bi (pj 1 (qtU (y3,0))) (fun y4=>
 .at (0))
 (.no)))
 (.no)))
 (.no)))
 (.no))
 (.no)
def qmU (x0 x1:Int) (x2:List UInt8) (x3:List AV):Option qM6:=qa2 (qsP x0 x1 x2 x3).ev
theorem qEI (x0 x1 x2 x3):qmU x0 x1 x2 x3 = (qsP x0 x1 x2 x3).ev:=qab _
theorem qVa:FH IP 18 qPy qQj (k4 qmU):=qak (F:=F18) (L:=[(1001800,qFR)]) (t:=(k4 qsP)) qDo (qae (l:=[qah F18 0]) (by kernel_rfl) ⟨qaH (by kernel_rfl) qWI,trivial⟩) (by kernel_rfl) (fun v=>by kernel_rfl) (fun _=>qab _)
def T96:Tab:=(18,FE qPy qQj (k4 qmU)) :: T95
theorem qN6:qao IP T96:=⟨qan qVa,qDo⟩
abbrev qCh:Type:=Int × Int × List UInt8 × List AV × Int × Int
def qG9:PArgs:=⟨[.view 3,.int .i64],[]⟩
def qH4:List PRes:=[⟨false,.tup [.agg [.int .i64,.int .i64,.str,.view 4],.int .i64,.int .i64],[]⟩]
def qlE (x0:List AV) (x1:Int):DT qCh:=
 .bi (br (decide (x1 < 0)) (some true) (some (decide (x1 > (x0.length:Int))))) (fun y0=>
 .br (y0)
 (.at ((0,0,[],[],x1,2)))
 (.bi (qq5 x0 x1 0) (fun y1=>
 .br (!y1.2.2.2.2.2)
 (.at ((0,0,[],[],y1.2.2.2.2.1,2)))
 (.bi (qmU y1.1 y1.2.1 y1.2.2.1 y1.2.2.2.1) (fun y2=>
 .br (y2 != 0) (.at ((0,0,[],[],x1,y2))) (.at ((y1.1,y1.2.1,y1.2.2.1,y1.2.2.2.1,y1.2.2.2.2.1,0))))
 (.no)))
 (.no)))
 (.no)
def qmG (x0:List AV) (x1:Int):Option qCh:=qa2 (qlE x0 x1).ev
theorem qAp (x0 x1):qmG x0 x1 = (qlE x0 x1).ev:=qab _
theorem qRx:FH IP 11 qG9 qH4 (k2 qmG):=fh F11 (k2 qlE) qN6
def T97:Tab:=(11,FE qG9 qH4 (k2 qmG)) :: T96
theorem qN7:qao IP T97:=⟨qan qRx,qN6⟩
abbrev qMP:Type:=Bool
def qPg:PArgs:=⟨[.view 3,.int .i64],[]⟩
def qP1:List PRes:=[⟨false,.bool,[]⟩]
def qsw (x0:List AV) (x1:Int):DT qMP:=
 .bi (qii x0) (fun y0=>
 .br (!y0)
 (.bi (qbp) (fun y1=>
 .at (y1))
 (.no))
 (.br (Tk.paB IP 10 x0 x1)
 (.bi (qmG x0 x1) (fun y1=>
 .bi (br (Tk.paE IP 10 x0 x1 == y1.2.2.2.2.2) (some (Tk.paK IP 10 x0 x1 == y1.2.2.2.2.1)) (some false)) (fun y2=>
 .bi (br y2
 (br (sm (qaJ (Tk.paO IP 10 x0 x1) (Tk.paN IP 10 x0 x1) (Tk.paS IP 10 x0 x1) (Tk.paX IP 10 x0 x1) y1.1 y1.2.1 y1.2.2.1 y1.2.2.2.1))
 (some (gv (qaJ (Tk.paO IP 10 x0 x1) (Tk.paN IP 10 x0 x1) (Tk.paS IP 10 x0 x1) (Tk.paX IP 10 x0 x1) y1.1 y1.2.1 y1.2.2.1 y1.2.2.2.1))) none)
 (some false)) (fun y3=>
 .bi (br y3 (br (sm qbp) (some (gv qbp)) none) (some false)) (fun y4=>
 .at (y4))
 (.no))
 (.no))
 (.no))
 (.no))
 (.no)))
 (.no)
def qya (x0:List AV) (x1:Int):Option qMP:=qa2 (qsw x0 x1).ev
theorem qEq (x0 x1):qya x0 x1 = (qsw x0 x1).ev:=qab _
theorem qOh:FH IP 3 qPg qP1 (k2 qya):=fh F3 (k2 qsw) qN7
def T98:Tab:=(3,FE qPg qP1 (k2 qya)) :: T97
theorem qN8:qao IP T98:=⟨qan qOh,qN7⟩
abbrev qfZ:Type:=Int × Int × List UInt8
def qFn:List PSt:=[⟨[(1011600,.junk),(0,.int .i64),(1,.int .i64),(5,.str)],[],0,0⟩]
def qMb (x0 x1:Int) (x2:List UInt8):X × St:=(.exit 0,⟨[(5,.str x2)],[],0,0⟩)
def qXx:List (qfZ -> X × St):=[(k3 qMb)]
def qoC (x0 x1:Int) (x2:List UInt8):DT (Rd qfZ):=
 .bi (br (decide (x0 > 0)) (some true) (some (decide ((x2.length:Int) < x1)))) (fun y0=>
 .br (y0)
 (.br (leB (IntKind.i64.wrap (x0.tmod 10 + 1)) 10 && leB (x0.tmod 10) (IntKind.i64.wrap (x0.tmod 10 + 1)).toNat)
 (.br (decide
 ((List.take ((IntKind.i64.wrap (x0.tmod 10 + 1)).toNat - (x0.tmod 10).toNat) (List.drop (x0.tmod 10).toNat ([48,49,50,51,52,53,54,55,56,57]:List UInt8))).length + x2.length <=
 4611686018427387904))
 (.at (.next ((IntKind.i64.wrap (x0.tdiv 10),x1,List.take ((IntKind.i64.wrap (x0.tmod 10 + 1)).toNat - (x0.tmod 10).toNat) (List.drop (x0.tmod 10).toNat ([48,49,50,51,52,53,54,55,56,57]:List UInt8)) ++ x2))))
 (.no))
 (.no))
 (.at (.done 0)))
 (.no)
def qiC:qfZ -> DT (Rd qfZ):=(fun v=>qoC v.1 v.2.1 v.2.2)
def qnj (v:qfZ):Option (Nat × qfZ):=qa2 (qaw (fun v=>(qiC v).ev) v)
theorem qev (v):qnj v = qaw (fun v=>(qiC v).ev) v:=qab _
def qF0:qdA:=LE (τ:=qfZ) (hD qFn) (qnj) qXx
theorem qWR:Go.Eng.Told IP (qah qTs 0).1 (qah qTs 0).2 (qF0):=lp (inferInstance:Inhabited qfZ) (hs:=qFn) qiC qN8 qev
abbrev qB2:Type:=List UInt8
def qGU:PArgs:=⟨[.int .i64,.int .i64],[]⟩
def qHP:List PRes:=[⟨false,.str,[]⟩]
def qjz (x0 x1:Int):DT qB2:=
 .bi (pj 0 (qnj (x0,x1,[]))) (fun y0=>
 .at (y0.2.2))
 (.no)
def qie (x0 x1:Int):Option qB2:=qa2 (qjz x0 x1).ev
theorem qRa:FH IP 116 qGU qHP (k2 qie):=qak (F:=qTs) (L:=[(1011600,qF0)]) (t:=(k2 qjz)) qN8 (qae (l:=[qah qTs 0]) (by kernel_rfl) ⟨qaH (by kernel_rfl) qWR,trivial⟩) (by kernel_rfl) (fun v=>by kernel_rfl) (fun _=>qab _)
def q0I:Tab:=(116,FE qGU qHP (k2 qie)) :: T98
theorem qvS:qao IP q0I:=⟨qan qRa,qN8⟩
abbrev qfY:Type:=List UInt8 × List UInt8
def qFl:List PSt:=[⟨[(1008800,.junk),(4,.str),(5,.str)],[],0,0⟩]
def qL8 (x0 x1:List UInt8):X × St:=(.exit 0,⟨[(4,.str x0),(5,.str x1)],[],0,0⟩)
def qXv:List (qfY -> X × St):=[(k2 qL8)]
def qjv (x0 x1:List UInt8):DT (Rd qfY):=
 .bi (br (decide ((x1.length:Int) > 0)) (br (inB x1.length (IntKind.i64.wrap ((x1.length:Int) - 1))) (some (qaA x1 (IntKind.i64.wrap ((x1.length:Int) - 1)) == 48)) none)
 (some false)) (fun y0=>
 .br (y0)
 (.br (leB (IntKind.i64.wrap ((x1.length:Int) - 1)) x1.length && true) (.at (.next ((x0,List.take (IntKind.i64.wrap ((x1.length:Int) - 1)).toNat x1)))) (.no))
 (.at (.done 0)))
 (.no)
def qkA:qfY -> DT (Rd qfY):=(fun v=>qjv v.1 v.2)
def qyG (v:qfY):Option (Nat × qfY):=qa2 (qaw (fun v=>(qkA v).ev) v)
theorem qi6 (v):qyG v = qaw (fun v=>(qkA v).ev) v:=qab _
def qFY:qdA:=LE (τ:=qfY) (hD qFl) (qyG) qXv
theorem qWP:Go.Eng.Told IP (qah F88 0).1 (qah F88 0).2 (qFY):=lp (inferInstance:Inhabited qfY) (hs:=qFl) qkA qvS qi6
abbrev qBU:Type:=List UInt8 × Int
def qGM:PArgs:=⟨[.int .i64],[]⟩
def qHH:List PRes:=[⟨false,.tup [.str,.int .i64],[]⟩]
def qlh (x0:Int):DT qBU:=
 .bi (br (decide (x0 < 0)) (some true) (some (decide (x0 > 1000000)))) (fun y0=>
 .br (y0)
 (.at (([],1)))
 (.bi (qie (IntKind.i64.wrap (x0.tdiv 10000)) 1) (fun y1=>
 .bi (qie (x0.tmod 10000) 4) (fun y2=>
 .bi (pj 0 (qyG (y1,y2))) (fun y3=>
 .br (!y3.2 == [])
 (.br (decide (y3.1.length + 1 <= 4611686018427387904))
 (.br (decide ((y3.1 ++ [46]).length + y3.2.length <= 4611686018427387904))
 (.br (decide ((y3.1 ++ [46] ++ y3.2).length + 1 <= 4611686018427387904)) (.at ((y3.1 ++ [46] ++ y3.2 ++ [37],0))) (.no))
 (.no))
 (.no))
 (.br (decide (y3.1.length + 1 <= 4611686018427387904)) (.at ((y3.1 ++ [37],0))) (.no)))
 (.no))
 (.no))
 (.no)))
 (.no)
def qmo (x0:Int):Option qBU:=qa2 (qlh x0).ev
theorem qQZ:FH IP 88 qGM qHH qmo:=qak (F:=F88) (L:=[(1008800,qFY)]) (t:=qlh) qvS (qae (l:=[qah F88 0]) (by kernel_rfl) ⟨qaH (by kernel_rfl) qWP,trivial⟩) (by kernel_rfl) (fun v=>by kernel_rfl) (fun _=>qab _)
def q0J:Tab:=(88,FE qGM qHH qmo) :: q0I
theorem qCR:qao IP q0J:=⟨qan qQZ,qvS⟩
end
end Go.Proofs.H10

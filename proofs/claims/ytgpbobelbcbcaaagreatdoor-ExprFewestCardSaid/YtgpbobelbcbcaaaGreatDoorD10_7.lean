/- Functions over plain data. Printed by a program of mine. -/
import Derived.Test.YtgpbobelbcbcaaaGreatDoorD10_6
import Derived.KernelRfl
set_option linter.unusedVariables false
set_option linter.unusedSimpArgs false
set_option linter.unnecessarySimpa false
namespace Go.Proofs.H10
open Go Go.Eng
set_option maxRecDepth 100000
noncomputable section
abbrev qM6:Type:=Int
def qPy:PArgs:=⟨[.agg [.int .i64,.int .i64,.str,.view 4]],[]⟩
def qQj:List PRes:=[⟨false,.int .i64,[]⟩]
def qsP (x0 x1:Int) (x2:List UInt8) (x3:List AV):DT qM6:=
 .bi (qdN x0 x1 x2 x3 64) (fun y0=>
 .bi (br y0 (some true) (br (sm (qmD x0 x1 x2 x3)) (some (decide (gv (qmD x0 x1 x2 x3) > 8))) none)) (fun y1=>
 .br (y1)
 (.at (5))
 (.bi (qq6 x0 x1 x2 x3) (fun y2=>
 .br (!y2)
 (.at (1))
 (.bi (qmE x0 x1 x2 x3) (fun y3=>
 .bi (pj 0 (qtU (y3,0))) (fun y4=>
 .at (4))
 (.bi (pj 1 (qtU (y3,0))) (fun y4=>
 .at (0))
 (.no)))
 (.no)))
 (.no)))
 (.no))
 (.no)
def qmU (x0 x1:Int) (x2:List UInt8) (x3:List AV):Option qM6:=qa2 (qsP x0 x1 x2 x3).ev
theorem qEI (x0 x1 x2 x3):qmU x0 x1 x2 x3 = (qsP x0 x1 x2 x3).ev:=qab _
theorem qVa:FH IP 18 qPy qQj (k4 qmU):=qak (F:=F18) (L:=[(1001800,qFR)]) (t:=(k4 qsP)) qDo (qae (l:=[qah F18 0]) (by kernel_rfl) ⟨qaH (by kernel_rfl) qWI,trivial⟩) (by kernel_rfl) (fun v=>by kernel_rfl) (fun _=>qab _)
def T96:Tab:=(18,FE qPy qQj (k4 qmU)) :: T95
theorem qN6:qao IP T96:=⟨qan qVa,qDo⟩
abbrev qCi:Type:=Int × Int × List UInt8
def qHa:PArgs:=⟨[.int .i64,.str],[]⟩
def qH5:List PRes:=[⟨false,.agg [.int .i64,.int .i64,.str],[]⟩]
def qlF (x0:Int) (x1:List UInt8):DT qCi:=
 .at ((x0,1,x1))
def qaO (x0:Int) (x1:List UInt8):Option qCi:=qa2 (qlF x0 x1).ev
theorem qAq (x0 x1):qaO x0 x1 = (qlF x0 x1).ev:=qab _
theorem qRB:FH IP 63 qHa qH5 (k2 qaO):=fh F63 (k2 qlF) qN6
def T99:Tab:=(63,FE qHa qH5 (k2 qaO)) :: T96
theorem qDp:qao IP T99:=⟨qan qRB,qN6⟩
abbrev qfX:Type:=Int × List UInt8
def qFk:List PSt:=[⟨[(1011500,.junk),(0,.int .u64),(3,.str)],[],0,0⟩]
def qL7 (x0:Int) (x1:List UInt8):X × St:=(.exit 0,⟨[(3,.str x1)],[],0,0⟩)
def qXu:List (qfX -> X × St):=[(k2 qL7)]
def qhn (x0:Int) (x1:List UInt8):DT (Rd qfX):=
 .bi (br (x1 == []) (some true) (some (decide (x0 > 0)))) (fun y0=>
 .br (y0)
 (.br (leB (IntKind.u64.wrap (x0.tmod 10 + 1)) 10 && leB (x0.tmod 10) (IntKind.u64.wrap (x0.tmod 10 + 1)).toNat)
 (.br (decide
 ((List.take ((IntKind.u64.wrap (x0.tmod 10 + 1)).toNat - (x0.tmod 10).toNat) (List.drop (x0.tmod 10).toNat ([48,49,50,51,52,53,54,55,56,57]:List UInt8))).length + x1.length <=
 4611686018427387904))
 (.at (.next ((IntKind.u64.wrap (x0.tdiv 10),List.take ((IntKind.u64.wrap (x0.tmod 10 + 1)).toNat - (x0.tmod 10).toNat) (List.drop (x0.tmod 10).toNat ([48,49,50,51,52,53,54,55,56,57]:List UInt8)) ++ x1))))
 (.no))
 (.no))
 (.at (.done 0)))
 (.no)
def qrT:qfX -> DT (Rd qfX):=(fun v=>qhn v.1 v.2)
def qyF (v:qfX):Option (Nat × qfX):=qa2 (qaw (fun v=>(qrT v).ev) v)
theorem qi5 (v):qyF v = qaw (fun v=>(qrT v).ev) v:=qab _
def qFX:qdA:=LE (τ:=qfX) (hD qFk) (qyF) qXu
theorem qWO:Go.Eng.Told IP (qah qTr 0).1 (qah qTr 0).2 (qFX):=lp (inferInstance:Inhabited qfX) (hs:=qFk) qrT qDp qi5
abbrev qBT:Type:=List UInt8
def qGL:PArgs:=⟨[.int .u64],[]⟩
def qHG:List PRes:=[⟨false,.str,[]⟩]
def qlg (x0:Int):DT qBT:=
 .bi (pj 0 (qyF (x0,[]))) (fun y0=>
 .at (y0.2))
 (.no)
def qjS (x0:Int):Option qBT:=qa2 (qlg x0).ev
theorem qz2 (x0):qjS x0 = (qlg x0).ev:=qab _
theorem qQY:FH IP 115 qGL qHG qjS:=qak (F:=qTr) (L:=[(1011500,qFX)]) (t:=qlg) qDp (qae (l:=[qah qTr 0]) (by kernel_rfl) ⟨qaH (by kernel_rfl) qWO,trivial⟩) (by kernel_rfl) (fun v=>by kernel_rfl) (fun _=>qab _)
def q0G:Tab:=(115,FE qGL qHG qjS) :: T99
theorem qCQ:qao IP q0G:=⟨qan qQY,qDp⟩
abbrev qCv:Type:=List UInt8
def qHn:PArgs:=⟨[.int .i64],[]⟩
def qIi:List PRes:=[⟨false,.str,[]⟩]
def qlS (x0:Int):DT qCv:=
 .br (decide (x0 >= 0))
 (.bi (qjS (IntKind.u64.wrap x0)) (fun y0=>
 .at (y0))
 (.no))
 (.bi (qjS (IntKind.u64.wrap (IntKind.u64.wrap (-1 - IntKind.u64.wrap x0) + 1))) (fun y0=>
 .br (decide (1 + y0.length <= 4611686018427387904)) (.at ([45] ++ y0)) (.no))
 (.no))
def qjV (x0:Int):Option qCv:=qa2 (qlS x0).ev
theorem qAB (x0):qjV x0 = (qlS x0).ev:=qab _
theorem qRR:FH IP 87 qHn qIi qjV:=fh F87 qlS qCQ
def q0H:Tab:=(87,FE qHn qIi qjV) :: q0G
theorem qvR:qao IP q0H:=⟨qan qRR,qCQ⟩
abbrev qfZ:Type:=Int × Int × List UInt8
def qFn:List PSt:=[⟨[(1011600,.junk),(0,.int .i64),(1,.int .i64),(5,.str)],[],0,0⟩]
def qMb (x0 x1:Int) (x2:List UInt8):X × St:=(.exit 0,⟨[(5,.str x2)],[],0,0⟩)
def qXx:List (qfZ -> X × St):=[(k3 qMb)]
def qoC (x0 x1:Int) (x2:List UInt8):DT (Rd qfZ):=
 .bi (br (decide (x0 > 0)) (some true) (some (decide ((x2.length:Int) < x1)))) (fun y0=>
 .br (y0)
 (.br (leB (IntKind.i64.wrap (x0.tmod 10 + 1)) 10 && leB (x0.tmod 10) (IntKind.i64.wrap (x0.tmod 10 + 1)).toNat)
 (.br (decide
 ((List.take ((IntKind.i64.wrap (x0.tmod 10 + 1)).toNat - (x0.tmod 10).toNat) (List.drop (x0.tmod 10).toNat ([48,49,50,51,52,53,54,55,56,57]:List UInt8))).length + x2.length <=
 4611686018427387904))
 (.at (.next ((IntKind.i64.wrap (x0.tdiv 10),x1,List.take ((IntKind.i64.wrap (x0.tmod 10 + 1)).toNat - (x0.tmod 10).toNat) (List.drop (x0.tmod 10).toNat ([48,49,50,51,52,53,54,55,56,57]:List UInt8)) ++ x2))))
 (.no))
 (.no))
 (.at (.done 0)))
 (.no)
def qiC:qfZ -> DT (Rd qfZ):=(fun v=>qoC v.1 v.2.1 v.2.2)
def qnj (v:qfZ):Option (Nat × qfZ):=qa2 (qaw (fun v=>(qiC v).ev) v)
theorem qev (v):qnj v = qaw (fun v=>(qiC v).ev) v:=qab _
def qF0:qdA:=LE (τ:=qfZ) (hD qFn) (qnj) qXx
theorem qWR:Go.Eng.Told IP (qah qTs 0).1 (qah qTs 0).2 (qF0):=lp (inferInstance:Inhabited qfZ) (hs:=qFn) qiC qvR qev
abbrev qB2:Type:=List UInt8
def qGU:PArgs:=⟨[.int .i64,.int .i64],[]⟩
def qHP:List PRes:=[⟨false,.str,[]⟩]
def qjz (x0 x1:Int):DT qB2:=
 .bi (pj 0 (qnj (x0,x1,[]))) (fun y0=>
 .at (y0.2.2))
 (.no)
def qie (x0 x1:Int):Option qB2:=qa2 (qjz x0 x1).ev
theorem qpq (x0 x1):qie x0 x1 = (qjz x0 x1).ev:=qab _
theorem qRa:FH IP 116 qGU qHP (k2 qie):=qak (F:=qTs) (L:=[(1011600,qF0)]) (t:=(k2 qjz)) qvR (qae (l:=[qah qTs 0]) (by kernel_rfl) ⟨qaH (by kernel_rfl) qWR,trivial⟩) (by kernel_rfl) (fun v=>by kernel_rfl) (fun _=>qab _)
def q0I:Tab:=(116,FE qGU qHP (k2 qie)) :: q0H
theorem qvS:qao IP q0I:=⟨qan qRa,qvR⟩
abbrev qfY:Type:=List UInt8 × List UInt8
def qFl:List PSt:=[⟨[(1008800,.junk),(4,.str),(5,.str)],[],0,0⟩]
def qL8 (x0 x1:List UInt8):X × St:=(.exit 0,⟨[(4,.str x0),(5,.str x1)],[],0,0⟩)
def qXv:List (qfY -> X × St):=[(k2 qL8)]
def qjv (x0 x1:List UInt8):DT (Rd qfY):=
 .bi (br (decide ((x1.length:Int) > 0)) (br (inB x1.length (IntKind.i64.wrap ((x1.length:Int) - 1))) (some (qaA x1 (IntKind.i64.wrap ((x1.length:Int) - 1)) == 48)) none)
 (some false)) (fun y0=>
 .br (y0)
 (.br (leB (IntKind.i64.wrap ((x1.length:Int) - 1)) x1.length && true) (.at (.next ((x0,List.take (IntKind.i64.wrap ((x1.length:Int) - 1)).toNat x1)))) (.no))
 (.at (.done 0)))
 (.no)
def qkA:qfY -> DT (Rd qfY):=(fun v=>qjv v.1 v.2)
def qyG (v:qfY):Option (Nat × qfY):=qa2 (qaw (fun v=>(qkA v).ev) v)
theorem qi6 (v):qyG v = qaw (fun v=>(qkA v).ev) v:=qab _
def qFY:qdA:=LE (τ:=qfY) (hD qFl) (qyG) qXv
theorem qWP:Go.Eng.Told IP (qah F88 0).1 (qah F88 0).2 (qFY):=lp (inferInstance:Inhabited qfY) (hs:=qFl) qkA qvS qi6
abbrev qBU:Type:=List UInt8 × Int
def qGM:PArgs:=⟨[.int .i64],[]⟩
def qHH:List PRes:=[⟨false,.tup [.str,.int .i64],[]⟩]
def qlh (x0:Int):DT qBU:=
 .bi (br (decide (x0 < 0)) (some true) (some (decide (x0 > 1000000)))) (fun y0=>
 .br (y0)
 (.at (([],1)))
 (.bi (qie (IntKind.i64.wrap (x0.tdiv 10000)) 1) (fun y1=>
 .bi (qie (x0.tmod 10000) 4) (fun y2=>
 .bi (pj 0 (qyG (y1,y2))) (fun y3=>
 .br (!y3.2 == [])
 (.br (decide (y3.1.length + 1 <= 4611686018427387904))
 (.br (decide ((y3.1 ++ [46]).length + y3.2.length <= 4611686018427387904))
 (.br (decide ((y3.1 ++ [46] ++ y3.2).length + 1 <= 4611686018427387904)) (.at ((y3.1 ++ [46] ++ y3.2 ++ [37],0))) (.no))
 (.no))
 (.no))
 (.br (decide (y3.1.length + 1 <= 4611686018427387904)) (.at ((y3.1 ++ [37],0))) (.no)))
 (.no))
 (.no))
 (.no)))
 (.no)
def qmo (x0:Int):Option qBU:=qa2 (qlh x0).ev
theorem qz3 (x0):qmo x0 = (qlh x0).ev:=qab _
theorem qQZ:FH IP 88 qGM qHH qmo:=qak (F:=F88) (L:=[(1008800,qFY)]) (t:=qlh) qvS (qae (l:=[qah F88 0]) (by kernel_rfl) ⟨qaH (by kernel_rfl) qWP,trivial⟩) (by kernel_rfl) (fun v=>by kernel_rfl) (fun _=>qab _)
def q0J:Tab:=(88,FE qGM qHH qmo) :: q0I
theorem qCR:qao IP q0J:=⟨qan qQZ,qvS⟩
abbrev qCs:Type:=List AV
def qHk:PArgs:=⟨[.agg [.int .i64,.int .i64,.str,.view 4]],[]⟩
def qIf:List PRes:=[⟨false,.view 3,[]⟩]
def qlP (x0 x1:Int) (x2:List UInt8) (x3:List AV):DT qCs:=
 .br (x0 == 1)
 (.bi (qjV x1) (fun y0=>
 .bi (qaO 2 y0) (fun y1=>
 .at ([AV.agg [.int .i64 y1.1,.int .i64 y1.2.1,AV.str y1.2.2]]))
 (.no))
 (.no))
 (.br (x0 == 2)
 (.bi (qaO 4 [36]) (fun y0=>
 .bi (qjV x1) (fun y1=>
 .bi (qaO 2 y1) (fun y2=>
 .at ([AV.agg [.int .i64 y0.1,.int .i64 y0.2.1,AV.str y0.2.2],AV.agg [.int .i64 y2.1,.int .i64 y2.2.1,AV.str y2.2.2]]))
 (.no))
 (.no))
 (.no))
 (.br (x0 == 3)
 (.bi (qmo x1) (fun y0=>
 .bi (qaO 3 y0.1) (fun y1=>
 .at ([AV.agg [.int .i64 y1.1,.int .i64 y1.2.1,AV.str y1.2.2]]))
 (.no))
 (.no))
 (.bi (qaO 1 x2) (fun y0=>
 .at ([AV.agg [.int .i64 y0.1,.int .i64 y0.2.1,AV.str y0.2.2]]))
 (.no))))
def qmM (x0 x1:Int) (x2:List UInt8) (x3:List AV):Option qCs:=qa2 (qlP x0 x1 x2 x3).ev
theorem qAy (x0 x1 x2 x3):qmM x0 x1 x2 x3 = (qlP x0 x1 x2 x3).ev:=qab _
theorem qRO:FH IP 64 qHk qIf (k4 qmM):=fh F64 (k4 qlP) qCR
def q0K:Tab:=(64,FE qHk qIf (k4 qmM)) :: q0J
theorem qCS:qao IP q0K:=⟨qan qRO,qCR⟩
abbrev qCu:Type:=Int × Int × List UInt8
def qHm:PArgs:=⟨[.int .i64],[]⟩
def qIh:List PRes:=[⟨false,.agg [.int .i64,.int .i64,.str],[]⟩]
def qlR (x0:Int):DT qCu:=
 .br (x0 == 14)
 (.bi (qaO 5 [97,110,100]) (fun y0=>
 .at ((y0.1,y0.2.1,y0.2.2)))
 (.no))
 (.br (x0 == 15)
 (.bi (qaO 5 [111,114]) (fun y0=>
 .at ((y0.1,y0.2.1,y0.2.2)))
 (.no))
 (.br (x0 == 5)
 (.bi (qaO 4 [43]) (fun y0=>
 .at ((y0.1,y0.2.1,y0.2.2)))
 (.no))
 (.br (x0 == 6)
 (.bi (qaO 4 [45]) (fun y0=>
 .at ((y0.1,y0.2.1,y0.2.2)))
 (.no))
 (.br (x0 == 7)
 (.bi (qaO 4 [42]) (fun y0=>
 .at ((y0.1,y0.2.1,y0.2.2)))
 (.no))
 (.br (x0 == 8)
 (.bi (qaO 4 [47]) (fun y0=>
 .at ((y0.1,y0.2.1,y0.2.2)))
 (.no))
 (.br (x0 == 10)
 (.bi (qaO 4 [61,61]) (fun y0=>
 .at ((y0.1,y0.2.1,y0.2.2)))
 (.no))
 (.br (x0 == 11)
 (.bi (qaO 4 [33,61]) (fun y0=>
 .at ((y0.1,y0.2.1,y0.2.2)))
 (.no))
 (.br (x0 == 12)
 (.bi (qaO 4 [60]) (fun y0=>
 .at ((y0.1,y0.2.1,y0.2.2)))
 (.no))
 (.bi (qaO 4 [60,61]) (fun y0=>
 .at ((y0.1,y0.2.1,y0.2.2)))
 (.no))))))))))
def qgX (x0:Int):Option qCu:=qa2 (qlR x0).ev
theorem qAA (x0):qgX x0 = (qlR x0).ev:=qab _
theorem qRQ:FH IP 65 qHm qIh qgX:=fh F65 qlR qCS
def qYv:Tab:=(65,FE qHm qIh qgX) :: q0K
theorem qCT:qao IP qYv:=⟨qan qRQ,qCS⟩
abbrev qvy:Type:=List AV
def qnA:PArgs:=⟨[.agg [.int .i64,.int .i64,.str,.view 4],.int .i64],[]⟩
def qnW:List PRes:=[⟨false,.view 3,[]⟩]
abbrev qcv:Type:=Int -> Int -> (List UInt8) -> (List AV) -> Int -> Option qvy
def qqu (G_u111q:qcv):Prop:=FH IP 33 qnA qnW (k5 G_u111q)
def qJS (G_u111q:qcv):Tab:=(33,FE qnA qnW (k5 G_u111q)) :: qYv
theorem ql0 (G_u111q:qcv) (hG:qqu G_u111q):qao IP (qJS G_u111q):=⟨qan (hG),qCT⟩
abbrev qe6:Type:=(Int × Int × Int × List UInt8 × List AV × List AV) ⊕ (Int × Int × Int × List UInt8 × List AV × List AV × List AV)
def qFm:List PSt:=[⟨[(1003300,.junk),(2,.ref 0 0 0),(5,.nils 3),(7,.own 1 0),(8,.int .i64)],[(0,.box [.int .i64,.int .i64,.str,.view 4] false),(1,.arr 1 false)],2,0⟩,⟨[(1003300,.junk),(2,.ref 0 0 0),(5,.own 1 0),(7,.own 2 0),(8,.int .i64)],[(0,.box [.int .i64,.int .i64,.str,.view 4] false),(1,.arr 3 false),(2,.arr 1 false)],3,0⟩]
def qL9 (x0 x1 x2:Int) (x3:List UInt8) (x4 x5:List AV):X × St:=(.exit 1,⟨[(5,.nils ⟨3,.nil⟩)],[],0,0⟩)
def qMa (x0 x1 x2:Int) (x3:List UInt8) (x4 x5 x6:List AV):X × St:=(.exit 1,⟨[(5,.own 0 0 none)],[(0,.arr 3 x5 false)],1,0⟩)
def qXw:List (qe6 -> X × St):=[fun w=>(k6 qL9) ((sl w)),fun w=>(k7 qMa) ((sr w))]
def qIM (G_u111q:qcv) (x0 x1 x2:Int) (x3:List UInt8) (x4 x5:List AV):DT (Rd qe6):=
 .br (decide (x0 < (x5.length:Int)))
 (.br (inB x5.length x0)
 (.br (okP [.str] x5 x0.toNat 0)
 (.bi (qaO 5 (strOf (qfl x5 x0.toNat 0))) (fun y0=>
 .br (qaQ [.int .i64,.int .i64,.str,.slice 4] x4 x0)
 (.bi (G_u111q (intOf (cellAt x4 x0 0)) (intOf (cellAt x4 x0 1)) (strOf (cellAt x4 x0 2)) (qai (cellAt x4 x0 3)) 0) (fun y1=>
 .br (decide (y1.length = 0) && decide (3 = 3))
 (.at (.next ((.inr (IntKind.i64.wrap (x0 + 1),x1,x2,x3,x4,[AV.agg [.int .i64 y0.1,.int .i64 y0.2.1,AV.str y0.2.2]],x5)))))
 (.br (decide (y1.length ≠ 0) && room (1 + y1.length) 32)
 (.at (.next ((.inr (IntKind.i64.wrap (x0 + 1),x1,x2,x3,x4,AV.agg [.int .i64 y0.1,.int .i64 y0.2.1,AV.str y0.2.2] :: y1,x5)))))
 (.no)))
 (.no))
 (.no))
 (.no))
 (.no))
 (.no))
 (.at (.done 0))
def qIN (G_u111q:qcv) (x0 x1 x2:Int) (x3:List UInt8) (x4 x5 x6:List AV):DT (Rd qe6):=
 .br (decide (x0 < (x6.length:Int)))
 (.br (inB x6.length x0)
 (.br (okP [.str] x6 x0.toNat 0)
 (.bi (qaO 5 (strOf (qfl x6 x0.toNat 0))) (fun y0=>
 .br (room (x5.length + 1) 32)
 (.br (qaQ [.int .i64,.int .i64,.str,.slice 4] x4 x0)
 (.bi (G_u111q (intOf (cellAt x4 x0 0)) (intOf (cellAt x4 x0 1)) (strOf (cellAt x4 x0 2)) (qai (cellAt x4 x0 3)) 0) (fun y1=>
 .br (decide (y1.length = 0) && decide (3 = 3))
 (.at (.next ((.inr (IntKind.i64.wrap (x0 + 1),x1,x2,x3,x4,x5 ++ [AV.agg [.int .i64 y0.1,.int .i64 y0.2.1,AV.str y0.2.2]],x6)))))
 (.br (decide (y1.length ≠ 0) && room ((x5 ++ [AV.agg [.int .i64 y0.1,.int .i64 y0.2.1,AV.str y0.2.2]]).length + y1.length) 32)
 (.at (.next ((.inr (IntKind.i64.wrap (x0 + 1),x1,x2,x3,x4,x5 ++ [AV.agg [.int .i64 y0.1,.int .i64 y0.2.1,AV.str y0.2.2]] ++ y1,x6)))))
 (.no)))
 (.no))
 (.no))
 (.no))
 (.no))
 (.no))
 (.no))
 (.at (.done 1))
def qxs (G_u111q:qcv):qe6 -> DT (Rd qe6):=(Sum.elim (fun v=>qIM G_u111q v.1 v.2.1 v.2.2.1 v.2.2.2.1 v.2.2.2.2.1 v.2.2.2.2.2) (fun v=>qIN G_u111q v.1 v.2.1 v.2.2.1 v.2.2.2.1 v.2.2.2.2.1 v.2.2.2.2.2.1 v.2.2.2.2.2.2))
def qg3 (G_u111q:qcv) (v:qe6):Option (Nat × qe6):=qa2 (qaw (fun v=>(qxs G_u111q v).ev) v)
theorem qdF (G_u111q v):qg3 G_u111q v = qaw (fun v=>(qxs G_u111q v).ev) v:=qab _
def qFZ (G_u111q:qcv):qdA:=LE (τ:=qe6) (hD qFm) (qg3 G_u111q) qXw
theorem qWQ (G_u111q:qcv) (hG:qqu G_u111q):Go.Eng.Told IP (qah F33 0).1 (qah F33 0).2 (qFZ G_u111q):=qaF (inferInstance:Inhabited qe6) (hs:=qFm) (st:=qxs G_u111q) (L:=[]) (ql0 G_u111q hG) (qae (l:=[]) (by kernel_rfl) trivial) (qdF G_u111q) (fun v=>match v with | (.inl v)=>by kernel_rfl | (.inr v)=>by kernel_rfl) (fun v=>match v with | (.inl v)=>by kernel_rfl | (.inr v)=>by kernel_rfl)
def qhS (G_u111q:qcv) (x0 x1:Int) (x2:List UInt8) (x3:List AV) (x4:Int):DT qvy:=
 .bi (qeo x0) (fun y0=>
 .br (decide (y0 < x4))
 (.bi (qaO 4 [40]) (fun y1=>
 .bi (G_u111q x0 x1 x2 x3 0) (fun y2=>
 .br (decide (y2.length = 0) && decide (3 = 3))
 (.bi (qaO 4 [41]) (fun y3=>
 .at ([AV.agg [.int .i64 y1.1,.int .i64 y1.2.1,AV.str y1.2.2],AV.agg [.int .i64 y3.1,.int .i64 y3.2.1,AV.str y3.2.2]]))
 (.no))
 (.br (decide (y2.length ≠ 0) && room (1 + y2.length) 32)
 (.bi (qaO 4 [41]) (fun y3=>
 .br (room ((AV.agg [.int .i64 y1.1,.int .i64 y1.2.1,AV.str y1.2.2] :: y2).length + 1) 32)
 (.at (AV.agg [.int .i64 y1.1,.int .i64 y1.2.1,AV.str y1.2.2] ::
 (y2 ++ [AV.agg [.int .i64 y3.1,.int .i64 y3.2.1,AV.str y3.2.2]])))
 (.no))
 (.no))
 (.no)))
 (.no))
 (.no))
 (.br ((x3.length:Int) == 0)
 (.bi (qmM x0 x1 x2 x3) (fun y1=>
 .at (y1))
 (.no))
 (.br (x0 == 19)
 (.bi (pj 0 (qg3 G_u111q (Sum.inl (0,x0,x1,x2,x3,[AV.str [105,102],AV.str [116,104,101,110],AV.str [101,108,115,101]])))) (fun y1=>
 .at ([]))
 (.bi (pj 1 (qg3 G_u111q (Sum.inl (0,x0,x1,x2,x3,[AV.str [105,102],AV.str [116,104,101,110],AV.str [101,108,115,101]])))) (fun y1=>
 .at ((sr y1).2.2.2.2.2.1))
 (.no)))
 (.bi (br (x0 == 17) (some true) (some (x0 == 18))) (fun y1=>
 .br (y1)
 (.br (x0 == 18)
 (.bi (qaO 5 [109,97,120]) (fun y2=>
 .bi (qaO 4 [40]) (fun y3=>
 .br (qaQ [.int .i64,.int .i64,.str,.slice 4] x3 0)
 (.bi (G_u111q (intOf (cellAt x3 0 0)) (intOf (cellAt x3 0 1)) (strOf (cellAt x3 0 2)) (qai (cellAt x3 0 3)) 0) (fun y4=>
 .br (decide (y4.length = 0) && decide (3 = 3))
 (.bi (qaO 4 [44]) (fun y5=>
 .br (qaQ [.int .i64,.int .i64,.str,.slice 4] x3 1)
 (.bi (G_u111q (intOf (cellAt x3 1 0)) (intOf (cellAt x3 1 1)) (strOf (cellAt x3 1 2)) (qai (cellAt x3 1 3)) 0) (fun y6=>
 .br (decide (y6.length = 0) && decide (3 = 3))
 (.bi (qaO 4 [41]) (fun y7=>
 .at ([AV.agg [.int .i64 y2.1,.int .i64 y2.2.1,AV.str y2.2.2],AV.agg [.int .i64 y3.1,.int .i64 y3.2.1,AV.str y3.2.2],
 AV.agg [.int .i64 y5.1,.int .i64 y5.2.1,AV.str y5.2.2],AV.agg [.int .i64 y7.1,.int .i64 y7.2.1,AV.str y7.2.2]]))
 (.no))
 (.br (decide (y6.length ≠ 0) && room (3 + y6.length) 32)
 (.bi (qaO 4 [41]) (fun y7=>
 .br (room
 ((AV.agg [.int .i64 y2.1,.int .i64 y2.2.1,AV.str y2.2.2] ::
 AV.agg [.int .i64 y3.1,.int .i64 y3.2.1,AV.str y3.2.2] ::
 AV.agg [.int .i64 y5.1,.int .i64 y5.2.1,AV.str y5.2.2] :: y6).length +
 1)
 32)
 (.at (AV.agg [.int .i64 y2.1,.int .i64 y2.2.1,AV.str y2.2.2] ::
 AV.agg [.int .i64 y3.1,.int .i64 y3.2.1,AV.str y3.2.2] ::
 AV.agg [.int .i64 y5.1,.int .i64 y5.2.1,AV.str y5.2.2] ::
 (y6 ++ [AV.agg [.int .i64 y7.1,.int .i64 y7.2.1,AV.str y7.2.2]])))
 (.no))
 (.no))
 (.no)))
 (.no))
 (.no))
 (.no))
 (.br (decide (y4.length ≠ 0) && room (2 + y4.length) 32)
 (.bi (qaO 4 [44]) (fun y5=>
 .br (room
 ((AV.agg [.int .i64 y2.1,.int .i64 y2.2.1,AV.str y2.2.2] ::
 AV.agg [.int .i64 y3.1,.int .i64 y3.2.1,AV.str y3.2.2] :: y4).length +
 1)
 32)
 (.br (qaQ [.int .i64,.int .i64,.str,.slice 4] x3 1)
 (.bi (G_u111q (intOf (cellAt x3 1 0)) (intOf (cellAt x3 1 1)) (strOf (cellAt x3 1 2)) (qai (cellAt x3 1 3)) 0) (fun y6=>
 .br (decide (y6.length = 0) && decide (3 = 3))
 (.bi (qaO 4 [41]) (fun y7=>
 .br (room
 ((AV.agg [.int .i64 y2.1,.int .i64 y2.2.1,AV.str y2.2.2] ::
 AV.agg [.int .i64 y3.1,.int .i64 y3.2.1,AV.str y3.2.2] ::
 (y4 ++ [AV.agg [.int .i64 y5.1,.int .i64 y5.2.1,AV.str y5.2.2]])).length +
 1)
 32)
 (.at (AV.agg [.int .i64 y2.1,.int .i64 y2.2.1,AV.str y2.2.2] ::
 AV.agg [.int .i64 y3.1,.int .i64 y3.2.1,AV.str y3.2.2] ::
 (((y4 ++ [AV.agg [.int .i64 y5.1,.int .i64 y5.2.1,AV.str y5.2.2]])) ++ [AV.agg [.int .i64 y7.1,.int .i64 y7.2.1,AV.str y7.2.2]])))
 (.no))
 (.no))
 (.br (decide (y6.length ≠ 0) &&
 room
 ((AV.agg [.int .i64 y2.1,.int .i64 y2.2.1,AV.str y2.2.2] ::
 AV.agg [.int .i64 y3.1,.int .i64 y3.2.1,AV.str y3.2.2] ::
 (y4 ++ [AV.agg [.int .i64 y5.1,.int .i64 y5.2.1,AV.str y5.2.2]])).length +
 y6.length)
 32)
 (.bi (qaO 4 [41]) (fun y7=>
 .br (room
 ((AV.agg [.int .i64 y2.1,.int .i64 y2.2.1,AV.str y2.2.2] ::
 AV.agg [.int .i64 y3.1,.int .i64 y3.2.1,AV.str y3.2.2] ::
 (((y4 ++ [AV.agg [.int .i64 y5.1,.int .i64 y5.2.1,AV.str y5.2.2]])) ++ y6)).length +
 1)
 32)
 (.at (AV.agg [.int .i64 y2.1,.int .i64 y2.2.1,AV.str y2.2.2] ::
 AV.agg [.int .i64 y3.1,.int .i64 y3.2.1,AV.str y3.2.2] ::
 (((((y4 ++ [AV.agg [.int .i64 y5.1,.int .i64 y5.2.1,AV.str y5.2.2]])) ++ y6)) ++ [AV.agg [.int .i64 y7.1,.int .i64 y7.2.1,AV.str y7.2.2]])))
 (.no))
 (.no))
 (.no)))
 (.no))
 (.no))
 (.no))
 (.no))
 (.no)))
 (.no))
 (.no))
 (.no))
 (.no))
 (.bi (qaO 5 [109,105,110]) (fun y2=>
 .bi (qaO 4 [40]) (fun y3=>
 .br (qaQ [.int .i64,.int .i64,.str,.slice 4] x3 0)
 (.bi (G_u111q (intOf (cellAt x3 0 0)) (intOf (cellAt x3 0 1)) (strOf (cellAt x3 0 2)) (qai (cellAt x3 0 3)) 0) (fun y4=>
 .br (decide (y4.length = 0) && decide (3 = 3))
 (.bi (qaO 4 [44]) (fun y5=>
 .br (qaQ [.int .i64,.int .i64,.str,.slice 4] x3 1)
 (.bi (G_u111q (intOf (cellAt x3 1 0)) (intOf (cellAt x3 1 1)) (strOf (cellAt x3 1 2)) (qai (cellAt x3 1 3)) 0) (fun y6=>
 .br (decide (y6.length = 0) && decide (3 = 3))
 (.bi (qaO 4 [41]) (fun y7=>
 .at ([AV.agg [.int .i64 y2.1,.int .i64 y2.2.1,AV.str y2.2.2],AV.agg [.int .i64 y3.1,.int .i64 y3.2.1,AV.str y3.2.2],
 AV.agg [.int .i64 y5.1,.int .i64 y5.2.1,AV.str y5.2.2],AV.agg [.int .i64 y7.1,.int .i64 y7.2.1,AV.str y7.2.2]]))
 (.no))
 (.br (decide (y6.length ≠ 0) && room (3 + y6.length) 32)
 (.bi (qaO 4 [41]) (fun y7=>
 .br (room
 ((AV.agg [.int .i64 y2.1,.int .i64 y2.2.1,AV.str y2.2.2] ::
 AV.agg [.int .i64 y3.1,.int .i64 y3.2.1,AV.str y3.2.2] ::
 AV.agg [.int .i64 y5.1,.int .i64 y5.2.1,AV.str y5.2.2] :: y6).length +
 1)
 32)
 (.at (AV.agg [.int .i64 y2.1,.int .i64 y2.2.1,AV.str y2.2.2] ::
 AV.agg [.int .i64 y3.1,.int .i64 y3.2.1,AV.str y3.2.2] ::
 AV.agg [.int .i64 y5.1,.int .i64 y5.2.1,AV.str y5.2.2] ::
 (y6 ++ [AV.agg [.int .i64 y7.1,.int .i64 y7.2.1,AV.str y7.2.2]])))
 (.no))
 (.no))
 (.no)))
 (.no))
 (.no))
 (.no))
 (.br (decide (y4.length ≠ 0) && room (2 + y4.length) 32)
 (.bi (qaO 4 [44]) (fun y5=>
 .br (room
 ((AV.agg [.int .i64 y2.1,.int .i64 y2.2.1,AV.str y2.2.2] ::
 AV.agg [.int .i64 y3.1,.int .i64 y3.2.1,AV.str y3.2.2] :: y4).length +
 1)
 32)
 (.br (qaQ [.int .i64,.int .i64,.str,.slice 4] x3 1)
 (.bi (G_u111q (intOf (cellAt x3 1 0)) (intOf (cellAt x3 1 1)) (strOf (cellAt x3 1 2)) (qai (cellAt x3 1 3)) 0) (fun y6=>
 .br (decide (y6.length = 0) && decide (3 = 3))
 (.bi (qaO 4 [41]) (fun y7=>
 .br (room
 ((AV.agg [.int .i64 y2.1,.int .i64 y2.2.1,AV.str y2.2.2] ::
 AV.agg [.int .i64 y3.1,.int .i64 y3.2.1,AV.str y3.2.2] ::
 (y4 ++ [AV.agg [.int .i64 y5.1,.int .i64 y5.2.1,AV.str y5.2.2]])).length +
 1)
 32)
 (.at (AV.agg [.int .i64 y2.1,.int .i64 y2.2.1,AV.str y2.2.2] ::
 AV.agg [.int .i64 y3.1,.int .i64 y3.2.1,AV.str y3.2.2] ::
 (((y4 ++ [AV.agg [.int .i64 y5.1,.int .i64 y5.2.1,AV.str y5.2.2]])) ++ [AV.agg [.int .i64 y7.1,.int .i64 y7.2.1,AV.str y7.2.2]])))
 (.no))
 (.no))
 (.br (decide (y6.length ≠ 0) &&
 room
 ((AV.agg [.int .i64 y2.1,.int .i64 y2.2.1,AV.str y2.2.2] ::
 AV.agg [.int .i64 y3.1,.int .i64 y3.2.1,AV.str y3.2.2] ::
 (y4 ++ [AV.agg [.int .i64 y5.1,.int .i64 y5.2.1,AV.str y5.2.2]])).length +
 y6.length)
 32)
 (.bi (qaO 4 [41]) (fun y7=>
 .br (room
 ((AV.agg [.int .i64 y2.1,.int .i64 y2.2.1,AV.str y2.2.2] ::
 AV.agg [.int .i64 y3.1,.int .i64 y3.2.1,AV.str y3.2.2] ::
 (((y4 ++ [AV.agg [.int .i64 y5.1,.int .i64 y5.2.1,AV.str y5.2.2]])) ++ y6)).length +
 1)
 32)
 (.at (AV.agg [.int .i64 y2.1,.int .i64 y2.2.1,AV.str y2.2.2] ::
 AV.agg [.int .i64 y3.1,.int .i64 y3.2.1,AV.str y3.2.2] ::
 (((((y4 ++ [AV.agg [.int .i64 y5.1,.int .i64 y5.2.1,AV.str y5.2.2]])) ++ y6)) ++ [AV.agg [.int .i64 y7.1,.int .i64 y7.2.1,AV.str y7.2.2]])))
 (.no))
 (.no))
 (.no)))
 (.no))
 (.no))
 (.no))
 (.no))
 (.no)))
 (.no))
 (.no))
 (.no))
 (.no)))
 (.br (x0 == 16)
 (.bi (qaO 5 [110,111,116]) (fun y2=>
 .br (qaQ [.int .i64,.int .i64,.str,.slice 4] x3 0)
 (.bi (G_u111q (intOf (cellAt x3 0 0)) (intOf (cellAt x3 0 1)) (strOf (cellAt x3 0 2)) (qai (cellAt x3 0 3)) y0) (fun y3=>
 .br (decide (y3.length = 0) && decide (3 = 3))
 (.at ([AV.agg [.int .i64 y2.1,.int .i64 y2.2.1,AV.str y2.2.2]]))
 (.br (decide (y3.length ≠ 0) && room (1 + y3.length) 32) (.at (AV.agg [.int .i64 y2.1,.int .i64 y2.2.1,AV.str y2.2.2] :: y3)) (.no)))
 (.no))
 (.no))
 (.no))
 (.br (x0 == 9)
 (.bi (qaO 4 [45]) (fun y2=>
 .br (qaQ [.int .i64,.int .i64,.str,.slice 4] x3 0)
 (.bi (G_u111q (intOf (cellAt x3 0 0)) (intOf (cellAt x3 0 1)) (strOf (cellAt x3 0 2)) (qai (cellAt x3 0 3)) y0) (fun y3=>
 .br (decide (y3.length = 0) && decide (3 = 3))
 (.at ([AV.agg [.int .i64 y2.1,.int .i64 y2.2.1,AV.str y2.2.2]]))
 (.br (decide (y3.length ≠ 0) && room (1 + y3.length) 32) (.at (AV.agg [.int .i64 y2.1,.int .i64 y2.2.1,AV.str y2.2.2] :: y3)) (.no)))
 (.no))
 (.no))
 (.no))
 (.br (y0 == 4)
 (.br (qaQ [.int .i64,.int .i64,.str,.slice 4] x3 0)
 (.bi (G_u111q (intOf (cellAt x3 0 0)) (intOf (cellAt x3 0 1)) (strOf (cellAt x3 0 2)) (qai (cellAt x3 0 3)) 5) (fun y2=>
 .br (decide (y2.length = 0) && decide (3 = 3))
 (.bi (qgX x0) (fun y3=>
 .br (qaQ [.int .i64,.int .i64,.str,.slice 4] x3 1)
 (.bi (G_u111q (intOf (cellAt x3 1 0)) (intOf (cellAt x3 1 1)) (strOf (cellAt x3 1 2)) (qai (cellAt x3 1 3)) (IntKind.i64.wrap (y0 + 1))) (fun y4=>
 .br (decide (y4.length = 0) && decide (3 = 3))
 (.at ([AV.agg [.int .i64 y3.1,.int .i64 y3.2.1,AV.str y3.2.2]]))
 (.br (decide (y4.length ≠ 0) && room (1 + y4.length) 32) (.at (AV.agg [.int .i64 y3.1,.int .i64 y3.2.1,AV.str y3.2.2] :: y4)) (.no)))
 (.no))
 (.no))
 (.no))
 (.br (decide (y2.length ≠ 0) && room y2.length 32)
 (.bi (qgX x0) (fun y3=>
 .br (room (y2.length + 1) 32)
 (.br (qaQ [.int .i64,.int .i64,.str,.slice 4] x3 1)
 (.bi (G_u111q (intOf (cellAt x3 1 0)) (intOf (cellAt x3 1 1)) (strOf (cellAt x3 1 2)) (qai (cellAt x3 1 3)) (IntKind.i64.wrap (y0 + 1))) (fun y4=>
 .br (decide (y4.length = 0) && decide (3 = 3))
 (.at (y2 ++ [AV.agg [.int .i64 y3.1,.int .i64 y3.2.1,AV.str y3.2.2]]))
 (.br (decide (y4.length ≠ 0) && room ((y2 ++ [AV.agg [.int .i64 y3.1,.int .i64 y3.2.1,AV.str y3.2.2]]).length + y4.length) 32)
 (.at (y2 ++ [AV.agg [.int .i64 y3.1,.int .i64 y3.2.1,AV.str y3.2.2]] ++ y4))
 (.no)))
 (.no))
 (.no))
 (.no))
 (.no))
 (.no)))
 (.no))
 (.no))
 (.br (qaQ [.int .i64,.int .i64,.str,.slice 4] x3 0)
 (.bi (G_u111q (intOf (cellAt x3 0 0)) (intOf (cellAt x3 0 1)) (strOf (cellAt x3 0 2)) (qai (cellAt x3 0 3)) y0) (fun y2=>
 .br (decide (y2.length = 0) && decide (3 = 3))
 (.bi (qgX x0) (fun y3=>
 .br (qaQ [.int .i64,.int .i64,.str,.slice 4] x3 1)
 (.bi (G_u111q (intOf (cellAt x3 1 0)) (intOf (cellAt x3 1 1)) (strOf (cellAt x3 1 2)) (qai (cellAt x3 1 3)) (IntKind.i64.wrap (y0 + 1))) (fun y4=>
 .br (decide (y4.length = 0) && decide (3 = 3))
 (.at ([AV.agg [.int .i64 y3.1,.int .i64 y3.2.1,AV.str y3.2.2]]))
 (.br (decide (y4.length ≠ 0) && room (1 + y4.length) 32) (.at (AV.agg [.int .i64 y3.1,.int .i64 y3.2.1,AV.str y3.2.2] :: y4)) (.no)))
 (.no))
 (.no))
 (.no))
 (.br (decide (y2.length ≠ 0) && room y2.length 32)
 (.bi (qgX x0) (fun y3=>
 .br (room (y2.length + 1) 32)
 (.br (qaQ [.int .i64,.int .i64,.str,.slice 4] x3 1)
 (.bi (G_u111q (intOf (cellAt x3 1 0)) (intOf (cellAt x3 1 1)) (strOf (cellAt x3 1 2)) (qai (cellAt x3 1 3)) (IntKind.i64.wrap (y0 + 1))) (fun y4=>
 .br (decide (y4.length = 0) && decide (3 = 3))
 (.at (y2 ++ [AV.agg [.int .i64 y3.1,.int .i64 y3.2.1,AV.str y3.2.2]]))
 (.br (decide (y4.length ≠ 0) && room ((y2 ++ [AV.agg [.int .i64 y3.1,.int .i64 y3.2.1,AV.str y3.2.2]]).length + y4.length) 32)
 (.at (y2 ++ [AV.agg [.int .i64 y3.1,.int .i64 y3.2.1,AV.str y3.2.2]] ++ y4))
 (.no)))
 (.no))
 (.no))
 (.no))
 (.no))
 (.no)))
 (.no))
 (.no))))))
 (.no)))))
 (.no)
def qbj:Nat -> qcv
 | 0=>fun _ _ _ _ _=>none
 | n + 1=>fun x0 x1 x2 x3 x4=>(qhS ((qbj n)) x0 x1 x2 x3 x4).ev
def qq0 (x0 x1:Int) (x2:List UInt8) (x3:List AV) (x4:Int):Option qvy:=qfI fun n=>(qbj n) x0 x1 x2 x3 x4
theorem qo8:∀ n,qqu ((qbj n))
 | 0=>(fun v y h=>nomatch h)
 | n + 1=>have hG:=qo8 n
 qak (F:=F33) (L:=[(1003300,qFZ ((qbj n)))]) (t:=(k5 (qhS ((qbj n))))) (ql0 ((qbj n)) hG) (qae (l:=[qah F33 0]) (by kernel_rfl) ⟨qaH (by kernel_rfl) (qWQ ((qbj n)) hG),trivial⟩) (by kernel_rfl) (fun v=>by kernel_rfl) (fun v=>rfl)
theorem qQ1:FH IP 33 qnA qnW (k5 qq0):=qbk (p:=qnA) (rs:=qnW) (s:=fun n=>(k5 ((qbj n)))) fun n=>(qo8 n)
def q0L:Tab:=(33,FE qnA qnW (k5 qq0)) :: qYv
theorem qCU:qao IP q0L:=⟨qan qQ1,qCT⟩
abbrev qB4:Type:=List AV × Int
def qGW:PArgs:=⟨[.agg [.int .i64,.int .i64,.str,.view 4]],[]⟩
def qHR:List PRes:=[⟨false,.tup [.view 3,.int .i64],[]⟩]
def qlr (x0 x1:Int) (x2:List UInt8) (x3:List AV):DT qB4:=
 .bi (qmU x0 x1 x2 x3) (fun y0=>
 .br (y0 != 0)
 (.at (([],y0)))
 (.bi (qq0 x0 x1 x2 x3 0) (fun y1=>
 .at ((y1,0)))
 (.no)))
 (.no)
def qmv (x0 x1:Int) (x2:List UInt8) (x3:List AV):Option qB4:=qa2 (qlr x0 x1 x2 x3).ev
theorem qAd (x0 x1 x2 x3):qmv x0 x1 x2 x3 = (qlr x0 x1 x2 x3).ev:=qab _
theorem qRc:FH IP 15 qGW qHR (k4 qmv):=fh F15 (k4 qlr) qCU
def q0M:Tab:=(15,FE qGW qHR (k4 qmv)) :: q0L
theorem qvT:qao IP q0M:=⟨qan qRc,qCU⟩
abbrev qfM:Type:=List AV × List AV × Int
def qE7:List PSt:=[⟨[(1001600,.junk),(0,.view 3),(1,.view 3),(5,.int .i64)],[],0,0⟩]
def qLF (x0 x1:List AV) (x2:Int):X × St:=(.ret,⟨[(4,.bool false)],[],0,0⟩)
def qLG (x0 x1:List AV) (x2:Int):X × St:=(.exit 0,⟨[(4,.junk)],[],0,0⟩)
def qXh:List (qfM -> X × St):=[(k3 qLF),(k3 qLG)]
def qhj (x0 x1:List AV) (x2:Int):DT (Rd qfM):=
 .br (decide (x2 < (x0.length:Int)))
 (.br (qaQ [.int .i64,.int .i64,.str] x0 x2)
 (.br (qaQ [.int .i64,.int .i64,.str] x1 x2)
 (.br (if true = true then
 !(intOf (cellAt x0 x2 0) == intOf (cellAt x1 x2 0) && (intOf (cellAt x0 x2 1) == intOf (cellAt x1 x2 1) && (strOf (cellAt x0 x2 2) == strOf (cellAt x1 x2 2) && true)))
 else intOf (cellAt x0 x2 0) == intOf (cellAt x1 x2 0) && (intOf (cellAt x0 x2 1) == intOf (cellAt x1 x2 1) && (strOf (cellAt x0 x2 2) == strOf (cellAt x1 x2 2) && true)))
 (.at (.done 0))
 (.at (.next ((x0,x1,IntKind.i64.wrap (x2 + 1))))))
 (.no))
 (.no))
 (.at (.done 1))
def qxp:qfM -> DT (Rd qfM):=(fun v=>qhj v.1 v.2.1 v.2.2)
def qtN (v:qfM):Option (Nat × qfM):=qa2 (qaw (fun v=>(qxp v).ev) v)
theorem qtO (v):qtN v = qaw (fun v=>(qxp v).ev) v:=qab _
def qFK:qdA:=LE (τ:=qfM) (hD qE7) (qtN) qXh
theorem qWB:Go.Eng.Told IP (qah F16 0).1 (qah F16 0).2 (qFK):=lp (inferInstance:Inhabited qfM) (hs:=qE7) qxp qvT qtO
abbrev qMR:Type:=Bool
def qPi:PArgs:=⟨[.view 3,.view 3],[]⟩
def qP3:List PRes:=[⟨false,.bool,[]⟩]
def qsy (x0 x1:List AV):DT qMR:=
 .br ((x0.length:Int) != (x1.length:Int))
 (.at (false))
 (.bi (pj 0 (qtN (x0,x1,0))) (fun y0=>
 .at (false))
 (.bi (pj 1 (qtN (x0,x1,0))) (fun y0=>
 .at (true))
 (.no)))
def qpu (x0 x1:List AV):Option qMR:=qa2 (qsy x0 x1).ev
theorem qEs (x0 x1):qpu x0 x1 = (qsy x0 x1).ev:=qab _
theorem qUU:FH IP 16 qPi qP3 (k2 qpu):=qak (F:=F16) (L:=[(1001600,qFK)]) (t:=(k2 qsy)) qvT (qae (l:=[qah F16 0]) (by kernel_rfl) ⟨qaH (by kernel_rfl) qWB,trivial⟩) (by kernel_rfl) (fun v=>by kernel_rfl) (fun _=>qab _)
def q0N:Tab:=(16,FE qPi qP3 (k2 qpu)) :: q0M
theorem qCV:qao IP q0N:=⟨qan qUU,qvT⟩
abbrev qMQ:Type:=Bool
def qPh:PArgs:=⟨[.agg [.int .i64,.int .i64,.str,.view 4]],[]⟩
def qP2:List PRes:=[⟨false,.bool,[]⟩]
def qsx (x0 x1:Int) (x2:List UInt8) (x3:List AV):DT qMQ:=
 .bi (qdN x0 x1 x2 x3 300) (fun y0=>
 .br (y0)
 (.bi (qbp) (fun y1=>
 .at (y1))
 (.no))
 (.bi (qf8 x0 x1 x2 x3) (fun y1=>
 .bi (qmv x0 x1 x2 x3) (fun y2=>
 .br (y1.2 == y2.2)
 (.bi (qpu y1.1 y2.1) (fun y3=>
 .br (y3)
 (.bi (qeT x0 x1 x2 x3) (fun y4=>
 .bi (qmU x0 x1 x2 x3) (fun y5=>
 .br (y4 == y5)
 (.bi (qbp) (fun y6=>
 .at (y6))
 (.no))
 (.at (false)))
 (.no))
 (.no))
 (.at (false)))
 (.no))
 (.at (false)))
 (.no))
 (.no)))
 (.no)
def qyb (x0 x1:Int) (x2:List UInt8) (x3:List AV):Option qMQ:=qa2 (qsx x0 x1 x2 x3).ev
theorem qEr (x0 x1 x2 x3):qyb x0 x1 x2 x3 = (qsx x0 x1 x2 x3).ev:=qab _
theorem qOi:FH IP 4 qPh qP2 (k4 qyb):=fh F4 (k4 qsx) qCV
def qYw:Tab:=(4,FE qPh qP2 (k4 qyb)) :: q0N
theorem qCW:qao IP qYw:=⟨qan qOi,qCV⟩
abbrev qvG:Type:=Int
def qnJ:PArgs:=⟨[.agg [.int .i64,.int .i64,.str,.view 4]],[]⟩
def qn5:List PRes:=[⟨false,.int .i64,[]⟩]
abbrev qcU:Type:=Int -> Int -> (List UInt8) -> (List AV) -> Option qvG
def qqC (G_u150q:qcU):Prop:=FH IP 20 qnJ qn5 (k4 G_u150q)
def qJ0 (G_u150q:qcU):Tab:=(20,FE qnJ qn5 (k4 G_u150q)) :: qYw
theorem ql6 (G_u150q:qcU) (hG:qqC G_u150q):qao IP (qJ0 G_u150q):=⟨qan (hG),qCW⟩
abbrev qdU:Type:=Int × Int × Int × Int × List UInt8 × List AV
def qyi:List PSt:=[⟨[(1002000,.junk),(1,.ref 0 0 0),(3,.int .i64),(4,.int .i64)],[(0,.box [.int .i64,.int .i64,.str,.view 4] false)],1,0⟩]
def qJm (x0 x1:Int) (x2 x3:Int) (x4:List UInt8) (x5:List AV):X × St:=(.exit 0,⟨[(3,.int .i64 x0)],[],0,0⟩)
def qS8:List (qdU -> X × St):=[(k6 qJm)]
def qkq (G_u150q:qcU) (x0 x1:Int) (x2 x3:Int) (x4:List UInt8) (x5:List AV):DT (Rd qdU):=
 .br (decide (x1 < (x5.length:Int)))
 (.br (qaQ [.int .i64,.int .i64,.str,.slice 4] x5 x1)
 (.bi (G_u150q (intOf (cellAt x5 x1 0)) (intOf (cellAt x5 x1 1)) (strOf (cellAt x5 x1 2)) (qai (cellAt x5 x1 3))) (fun y0=>
 .at (.next ((IntKind.i64.wrap (x0 + y0),IntKind.i64.wrap (x1 + 1),x2,x3,x4,x5))))
 (.no))
 (.no))
 (.at (.done 0))
def qjm (G_u150q:qcU):qdU -> DT (Rd qdU):=(fun v=>qkq G_u150q v.1 v.2.1 v.2.2.1 v.2.2.2.1 v.2.2.2.2.1 v.2.2.2.2.2)
def qre (G_u150q:qcU) (v:qdU):Option (Nat × qdU):=qa2 (qaw (fun v=>(qjm G_u150q v).ev) v)
theorem qpQ (G_u150q v):qre G_u150q v = qaw (fun v=>(qjm G_u150q v).ev) v:=qab _
def qyS (G_u150q:qcU):qdA:=LE (τ:=qdU) (hD qyi) (qre G_u150q) qS8
theorem qSO (G_u150q:qcU) (hG:qqC G_u150q):Go.Eng.Told IP (qah F20 0).1 (qah F20 0).2 (qyS G_u150q):=qaF (inferInstance:Inhabited qdU) (hs:=qyi) (st:=qjm G_u150q) (L:=[]) (ql6 G_u150q hG) (qae (l:=[]) (by kernel_rfl) trivial) (qpQ G_u150q) (fun v=>by kernel_rfl) (fun v=>by kernel_rfl)
def qr8 (G_u150q:qcU) (x0 x1:Int) (x2:List UInt8) (x3:List AV):DT qvG:=
 .bi (pj 0 (qre G_u150q (1,0,x0,x1,x2,x3))) (fun y0=>
 .at (y0.1))
 (.no)
end
end Go.Proofs.H10

/- Functions over plain data. Printed by a program of mine. -/
import Derived.Test.YtgpbobelbcbcaaaGreatDoorD10_2
import Derived.KernelRfl
set_option linter.unusedVariables false
set_option linter.unusedSimpArgs false
set_option linter.unnecessarySimpa false
namespace Go.Proofs.H10
open Go Go.Eng
set_option maxRecDepth 100000
noncomputable section
abbrev qMH:Type:=List AV
def qO8:PArgs:=⟨[.ref 0 0 0,.int .i64,.str],[(0,.box [.own 1 0] false),(1,.arr 3 false)]⟩
def qPT:List PRes:=[⟨false,.tup [],[(0,.box [.own 2 0] false),(2,.arr 3 false)]⟩]
def qsl (x0:Int) (x1:List UInt8) (x2:List AV):DT qMH:=
 .br (room (x2.length + 1) 32) (.at (x2 ++ [AV.agg [.int .i64 x0,.int .i64 1,AV.str x1]])) (.no)
def qgY (x0:Int) (x1:List UInt8) (x2:List AV):Option qMH:=qa2 (qsl x0 x1 x2).ev
theorem qEh (x0 x1 x2):qgY x0 x1 x2 = (qsl x0 x1 x2).ev:=qab _
theorem qUL:FH IP 54 qO8 qPT (k3 qgY):=fh F54 (k3 qsl) qNF
def T49:Tab:=(54,FE qO8 qPT (k3 qgY)) :: T48
theorem qNG:qao IP T49:=⟨qan qUL,qNF⟩
abbrev qM0:Type:=List UInt8 × Int
def qPs:PArgs:=⟨[.int .i64],[]⟩
def qQd:List PRes:=[⟨false,.tup [.str,.int .i64],[]⟩]
def qsJ (x0:Int):DT qM0:=
 .bi (br (decide (x0 < 0)) (some true) (some (decide (x0 > 1000000)))) (fun y0=>
 .br (y0)
 (.at (([],1)))
 (.br (decide (-9223372036854775808 <= IntKind.i64.wrap (10000 + x0.tmod 10000)) && decide (IntKind.i64.wrap (10000 + x0.tmod 10000) <= 9223372036854775807))
 (.br (leB 1 (Lib.itoa (IntKind.i64.wrap (10000 + x0.tmod 10000))).length)
 (.br (decide ((List.drop 1 (Lib.itoa (IntKind.i64.wrap (10000 + x0.tmod 10000)))).length <= 9223372036854775807))
 (.br (decide (-9223372036854775808 <= IntKind.i64.wrap (x0.tdiv 10000)) && decide (IntKind.i64.wrap (x0.tdiv 10000) <= 9223372036854775807))
 (.br (!Lib.trimRightB (List.drop 1 (Lib.itoa (IntKind.i64.wrap (10000 + x0.tmod 10000)))) 48 == [])
 (.br (decide (1 + (Lib.trimRightB (List.drop 1 (Lib.itoa (IntKind.i64.wrap (10000 + x0.tmod 10000)))) 48).length <= 4611686018427387904))
 (.br (decide
 ((Lib.itoa (IntKind.i64.wrap (x0.tdiv 10000))).length + ([46] ++ Lib.trimRightB (List.drop 1 (Lib.itoa (IntKind.i64.wrap (10000 + x0.tmod 10000)))) 48).length <=
 4611686018427387904))
 (.br (decide
 ((Lib.itoa (IntKind.i64.wrap (x0.tdiv 10000)) ++ ([46] ++ Lib.trimRightB (List.drop 1 (Lib.itoa (IntKind.i64.wrap (10000 + x0.tmod 10000)))) 48)).length + 1 <=
 4611686018427387904))
 (.at ((Lib.itoa (IntKind.i64.wrap (x0.tdiv 10000)) ++ ([46] ++ Lib.trimRightB (List.drop 1 (Lib.itoa (IntKind.i64.wrap (10000 + x0.tmod 10000)))) 48) ++ [37],0)))
 (.no))
 (.no))
 (.no))
 (.br (decide ((Lib.itoa (IntKind.i64.wrap (x0.tdiv 10000))).length + 1 <= 4611686018427387904)) (.at ((Lib.itoa (IntKind.i64.wrap (x0.tdiv 10000)) ++ [37],0))) (.no)))
 (.no))
 (.no))
 (.no))
 (.no)))
 (.no)
def qpy (x0:Int):Option qM0:=qa2 (qsJ x0).ev
theorem qEC (x0):qpy x0 = (qsJ x0).ev:=qab _
theorem qU4:FH IP 57 qPs qQd qpy:=fh F57 qsJ qNG
def T50:Tab:=(57,FE qPs qQd qpy) :: T49
theorem qNH:qao IP T50:=⟨qan qU4,qNG⟩
abbrev qCj:Type:=Int
def qHb:PArgs:=⟨[.int .i64],[]⟩
def qH6:List PRes:=[⟨false,.int .i64,[]⟩]
def qlH (x0:Int):DT qCj:=
 .br (x0 == 19)
 (.at (0))
 (.br (x0 == 15)
 (.at (1))
 (.br (x0 == 14)
 (.at (2))
 (.br (x0 == 16)
 (.at (3))
 (.br (x0 == 10)
 (.br (x0 == 10)
 (.at (4))
 (.br (x0 == 5)
 (.br (x0 == 5)
 (.at (5))
 (.br (x0 == 7)
 (.br (x0 == 7)
 (.at (6))
 (.br (x0 == 9) (.at (7)) (.at (8))))
 (.br (x0 == 8)
 (.at (6))
 (.br (x0 == 9) (.at (7)) (.at (8))))))
 (.br (x0 == 6)
 (.at (5))
 (.br (x0 == 7)
 (.br (x0 == 7)
 (.at (6))
 (.br (x0 == 9) (.at (7)) (.at (8))))
 (.br (x0 == 8)
 (.at (6))
 (.br (x0 == 9) (.at (7)) (.at (8))))))))
 (.br (x0 == 11)
 (.br (x0 == 11)
 (.at (4))
 (.br (x0 == 5)
 (.br (x0 == 5)
 (.at (5))
 (.br (x0 == 7)
 (.br (x0 == 7)
 (.at (6))
 (.br (x0 == 9) (.at (7)) (.at (8))))
 (.br (x0 == 8)
 (.at (6))
 (.br (x0 == 9) (.at (7)) (.at (8))))))
 (.br (x0 == 6)
 (.at (5))
 (.br (x0 == 7)
 (.br (x0 == 7)
 (.at (6))
 (.br (x0 == 9) (.at (7)) (.at (8))))
 (.br (x0 == 8)
 (.at (6))
 (.br (x0 == 9) (.at (7)) (.at (8))))))))
 (.br (x0 == 12)
 (.br (x0 == 12)
 (.at (4))
 (.br (x0 == 5)
 (.br (x0 == 5)
 (.at (5))
 (.br (x0 == 7)
 (.br (x0 == 7)
 (.at (6))
 (.br (x0 == 9) (.at (7)) (.at (8))))
 (.br (x0 == 8)
 (.at (6))
 (.br (x0 == 9) (.at (7)) (.at (8))))))
 (.br (x0 == 6)
 (.at (5))
 (.br (x0 == 7)
 (.br (x0 == 7)
 (.at (6))
 (.br (x0 == 9) (.at (7)) (.at (8))))
 (.br (x0 == 8)
 (.at (6))
 (.br (x0 == 9) (.at (7)) (.at (8))))))))
 (.br (x0 == 13)
 (.at (4))
 (.br (x0 == 5)
 (.br (x0 == 5)
 (.at (5))
 (.br (x0 == 7)
 (.br (x0 == 7)
 (.at (6))
 (.br (x0 == 9) (.at (7)) (.at (8))))
 (.br (x0 == 8)
 (.at (6))
 (.br (x0 == 9) (.at (7)) (.at (8))))))
 (.br (x0 == 6)
 (.at (5))
 (.br (x0 == 7)
 (.br (x0 == 7)
 (.at (6))
 (.br (x0 == 9) (.at (7)) (.at (8))))
 (.br (x0 == 8)
 (.at (6))
 (.br (x0 == 9) (.at (7)) (.at (8))))))))))))))
def qaW (x0:Int):Option qCj:=qa2 (qlH x0).ev
theorem qAr (x0):qaW x0 = (qlH x0).ev:=qab _
theorem qRE:FH IP 59 qHb qH6 qaW:=fh F59 qlH qNH
def T51:Tab:=(59,FE qHb qH6 qaW) :: T50
theorem qNI:qao IP T51:=⟨qan qRE,qNH⟩
abbrev qMG:Type:=List AV
def qO7:PArgs:=⟨[.ref 0 0 0,.str],[(0,.box [.own 1 0] false),(1,.arr 3 false)]⟩
def qPS:List PRes:=[⟨false,.tup [],[(0,.box [.own 2 0] false),(2,.arr 3 false)]⟩]
def qsj (x0:List UInt8) (x1:List AV):DT qMG:=
 .bi (qgV x0) (fun y0=>
 .br (y0)
 (.bi (qgY 5 x0 x1) (fun y1=>
 .at (y1))
 (.no))
 (.bi (qgY 4 x0 x1) (fun y1=>
 .at (y1))
 (.no)))
 (.no)
def qa5 (x0:List UInt8) (x1:List AV):Option qMG:=qa2 (qsj x0 x1).ev
theorem qEf (x0 x1):qa5 x0 x1 = (qsj x0 x1).ev:=qab _
theorem qUJ:FH IP 56 qO7 qPS (k2 qa5):=fh F56 (k2 qsj) qNI
def T52:Tab:=(56,FE qO7 qPS (k2 qa5)) :: T51
theorem qNJ:qao IP T52:=⟨qan qUJ,qNI⟩
abbrev qBX:Type:=List AV
def qGP:PArgs:=⟨[],[]⟩
def qHK:List PRes:=[⟨false,.view 1,[]⟩]
def qll:DT qBX:=
 .at ([AV.view 2 [AV.agg [AV.str [111,114],.int .i64 15]],AV.view 2 [AV.agg [AV.str [97,110,100],.int .i64 14]],
 AV.view 2
 [AV.agg [AV.str [61,61],.int .i64 10],AV.agg [AV.str [33,61],.int .i64 11],AV.agg [AV.str [60],.int .i64 12],
 AV.agg [AV.str [60,61],.int .i64 13]],
 AV.view 2 [AV.agg [AV.str [43],.int .i64 5],AV.agg [AV.str [45],.int .i64 6]],
 AV.view 2 [AV.agg [AV.str [42],.int .i64 7],AV.agg [AV.str [47],.int .i64 8]]])
def qic:Option qBX:=qa2 (qll).ev
theorem qz6:qic = (qll).ev:=qab _
theorem qQ5:FH IP 77 qGP qHK (fun _=>qic):=qak (F:=F77) (L:=[]) (t:=(fun _=>qll)) qNJ (qae (l:=[]) (by kernel_rfl) trivial) (by kernel_rfl) (fun v=>by kernel_rfl) (fun _=>qab _)
def T53:Tab:=(77,FE qGP qHK (fun _=>qic)) :: T52
theorem qxN:qao IP T53:=⟨qan qQ5,qNJ⟩
abbrev qdY:Type:=Int × List AV × Int × Int × List AV × Int × Int
def qyn:List PSt:=[⟨[(1006101,.junk),(0,.int .i64),(7,.view 1),(8,.int .i64),(9,.int .i64),(13,.view 2),(14,.int .i64),(15,.int .i64)],[],0,0⟩]
def qJy (x0:Int) (x1:List AV) (x2 x3:Int) (x4:List AV) (x5 x6:Int):X × St:=(.ret,
 ⟨[(0,.int .i64 x0),(2,.str (strOf (cellAt x4 x6 0))),(7,.view 1 x1),(8,.int .i64 x2),(9,.int .i64 x3)],[],0,0⟩)
def qJz (x0:Int) (x1:List AV) (x2 x3:Int) (x4:List AV) (x5 x6:Int):X × St:=(.exit 2,⟨[(0,.int .i64 x0),(2,.junk),(7,.view 1 x1),(8,.int .i64 x2),(9,.int .i64 x3)],[],0,0⟩)
def qTd:List (qdY -> X × St):=[(k7 qJy),(k7 qJz)]
def qkt (x0:Int) (x1:List AV) (x2 x3:Int) (x4:List AV) (x5 x6:Int):DT (Rd qdY):=
 .br (decide (x6 < x5))
 (.br (qaQ [.str,.int .i64] x4 x6)
 (.br (intOf (cellAt x4 x6 1) == x0) (.at (.done 0)) (.at (.next ((x0,x1,x2,x3,x4,x5,IntKind.i64.wrap (x6 + 1))))))
 (.no))
 (.at (.done 1))
def qjp:qdY -> DT (Rd qdY):=(fun v=>qkt v.1 v.2.1 v.2.2.1 v.2.2.2.1 v.2.2.2.2.1 v.2.2.2.2.2.1 v.2.2.2.2.2.2)
def qet (v:qdY):Option (Nat × qdY):=qa2 (qaw (fun v=>(qjp v).ev) v)
theorem qpT (v):qet v = qaw (fun v=>(qjp v).ev) v:=qab _
def qrh:qdA:=LE (τ:=qdY) (hD qyn) (qet) qTd
theorem qIW:Go.Eng.Told IP (qah F61 1).1 (qah F61 1).2 (qrh):=lp (inferInstance:Inhabited qdY) (hs:=qyn) qjp qxN qpT
abbrev qdX:Type:=Int × List AV × Int × Int
def qym:List PSt:=[⟨[(1006100,.junk),(0,.int .i64),(7,.view 1),(8,.int .i64),(9,.int .i64)],[],0,0⟩]
def qJw (x0:Int) (x1:List AV) (x2 x3:Int):X × St:=(.ret,
 ⟨[(2,
 .str
 (strOf
 (cellAt (gv (pj 0 (qet (x0,x1,x2,x3,qai (cellAt x1 x3 0),((qai (cellAt x1 x3 0)).length:Int),0)))).2.2.2.2.1
 (gv (pj 0 (qet (x0,x1,x2,x3,qai (cellAt x1 x3 0),((qai (cellAt x1 x3 0)).length:Int),0)))).2.2.2.2.2.2 0)))],[],0,0⟩)
def qJx (x0:Int) (x1:List AV) (x2 x3:Int):X × St:=(.exit 0,⟨[(2,.junk)],[],0,0⟩)
def qTc:List (qdX -> X × St):=[(k4 qJw),(k4 qJx)]
def qks (x0:Int) (x1:List AV) (x2 x3:Int):DT (Rd qdX):=
 .br (decide (x3 < x2))
 (.br (qaQ [.slice 2] x1 x3)
 (.bi (pj 0 (qet (x0,x1,x2,x3,qai (cellAt x1 x3 0),((qai (cellAt x1 x3 0)).length:Int),0))) (fun y0=>
 .at (.done 0))
 (.bi (pj 1 (qet (x0,x1,x2,x3,qai (cellAt x1 x3 0),((qai (cellAt x1 x3 0)).length:Int),0))) (fun y0=>
 .at (.next ((y0.1,y0.2.1,y0.2.2.1,IntKind.i64.wrap (y0.2.2.2.1 + 1)))))
 (.no)))
 (.no))
 (.at (.done 1))
def qjo:qdX -> DT (Rd qdX):=(fun v=>qks v.1 v.2.1 v.2.2.1 v.2.2.2)
def qne (v:qdX):Option (Nat × qdX):=qa2 (qaw (fun v=>(qjo v).ev) v)
theorem qpS (v):qne v = qaw (fun v=>(qjo v).ev) v:=qab _
def qyW:qdA:=LE (τ:=qdX) (hD qym) (qne) qTc
theorem qSS:Go.Eng.Told IP (qah F61 0).1 (qah F61 0).2 (qyW):=qaF (inferInstance:Inhabited qdX) (hs:=qym) (st:=qjo) (L:=[(1006101,qrh)]) qxN (qae (l:=[qah F61 1]) (by kernel_rfl) ⟨qaH (by kernel_rfl) qIW,trivial⟩) (qpS) (fun v=>by kernel_rfl) (fun v=>by kernel_rfl)
abbrev qCk:Type:=List UInt8
def qHc:PArgs:=⟨[.int .i64],[]⟩
def qH7:List PRes:=[⟨false,.str,[]⟩]
def qlI (x0:Int):DT qCk:=
 .bi (qic) (fun y0=>
 .bi (pj 0 (qne (x0,y0,(y0.length:Int),0))) (fun y1=>
 .at (strOf
 (cellAt
 (gv
 (pj 0
 (qet
 (y1.1,y1.2.1,y1.2.2.1,y1.2.2.2,qai (cellAt y1.2.1 y1.2.2.2 0),((qai (cellAt y1.2.1 y1.2.2.2 0)).length:Int),
 0)))).2.2.2.2.1
 (gv
 (pj 0
 (qet
 (y1.1,y1.2.1,y1.2.2.1,y1.2.2.2,qai (cellAt y1.2.1 y1.2.2.2 0),
 ((qai (cellAt y1.2.1 y1.2.2.2 0)).length:Int),0)))).2.2.2.2.2.2
 0)))
 (.bi (pj 1 (qne (x0,y0,(y0.length:Int),0))) (fun y1=>
 .at ([]))
 (.no)))
 (.no)
def qbZ (x0:Int):Option qCk:=qa2 (qlI x0).ev
theorem qAs (x0):qbZ x0 = (qlI x0).ev:=qab _
theorem qRF:FH IP 61 qHc qH7 qbZ:=qak (F:=F61) (L:=[(1006100,qyW),(1006101,qrh)]) (t:=qlI) qxN (qae (l:=[qah F61 0,qah F61 1]) (by kernel_rfl) ⟨qaH (by kernel_rfl) qSS,qaH (by kernel_rfl) qIW,trivial⟩) (by kernel_rfl) (fun v=>by kernel_rfl) (fun _=>qab _)
def T54:Tab:=(61,FE qHc qH7 qbZ) :: T53
theorem qNK:qao IP T54:=⟨qan qRF,qxN⟩
abbrev qCA:Type:=List AV
def quB:PArgs:=⟨[.ref 0 0 0,.agg [.int .i64,.int .i64,.str,.view 4],.int .i64],[(0,.box [.own 1 0] false),(1,.arr 3 false)]⟩
def quQ:List PRes:=[⟨false,.tup [],[(0,.box [.own 2 0] false),(2,.arr 3 false)]⟩]
abbrev qh7:Type:=Int -> Int -> (List UInt8) -> (List AV) -> Int -> (List AV) -> Option qCA
abbrev qxL:Type:=List AV
def quE:PArgs:=⟨[.ref 0 0 0,.agg [.int .i64,.int .i64,.str,.view 4]],[(0,.box [.own 1 0] false),(1,.arr 3 false)]⟩
def quT:List PRes:=[⟨false,.tup [],[(0,.box [.own 2 0] false),(2,.arr 3 false)]⟩]
abbrev qh8:Type:=Int -> Int -> (List UInt8) -> (List AV) -> (List AV) -> Option qxL
abbrev qCz:Type:=List AV
def quA:PArgs:=⟨[.ref 0 0 0,.agg [.int .i64,.int .i64,.str,.view 4]],[(0,.box [.own 1 0] false),(1,.arr 3 false)]⟩
def quP:List PRes:=[⟨false,.tup [],[(0,.box [.own 2 0] false),(2,.arr 3 false)]⟩]
abbrev qh6:Type:=Int -> Int -> (List UInt8) -> (List AV) -> (List AV) -> Option qCz
def qCM (G_u21q:qh7) (G_u28q:qh8) (G_u18q:qh6):Prop:=FH IP 58 quB quQ (k6 G_u21q) /\ FH IP 32 quE quT (k5 G_u28q) /\ FH IP 60 quA quP (k5 G_u18q)
def qQM (G_u21q:qh7) (G_u28q:qh8) (G_u18q:qh6):Tab:=(58,FE quB quQ (k6 G_u21q)) :: (32,FE quE quT (k5 G_u28q)) :: (60,FE quA quP (k5 G_u18q)) :: T54
theorem qjL (G_u21q:qh7) (G_u28q:qh8) (G_u18q:qh6) (hG:qCM G_u21q G_u28q G_u18q):qao IP (qQM G_u21q G_u28q G_u18q):=⟨qan (hG.1),qan (hG.2.1),qan (hG.2.2),qNK⟩
def qkG (G_u21q:qh7) (G_u28q:qh8) (G_u18q:qh6) (x0 x1:Int) (x2:List UInt8) (x3:List AV) (x4:Int) (x5:List AV):DT qCA:=
 .bi (qaW x0) (fun y0=>
 .br (decide (y0 >= x4))
 (.bi (G_u28q x0 x1 x2 x3 x5) (fun y1=>
 .at (y1))
 (.no))
 (.bi (qa5 [40] x5) (fun y1=>
 .bi (G_u28q x0 x1 x2 x3 y1) (fun y2=>
 .bi (qa5 [41] y2) (fun y3=>
 .at (y3))
 (.no))
 (.no))
 (.no)))
 (.no)
def qsi (G_u21q:qh7) (G_u28q:qh8) (G_u18q:qh6) (x0 x1:Int) (x2:List UInt8) (x3 x4:List AV):DT qxL:=
 .br (x0 == 1)
 (.br (decide (-9223372036854775808 <= x1) && decide (x1 <= 9223372036854775807))
 (.bi (qgY 2 (Lib.itoa x1) x4) (fun y0=>
 .at (y0))
 (.no))
 (.no))
 (.br (x0 == 2)
 (.bi (qa5 [36] x4) (fun y0=>
 .br (decide (-9223372036854775808 <= x1) && decide (x1 <= 9223372036854775807))
 (.bi (qgY 2 (Lib.itoa x1) y0) (fun y1=>
 .at (y1))
 (.no))
 (.no))
 (.no))
 (.br (x0 == 3)
 (.bi (qpy x1) (fun y0=>
 .bi (qgY 3 y0.1 x4) (fun y1=>
 .at (y1))
 (.no))
 (.no))
 (.br (x0 == 4)
 (.bi (qgY 1 x2 x4) (fun y0=>
 .at (y0))
 (.no))
 (.br (x0 == 9)
 (.bi (qa5 [45] x4) (fun y0=>
 .br (qaQ [.int .i64,.int .i64,.str,.slice 4] x3 0)
 (.bi (qaW x0) (fun y1=>
 .bi (G_u21q (intOf (cellAt x3 0 0)) (intOf (cellAt x3 0 1)) (strOf (cellAt x3 0 2)) (qai (cellAt x3 0 3)) y1 y0) (fun y2=>
 .at (y2))
 (.no))
 (.no))
 (.no))
 (.no))
 (.br (x0 == 16)
 (.bi (qa5 [110,111,116] x4) (fun y0=>
 .br (qaQ [.int .i64,.int .i64,.str,.slice 4] x3 0)
 (.bi (qaW x0) (fun y1=>
 .bi (G_u21q (intOf (cellAt x3 0 0)) (intOf (cellAt x3 0 1)) (strOf (cellAt x3 0 2)) (qai (cellAt x3 0 3)) y1 y0) (fun y2=>
 .at (y2))
 (.no))
 (.no))
 (.no))
 (.no))
 (.br (x0 == 17)
 (.br (x0 == 17)
 (.bi (G_u18q x0 x1 x2 x3 x4) (fun y0=>
 .at (y0))
 (.no))
 (.bi (qaW x0) (fun y0=>
 .bi (qaW 10) (fun y1=>
 .br (y0 == y1)
 (.br (qaQ [.int .i64,.int .i64,.str,.slice 4] x3 0)
 (.bi (G_u21q (intOf (cellAt x3 0 0)) (intOf (cellAt x3 0 1)) (strOf (cellAt x3 0 2)) (qai (cellAt x3 0 3)) (IntKind.i64.wrap (y0 + 1)) x4) (fun y2=>
 .bi (qbZ x0) (fun y3=>
 .bi (qa5 y3 y2) (fun y4=>
 .br (qaQ [.int .i64,.int .i64,.str,.slice 4] x3 1)
 (.bi (qaW x0) (fun y5=>
 .bi (G_u21q (intOf (cellAt x3 1 0)) (intOf (cellAt x3 1 1)) (strOf (cellAt x3 1 2)) (qai (cellAt x3 1 3)) (IntKind.i64.wrap (y5 + 1)) y4) (fun y6=>
 .at (y6))
 (.no))
 (.no))
 (.no))
 (.no))
 (.no))
 (.no))
 (.no))
 (.br (qaQ [.int .i64,.int .i64,.str,.slice 4] x3 0)
 (.bi (G_u21q (intOf (cellAt x3 0 0)) (intOf (cellAt x3 0 1)) (strOf (cellAt x3 0 2)) (qai (cellAt x3 0 3)) y0 x4) (fun y2=>
 .bi (qbZ x0) (fun y3=>
 .bi (qa5 y3 y2) (fun y4=>
 .br (qaQ [.int .i64,.int .i64,.str,.slice 4] x3 1)
 (.bi (qaW x0) (fun y5=>
 .bi (G_u21q (intOf (cellAt x3 1 0)) (intOf (cellAt x3 1 1)) (strOf (cellAt x3 1 2)) (qai (cellAt x3 1 3)) (IntKind.i64.wrap (y5 + 1)) y4) (fun y6=>
 .at (y6))
 (.no))
 (.no))
 (.no))
 (.no))
 (.no))
 (.no))
 (.no)))
 (.no))
 (.no)))
 (.br (x0 == 18)
 (.br (x0 == 18)
 (.bi (G_u18q x0 x1 x2 x3 x4) (fun y0=>
 .at (y0))
 (.no))
 (.bi (qaW x0) (fun y0=>
 .bi (qaW 10) (fun y1=>
 .br (y0 == y1)
 (.br (qaQ [.int .i64,.int .i64,.str,.slice 4] x3 0)
 (.bi (G_u21q (intOf (cellAt x3 0 0)) (intOf (cellAt x3 0 1)) (strOf (cellAt x3 0 2)) (qai (cellAt x3 0 3)) (IntKind.i64.wrap (y0 + 1)) x4) (fun y2=>
 .bi (qbZ x0) (fun y3=>
 .bi (qa5 y3 y2) (fun y4=>
 .br (qaQ [.int .i64,.int .i64,.str,.slice 4] x3 1)
 (.bi (qaW x0) (fun y5=>
 .bi (G_u21q (intOf (cellAt x3 1 0)) (intOf (cellAt x3 1 1)) (strOf (cellAt x3 1 2)) (qai (cellAt x3 1 3)) (IntKind.i64.wrap (y5 + 1)) y4) (fun y6=>
 .at (y6))
 (.no))
 (.no))
 (.no))
 (.no))
 (.no))
 (.no))
 (.no))
 (.br (qaQ [.int .i64,.int .i64,.str,.slice 4] x3 0)
 (.bi (G_u21q (intOf (cellAt x3 0 0)) (intOf (cellAt x3 0 1)) (strOf (cellAt x3 0 2)) (qai (cellAt x3 0 3)) y0 x4) (fun y2=>
 .bi (qbZ x0) (fun y3=>
 .bi (qa5 y3 y2) (fun y4=>
 .br (qaQ [.int .i64,.int .i64,.str,.slice 4] x3 1)
 (.bi (qaW x0) (fun y5=>
 .bi (G_u21q (intOf (cellAt x3 1 0)) (intOf (cellAt x3 1 1)) (strOf (cellAt x3 1 2)) (qai (cellAt x3 1 3)) (IntKind.i64.wrap (y5 + 1)) y4) (fun y6=>
 .at (y6))
 (.no))
 (.no))
 (.no))
 (.no))
 (.no))
 (.no))
 (.no)))
 (.no))
 (.no)))
 (.br (x0 == 19)
 (.bi (G_u18q x0 x1 x2 x3 x4) (fun y0=>
 .at (y0))
 (.no))
 (.bi (qaW x0) (fun y0=>
 .bi (qaW 10) (fun y1=>
 .br (y0 == y1)
 (.br (qaQ [.int .i64,.int .i64,.str,.slice 4] x3 0)
 (.bi (G_u21q (intOf (cellAt x3 0 0)) (intOf (cellAt x3 0 1)) (strOf (cellAt x3 0 2)) (qai (cellAt x3 0 3)) (IntKind.i64.wrap (y0 + 1)) x4) (fun y2=>
 .bi (qbZ x0) (fun y3=>
 .bi (qa5 y3 y2) (fun y4=>
 .br (qaQ [.int .i64,.int .i64,.str,.slice 4] x3 1)
 (.bi (qaW x0) (fun y5=>
 .bi (G_u21q (intOf (cellAt x3 1 0)) (intOf (cellAt x3 1 1)) (strOf (cellAt x3 1 2)) (qai (cellAt x3 1 3)) (IntKind.i64.wrap (y5 + 1)) y4) (fun y6=>
 .at (y6))
 (.no))
 (.no))
 (.no))
 (.no))
 (.no))
 (.no))
 (.no))
 (.br (qaQ [.int .i64,.int .i64,.str,.slice 4] x3 0)
 (.bi (G_u21q (intOf (cellAt x3 0 0)) (intOf (cellAt x3 0 1)) (strOf (cellAt x3 0 2)) (qai (cellAt x3 0 3)) y0 x4) (fun y2=>
 .bi (qbZ x0) (fun y3=>
 .bi (qa5 y3 y2) (fun y4=>
 .br (qaQ [.int .i64,.int .i64,.str,.slice 4] x3 1)
 (.bi (qaW x0) (fun y5=>
 .bi (G_u21q (intOf (cellAt x3 1 0)) (intOf (cellAt x3 1 1)) (strOf (cellAt x3 1 2)) (qai (cellAt x3 1 3)) (IntKind.i64.wrap (y5 + 1)) y4) (fun y6=>
 .at (y6))
 (.no))
 (.no))
 (.no))
 (.no))
 (.no))
 (.no))
 (.no)))
 (.no))
 (.no))))))))))
def qhs (G_u21q:qh7) (G_u28q:qh8) (G_u18q:qh6) (x0 x1:Int) (x2:List UInt8) (x3 x4:List AV):DT qCz:=
 .br (x0 == 18)
 (.bi (qa5 [109,97,120] x4) (fun y0=>
 .bi (qa5 [40] y0) (fun y1=>
 .br (qaQ [.int .i64,.int .i64,.str,.slice 4] x3 0)
 (.bi (G_u21q (intOf (cellAt x3 0 0)) (intOf (cellAt x3 0 1)) (strOf (cellAt x3 0 2)) (qai (cellAt x3 0 3)) 0 y1) (fun y2=>
 .bi (qa5 [44] y2) (fun y3=>
 .br (qaQ [.int .i64,.int .i64,.str,.slice 4] x3 1)
 (.bi (G_u21q (intOf (cellAt x3 1 0)) (intOf (cellAt x3 1 1)) (strOf (cellAt x3 1 2)) (qai (cellAt x3 1 3)) 0 y3) (fun y4=>
 .bi (qa5 [41] y4) (fun y5=>
 .br (x0 == 19)
 (.br (qaQ [.int .i64,.int .i64,.str,.slice 4] x3 2)
 (.bi (G_u21q (intOf (cellAt x3 2 0)) (intOf (cellAt x3 2 1)) (strOf (cellAt x3 2 2)) (qai (cellAt x3 2 3)) 0 y5) (fun y6=>
 .at (y6))
 (.no))
 (.no))
 (.at (y5)))
 (.no))
 (.no))
 (.no))
 (.no))
 (.no))
 (.no))
 (.no))
 (.no))
 (.br (x0 == 19)
 (.bi (qa5 [105,102] x4) (fun y0=>
 .br (qaQ [.int .i64,.int .i64,.str,.slice 4] x3 0)
 (.bi (G_u21q (intOf (cellAt x3 0 0)) (intOf (cellAt x3 0 1)) (strOf (cellAt x3 0 2)) (qai (cellAt x3 0 3)) 0 y0) (fun y1=>
 .bi (qa5 [116,104,101,110] y1) (fun y2=>
 .br (qaQ [.int .i64,.int .i64,.str,.slice 4] x3 1)
 (.bi (G_u21q (intOf (cellAt x3 1 0)) (intOf (cellAt x3 1 1)) (strOf (cellAt x3 1 2)) (qai (cellAt x3 1 3)) 0 y2) (fun y3=>
 .bi (qa5 [101,108,115,101] y3) (fun y4=>
 .br (x0 == 19)
 (.br (qaQ [.int .i64,.int .i64,.str,.slice 4] x3 2)
 (.bi (G_u21q (intOf (cellAt x3 2 0)) (intOf (cellAt x3 2 1)) (strOf (cellAt x3 2 2)) (qai (cellAt x3 2 3)) 0 y4) (fun y5=>
 .at (y5))
 (.no))
 (.no))
 (.at (y4)))
 (.no))
 (.no))
 (.no))
 (.no))
 (.no))
 (.no))
 (.no))
 (.bi (qa5 [109,105,110] x4) (fun y0=>
 .bi (qa5 [40] y0) (fun y1=>
 .br (qaQ [.int .i64,.int .i64,.str,.slice 4] x3 0)
 (.bi (G_u21q (intOf (cellAt x3 0 0)) (intOf (cellAt x3 0 1)) (strOf (cellAt x3 0 2)) (qai (cellAt x3 0 3)) 0 y1) (fun y2=>
 .bi (qa5 [44] y2) (fun y3=>
 .br (qaQ [.int .i64,.int .i64,.str,.slice 4] x3 1)
 (.bi (G_u21q (intOf (cellAt x3 1 0)) (intOf (cellAt x3 1 1)) (strOf (cellAt x3 1 2)) (qai (cellAt x3 1 3)) 0 y3) (fun y4=>
 .bi (qa5 [41] y4) (fun y5=>
 .br (x0 == 19)
 (.br (qaQ [.int .i64,.int .i64,.str,.slice 4] x3 2)
 (.bi (G_u21q (intOf (cellAt x3 2 0)) (intOf (cellAt x3 2 1)) (strOf (cellAt x3 2 2)) (qai (cellAt x3 2 3)) 0 y5) (fun y6=>
 .at (y6))
 (.no))
 (.no))
 (.at (y5)))
 (.no))
 (.no))
 (.no))
 (.no))
 (.no))
 (.no))
 (.no))
 (.no)))
def qaI:Nat -> qh7 × qh8 × qh6
 | 0=>(fun _ _ _ _ _ _=>none,fun _ _ _ _ _=>none,fun _ _ _ _ _=>none)
 | n + 1=>(fun x0 x1 x2 x3 x4 x5=>(qkG ((qaI n).1) ((qaI n).2.1) ((qaI n).2.2) x0 x1 x2 x3 x4 x5).ev,fun x0 x1 x2 x3 x4=>(qsi ((qaI n).1) ((qaI n).2.1) ((qaI n).2.2) x0 x1 x2 x3 x4).ev,fun x0 x1 x2 x3 x4=>(qhs ((qaI n).1) ((qaI n).2.1) ((qaI n).2.2) x0 x1 x2 x3 x4).ev)
def qbT (x0 x1:Int) (x2:List UInt8) (x3:List AV) (x4:Int) (x5:List AV):Option qCA:=qfI fun n=>(qaI n).1 x0 x1 x2 x3 x4 x5
def qx8 (x0 x1:Int) (x2:List UInt8) (x3 x4:List AV):Option qxL:=qfI fun n=>(qaI n).2.1 x0 x1 x2 x3 x4
def qOx (x0 x1:Int) (x2:List UInt8) (x3 x4:List AV):Option qCz:=qfI fun n=>(qaI n).2.2 x0 x1 x2 x3 x4
theorem qiK:∀ n,qCM ((qaI n).1) ((qaI n).2.1) ((qaI n).2.2)
 | 0=>⟨(fun v y h=>nomatch h),(fun v y h=>nomatch h),(fun v y h=>nomatch h)⟩
 | n + 1=>have hG:=qiK n
 ⟨qak (F:=F58) (L:=[]) (t:=(k6 (qkG ((qaI n).1) ((qaI n).2.1) ((qaI n).2.2)))) (qjL ((qaI n).1) ((qaI n).2.1) ((qaI n).2.2) hG) (qae (l:=[]) (by kernel_rfl) trivial) (by kernel_rfl) (fun v=>by kernel_rfl) (fun v=>rfl),qak (F:=F32) (L:=[]) (t:=(k5 (qsi ((qaI n).1) ((qaI n).2.1) ((qaI n).2.2)))) (qjL ((qaI n).1) ((qaI n).2.1) ((qaI n).2.2) hG) (qae (l:=[]) (by kernel_rfl) trivial) (by kernel_rfl) (fun v=>by kernel_rfl) (fun v=>rfl),qak (F:=F60) (L:=[]) (t:=(k5 (qhs ((qaI n).1) ((qaI n).2.1) ((qaI n).2.2)))) (qjL ((qaI n).1) ((qaI n).2.1) ((qaI n).2.2) hG) (qae (l:=[]) (by kernel_rfl) trivial) (by kernel_rfl) (fun v=>by kernel_rfl) (fun v=>rfl)⟩
theorem qUC:FH IP 58 quB quQ (k6 qbT):=qbk (p:=quB) (rs:=quQ) (s:=fun n=>(k6 ((qaI n).1))) fun n=>(qiK n).1
theorem qUI:FH IP 32 quE quT (k5 qx8):=qbk (p:=quE) (rs:=quT) (s:=fun n=>(k5 ((qaI n).2.1))) fun n=>(qiK n).2.1
theorem qUA:FH IP 60 quA quP (k5 qOx):=qbk (p:=quA) (rs:=quP) (s:=fun n=>(k5 ((qaI n).2.2))) fun n=>(qiK n).2.2
def T55:Tab:=(58,FE quB quQ (k6 qbT)) :: T54
theorem qT2:qao IP T55:=⟨qan qUC,qNK⟩
def T56:Tab:=(32,FE quE quT (k5 qx8)) :: T55
theorem qT3:qao IP T56:=⟨qan qUI,qT2⟩
def T57:Tab:=(60,FE quA quP (k5 qOx)) :: T56
theorem qNL:qao IP T57:=⟨qan qUA,qT3⟩
abbrev qMD:Type:=List AV
def qO3:PArgs:=⟨[.ref 0 0 0,.agg [.int .i64,.int .i64,.str,.view 4]],[(0,.box [.nils 3] false)]⟩
def qPO:List PRes:=[⟨false,.tup [],[(0,.box [.own 1 0] false),(1,.arr 3 false)]⟩]
def qkH (x0 x1:Int) (x2:List UInt8) (x3:List AV):DT qMD:=
 .br (x0 == 18)
 (.bi (qgZ [109,97,120]) (fun y0=>
 .bi (qa5 [40] y0) (fun y1=>
 .br (qaQ [.int .i64,.int .i64,.str,.slice 4] x3 0)
 (.bi (qbT (intOf (cellAt x3 0 0)) (intOf (cellAt x3 0 1)) (strOf (cellAt x3 0 2)) (qai (cellAt x3 0 3)) 0 y1) (fun y2=>
 .bi (qa5 [44] y2) (fun y3=>
 .br (qaQ [.int .i64,.int .i64,.str,.slice 4] x3 1)
 (.bi (qbT (intOf (cellAt x3 1 0)) (intOf (cellAt x3 1 1)) (strOf (cellAt x3 1 2)) (qai (cellAt x3 1 3)) 0 y3) (fun y4=>
 .bi (qa5 [41] y4) (fun y5=>
 .br (x0 == 19)
 (.br (qaQ [.int .i64,.int .i64,.str,.slice 4] x3 2)
 (.bi (qbT (intOf (cellAt x3 2 0)) (intOf (cellAt x3 2 1)) (strOf (cellAt x3 2 2)) (qai (cellAt x3 2 3)) 0 y5) (fun y6=>
 .at (y6))
 (.no))
 (.no))
 (.at (y5)))
 (.no))
 (.no))
 (.no))
 (.no))
 (.no))
 (.no))
 (.no))
 (.no))
 (.br (x0 == 19)
 (.bi (qgZ [105,102]) (fun y0=>
 .br (qaQ [.int .i64,.int .i64,.str,.slice 4] x3 0)
 (.bi (qbT (intOf (cellAt x3 0 0)) (intOf (cellAt x3 0 1)) (strOf (cellAt x3 0 2)) (qai (cellAt x3 0 3)) 0 y0) (fun y1=>
 .bi (qa5 [116,104,101,110] y1) (fun y2=>
 .br (qaQ [.int .i64,.int .i64,.str,.slice 4] x3 1)
 (.bi (qbT (intOf (cellAt x3 1 0)) (intOf (cellAt x3 1 1)) (strOf (cellAt x3 1 2)) (qai (cellAt x3 1 3)) 0 y2) (fun y3=>
 .bi (qa5 [101,108,115,101] y3) (fun y4=>
 .br (x0 == 19)
 (.br (qaQ [.int .i64,.int .i64,.str,.slice 4] x3 2)
 (.bi (qbT (intOf (cellAt x3 2 0)) (intOf (cellAt x3 2 1)) (strOf (cellAt x3 2 2)) (qai (cellAt x3 2 3)) 0 y4) (fun y5=>
 .at (y5))
 (.no))
 (.no))
 (.at (y4)))
 (.no))
 (.no))
 (.no))
 (.no))
 (.no))
 (.no))
 (.no))
 (.bi (qgZ [109,105,110]) (fun y0=>
 .bi (qa5 [40] y0) (fun y1=>
 .br (qaQ [.int .i64,.int .i64,.str,.slice 4] x3 0)
 (.bi (qbT (intOf (cellAt x3 0 0)) (intOf (cellAt x3 0 1)) (strOf (cellAt x3 0 2)) (qai (cellAt x3 0 3)) 0 y1) (fun y2=>
 .bi (qa5 [44] y2) (fun y3=>
 .br (qaQ [.int .i64,.int .i64,.str,.slice 4] x3 1)
 (.bi (qbT (intOf (cellAt x3 1 0)) (intOf (cellAt x3 1 1)) (strOf (cellAt x3 1 2)) (qai (cellAt x3 1 3)) 0 y3) (fun y4=>
 .bi (qa5 [41] y4) (fun y5=>
 .br (x0 == 19)
 (.br (qaQ [.int .i64,.int .i64,.str,.slice 4] x3 2)
 (.bi (qbT (intOf (cellAt x3 2 0)) (intOf (cellAt x3 2 1)) (strOf (cellAt x3 2 2)) (qai (cellAt x3 2 3)) 0 y5) (fun y6=>
 .at (y6))
 (.no))
 (.no))
 (.at (y5)))
 (.no))
 (.no))
 (.no))
 (.no))
 (.no))
 (.no))
 (.no))
 (.no)))
def qpt (x0 x1:Int) (x2:List UInt8) (x3:List AV):Option qMD:=qa2 (qkH x0 x1 x2 x3).ev
theorem qmQ (x0 x1 x2 x3):qpt x0 x1 x2 x3 = (qkH x0 x1 x2 x3).ev:=qab _
theorem qUD:FH IP 60 qO3 qPO (k4 qpt):=fh F60 (k4 qkH) qNL
def T58:Tab:=(60,FE qO3 qPO (k4 qpt)) :: T57
theorem qNM:qao IP T58:=⟨qan qUD,qNL⟩
abbrev qxM:Type:=List AV
def quF:PArgs:=⟨[.ref 0 0 0,.agg [.int .i64,.int .i64,.str,.view 4]],[(0,.box [.nils 3] false)]⟩
def quU:List PRes:=[⟨false,.tup [],[(0,.box [.own 1 0] false),(1,.arr 3 false)]⟩]
abbrev qjI:Type:=Int -> Int -> (List UInt8) -> (List AV) -> Option qxM
abbrev qCy:Type:=List AV
def quz:PArgs:=⟨[.ref 0 0 0,.agg [.int .i64,.int .i64,.str,.view 4],.int .i64],[(0,.box [.nils 3] false)]⟩
def quO:List PRes:=[⟨false,.tup [],[(0,.box [.own 1 0] false),(1,.arr 3 false)]⟩]
abbrev qjH:Type:=Int -> Int -> (List UInt8) -> (List AV) -> Int -> Option qCy
def qCN (G_u30q:qjI) (G_u17q:qjH):Prop:=FH IP 32 quF quU (k4 G_u30q) /\ FH IP 58 quz quO (k5 G_u17q)
def qQN (G_u30q:qjI) (G_u17q:qjH):Tab:=(32,FE quF quU (k4 G_u30q)) :: (58,FE quz quO (k5 G_u17q)) :: T58
theorem qpi (G_u30q:qjI) (G_u17q:qjH) (hG:qCN G_u30q G_u17q):qao IP (qQN G_u30q G_u17q):=⟨qan (hG.1),qan (hG.2),qNM⟩
def qsk (G_u30q:qjI) (G_u17q:qjH) (x0 x1:Int) (x2:List UInt8) (x3:List AV):DT qxM:=
 .br (x0 == 1)
 (.br (decide (-9223372036854775808 <= x1) && decide (x1 <= 9223372036854775807))
 (.bi (qiU 2 (Lib.itoa x1)) (fun y0=>
 .at (y0))
 (.no))
 (.no))
 (.br (x0 == 2)
 (.bi (qgZ [36]) (fun y0=>
 .br (decide (-9223372036854775808 <= x1) && decide (x1 <= 9223372036854775807))
 (.bi (qgY 2 (Lib.itoa x1) y0) (fun y1=>
 .at (y1))
 (.no))
 (.no))
 (.no))
 (.br (x0 == 3)
 (.bi (qpy x1) (fun y0=>
 .bi (qiU 3 y0.1) (fun y1=>
 .at (y1))
 (.no))
 (.no))
 (.br (x0 == 4)
 (.bi (qiU 1 x2) (fun y0=>
 .at (y0))
 (.no))
 (.br (x0 == 9)
 (.bi (qgZ [45]) (fun y0=>
 .br (qaQ [.int .i64,.int .i64,.str,.slice 4] x3 0)
 (.bi (qaW x0) (fun y1=>
 .bi (qbT (intOf (cellAt x3 0 0)) (intOf (cellAt x3 0 1)) (strOf (cellAt x3 0 2)) (qai (cellAt x3 0 3)) y1 y0) (fun y2=>
 .at (y2))
 (.no))
 (.no))
 (.no))
 (.no))
 (.br (x0 == 16)
 (.bi (qgZ [110,111,116]) (fun y0=>
 .br (qaQ [.int .i64,.int .i64,.str,.slice 4] x3 0)
 (.bi (qaW x0) (fun y1=>
 .bi (qbT (intOf (cellAt x3 0 0)) (intOf (cellAt x3 0 1)) (strOf (cellAt x3 0 2)) (qai (cellAt x3 0 3)) y1 y0) (fun y2=>
 .at (y2))
 (.no))
 (.no))
 (.no))
 (.no))
 (.br (x0 == 17)
 (.br (x0 == 17)
 (.bi (qpt x0 x1 x2 x3) (fun y0=>
 .at (y0))
 (.no))
 (.bi (qaW x0) (fun y0=>
 .bi (qaW 10) (fun y1=>
 .br (y0 == y1)
 (.br (qaQ [.int .i64,.int .i64,.str,.slice 4] x3 0)
 (.bi (G_u17q (intOf (cellAt x3 0 0)) (intOf (cellAt x3 0 1)) (strOf (cellAt x3 0 2)) (qai (cellAt x3 0 3)) (IntKind.i64.wrap (y0 + 1))) (fun y2=>
 .bi (qbZ x0) (fun y3=>
 .bi (qa5 y3 y2) (fun y4=>
 .br (qaQ [.int .i64,.int .i64,.str,.slice 4] x3 1)
 (.bi (qaW x0) (fun y5=>
 .bi (qbT (intOf (cellAt x3 1 0)) (intOf (cellAt x3 1 1)) (strOf (cellAt x3 1 2)) (qai (cellAt x3 1 3)) (IntKind.i64.wrap (y5 + 1)) y4) (fun y6=>
 .at (y6))
 (.no))
 (.no))
 (.no))
 (.no))
 (.no))
 (.no))
 (.no))
 (.br (qaQ [.int .i64,.int .i64,.str,.slice 4] x3 0)
 (.bi (G_u17q (intOf (cellAt x3 0 0)) (intOf (cellAt x3 0 1)) (strOf (cellAt x3 0 2)) (qai (cellAt x3 0 3)) y0) (fun y2=>
 .bi (qbZ x0) (fun y3=>
 .bi (qa5 y3 y2) (fun y4=>
 .br (qaQ [.int .i64,.int .i64,.str,.slice 4] x3 1)
 (.bi (qaW x0) (fun y5=>
 .bi (qbT (intOf (cellAt x3 1 0)) (intOf (cellAt x3 1 1)) (strOf (cellAt x3 1 2)) (qai (cellAt x3 1 3)) (IntKind.i64.wrap (y5 + 1)) y4) (fun y6=>
 .at (y6))
 (.no))
 (.no))
 (.no))
 (.no))
 (.no))
 (.no))
 (.no)))
 (.no))
 (.no)))
 (.br (x0 == 18)
 (.br (x0 == 18)
 (.bi (qpt x0 x1 x2 x3) (fun y0=>
 .at (y0))
 (.no))
 (.bi (qaW x0) (fun y0=>
 .bi (qaW 10) (fun y1=>
 .br (y0 == y1)
 (.br (qaQ [.int .i64,.int .i64,.str,.slice 4] x3 0)
 (.bi (G_u17q (intOf (cellAt x3 0 0)) (intOf (cellAt x3 0 1)) (strOf (cellAt x3 0 2)) (qai (cellAt x3 0 3)) (IntKind.i64.wrap (y0 + 1))) (fun y2=>
 .bi (qbZ x0) (fun y3=>
 .bi (qa5 y3 y2) (fun y4=>
 .br (qaQ [.int .i64,.int .i64,.str,.slice 4] x3 1)
 (.bi (qaW x0) (fun y5=>
 .bi (qbT (intOf (cellAt x3 1 0)) (intOf (cellAt x3 1 1)) (strOf (cellAt x3 1 2)) (qai (cellAt x3 1 3)) (IntKind.i64.wrap (y5 + 1)) y4) (fun y6=>
 .at (y6))
 (.no))
 (.no))
 (.no))
 (.no))
 (.no))
 (.no))
 (.no))
 (.br (qaQ [.int .i64,.int .i64,.str,.slice 4] x3 0)
 (.bi (G_u17q (intOf (cellAt x3 0 0)) (intOf (cellAt x3 0 1)) (strOf (cellAt x3 0 2)) (qai (cellAt x3 0 3)) y0) (fun y2=>
 .bi (qbZ x0) (fun y3=>
 .bi (qa5 y3 y2) (fun y4=>
 .br (qaQ [.int .i64,.int .i64,.str,.slice 4] x3 1)
 (.bi (qaW x0) (fun y5=>
 .bi (qbT (intOf (cellAt x3 1 0)) (intOf (cellAt x3 1 1)) (strOf (cellAt x3 1 2)) (qai (cellAt x3 1 3)) (IntKind.i64.wrap (y5 + 1)) y4) (fun y6=>
 .at (y6))
 (.no))
 (.no))
 (.no))
 (.no))
 (.no))
 (.no))
 (.no)))
 (.no))
 (.no)))
 (.br (x0 == 19)
 (.bi (qpt x0 x1 x2 x3) (fun y0=>
 .at (y0))
 (.no))
 (.bi (qaW x0) (fun y0=>
 .bi (qaW 10) (fun y1=>
 .br (y0 == y1)
 (.br (qaQ [.int .i64,.int .i64,.str,.slice 4] x3 0)
 (.bi (G_u17q (intOf (cellAt x3 0 0)) (intOf (cellAt x3 0 1)) (strOf (cellAt x3 0 2)) (qai (cellAt x3 0 3)) (IntKind.i64.wrap (y0 + 1))) (fun y2=>
 .bi (qbZ x0) (fun y3=>
 .bi (qa5 y3 y2) (fun y4=>
 .br (qaQ [.int .i64,.int .i64,.str,.slice 4] x3 1)
 (.bi (qaW x0) (fun y5=>
 .bi (qbT (intOf (cellAt x3 1 0)) (intOf (cellAt x3 1 1)) (strOf (cellAt x3 1 2)) (qai (cellAt x3 1 3)) (IntKind.i64.wrap (y5 + 1)) y4) (fun y6=>
 .at (y6))
 (.no))
 (.no))
 (.no))
 (.no))
 (.no))
 (.no))
 (.no))
 (.br (qaQ [.int .i64,.int .i64,.str,.slice 4] x3 0)
 (.bi (G_u17q (intOf (cellAt x3 0 0)) (intOf (cellAt x3 0 1)) (strOf (cellAt x3 0 2)) (qai (cellAt x3 0 3)) y0) (fun y2=>
 .bi (qbZ x0) (fun y3=>
 .bi (qa5 y3 y2) (fun y4=>
 .br (qaQ [.int .i64,.int .i64,.str,.slice 4] x3 1)
 (.bi (qaW x0) (fun y5=>
 .bi (qbT (intOf (cellAt x3 1 0)) (intOf (cellAt x3 1 1)) (strOf (cellAt x3 1 2)) (qai (cellAt x3 1 3)) (IntKind.i64.wrap (y5 + 1)) y4) (fun y6=>
 .at (y6))
 (.no))
 (.no))
 (.no))
 (.no))
 (.no))
 (.no))
 (.no)))
 (.no))
 (.no))))))))))
def qsc (G_u30q:qjI) (G_u17q:qjH) (x0 x1:Int) (x2:List UInt8) (x3:List AV) (x4:Int):DT qCy:=
 .bi (qaW x0) (fun y0=>
 .br (decide (y0 >= x4))
 (.bi (G_u30q x0 x1 x2 x3) (fun y1=>
 .at (y1))
 (.no))
 (.bi (qgZ [40]) (fun y1=>
 .bi (qx8 x0 x1 x2 x3 y1) (fun y2=>
 .bi (qa5 [41] y2) (fun y3=>
 .at (y3))
 (.no))
 (.no))
 (.no)))
 (.no)
def qbS:Nat -> qjI × qjH
 | 0=>(fun _ _ _ _=>none,fun _ _ _ _ _=>none)
 | n + 1=>(fun x0 x1 x2 x3=>(qsk ((qbS n).1) ((qbS n).2) x0 x1 x2 x3).ev,fun x0 x1 x2 x3 x4=>(qsc ((qbS n).1) ((qbS n).2) x0 x1 x2 x3 x4).ev)
def qEg (x0 x1:Int) (x2:List UInt8) (x3:List AV):Option qxM:=qfI fun n=>(qbS n).1 x0 x1 x2 x3
def qOw (x0 x1:Int) (x2:List UInt8) (x3:List AV) (x4:Int):Option qCy:=qfI fun n=>(qbS n).2 x0 x1 x2 x3 x4
theorem qlZ:∀ n,qCN ((qbS n).1) ((qbS n).2)
 | 0=>⟨(fun v y h=>nomatch h),(fun v y h=>nomatch h)⟩
 | n + 1=>have hG:=qlZ n
 ⟨qak (F:=F32) (L:=[]) (t:=(k4 (qsk ((qbS n).1) ((qbS n).2)))) (qpi ((qbS n).1) ((qbS n).2) hG) (qae (l:=[]) (by kernel_rfl) trivial) (by kernel_rfl) (fun v=>by kernel_rfl) (fun v=>rfl),qak (F:=F58) (L:=[]) (t:=(k5 (qsc ((qbS n).1) ((qbS n).2)))) (qpi ((qbS n).1) ((qbS n).2) hG) (qae (l:=[]) (by kernel_rfl) trivial) (by kernel_rfl) (fun v=>by kernel_rfl) (fun v=>rfl)⟩
theorem qUK:FH IP 32 quF quU (k4 qEg):=qbk (p:=quF) (rs:=quU) (s:=fun n=>(k4 ((qbS n).1))) fun n=>(qlZ n).1
theorem qUz:FH IP 58 quz quO (k5 qOw):=qbk (p:=quz) (rs:=quO) (s:=fun n=>(k5 ((qbS n).2))) fun n=>(qlZ n).2
def T59:Tab:=(32,FE quF quU (k4 qEg)) :: T58
theorem qT4:qao IP T59:=⟨qan qUK,qNM⟩
def T60:Tab:=(58,FE quz quO (k5 qOw)) :: T59
theorem qNN:qao IP T60:=⟨qan qUz,qT4⟩
abbrev qBV:Type:=List AV × Int
def qGN:PArgs:=⟨[.agg [.int .i64,.int .i64,.str,.view 4]],[]⟩
def qHI:List PRes:=[⟨false,.tup [.view 3,.int .i64],[]⟩]
def qlj (x0 x1:Int) (x2:List UInt8) (x3:List AV):DT qBV:=
 .bi (qeT x0 x1 x2 x3) (fun y0=>
 .br (y0 != 0)
 (.at (([],y0)))
 (.bi (qEg x0 x1 x2 x3) (fun y1=>
 .at ((y1,0)))
 (.no)))
 (.no)
def qf8 (x0 x1:Int) (x2:List UInt8) (x3:List AV):Option qBV:=qa2 (qlj x0 x1 x2 x3).ev
theorem qz4 (x0 x1 x2 x3):qf8 x0 x1 x2 x3 = (qlj x0 x1 x2 x3).ev:=qab _
theorem qQ2:FH IP 14 qGN qHI (k4 qf8):=fh F14 (k4 qlj) qNN
def T61:Tab:=(14,FE qGN qHI (k4 qf8)) :: T60
theorem qNO:qao IP T61:=⟨qan qQ2,qNN⟩
abbrev qvL:Type:=Bool
def qnP:PArgs:=⟨[.agg [.int .i64,.int .i64,.str,.view 4],.agg [.int .i64,.int .i64,.str,.view 4]],[]⟩
def qob:List PRes:=[⟨false,.bool,[]⟩]
abbrev qcX:Type:=Int -> Int -> (List UInt8) -> (List AV) -> Int -> Int -> (List UInt8) -> (List AV) -> Option qvL
def qqG (G_u167q:qcX):Prop:=FH IP 12 qnP qob (k8 G_u167q)
def qJ5 (G_u167q:qcX):Tab:=(12,FE qnP qob (k8 G_u167q)) :: T61
theorem ql9 (G_u167q:qcX) (hG:qqG G_u167q):qao IP (qJ5 G_u167q):=⟨qan (hG),qNO⟩
abbrev qd4:Type:=Int × Int × Int × List UInt8 × List AV × Int × Int × List UInt8 × List AV
def qyt:List PSt:=[⟨[(1001200,.junk),(2,.ref 0 0 0),(3,.ref 1 0 0),(5,.int .i64)],[(0,.box [.int .i64,.int .i64,.str,.view 4] false),(1,.box [.int .i64,.int .i64,.str,.view 4] false)],2,0⟩]
def qJJ (x0 x1 x2:Int) (x3:List UInt8) (x4:List AV) (x5 x6:Int) (x7:List UInt8) (x8:List AV):X × St:=(.ret,⟨[(4,.bool false)],[],0,0⟩)
def qJK (x0 x1 x2:Int) (x3:List UInt8) (x4:List AV) (x5 x6:Int) (x7:List UInt8) (x8:List AV):X × St:=(.exit 0,⟨[(4,.junk)],[],0,0⟩)
def qTj:List (qd4 -> X × St):=[(k9 qJJ),(k9 qJK)]
def qky (G_u167q:qcX) (x0 x1 x2:Int) (x3:List UInt8) (x4:List AV) (x5 x6:Int) (x7:List UInt8) (x8:List AV):DT (Rd qd4):=
 .br (decide (x0 < (x4.length:Int)))
 (.br (qaQ [.int .i64,.int .i64,.str,.slice 4] x4 x0)
 (.br (qaQ [.int .i64,.int .i64,.str,.slice 4] x8 x0)
 (.bi (G_u167q (intOf (cellAt x4 x0 0)) (intOf (cellAt x4 x0 1)) (strOf (cellAt x4 x0 2)) (qai (cellAt x4 x0 3)) (intOf (cellAt x8 x0 0)) (intOf (cellAt x8 x0 1))
 (strOf (cellAt x8 x0 2)) (qai (cellAt x8 x0 3))) (fun y0=>
 .br (!y0) (.at (.done 0)) (.at (.next ((IntKind.i64.wrap (x0 + 1),x1,x2,x3,x4,x5,x6,x7,x8)))))
 (.no))
 (.no))
 (.no))
 (.at (.done 1))
def qjs (G_u167q:qcX):qd4 -> DT (Rd qd4):=(fun v=>qky G_u167q v.1 v.2.1 v.2.2.1 v.2.2.2.1 v.2.2.2.2.1 v.2.2.2.2.2.1 v.2.2.2.2.2.2.1 v.2.2.2.2.2.2.2.1 v.2.2.2.2.2.2.2.2)
def qnh (G_u167q:qcX) (v:qd4):Option (Nat × qd4):=qa2 (qaw (fun v=>(qjs G_u167q v).ev) v)
theorem qpW (G_u167q v):qnh G_u167q v = qaw (fun v=>(qjs G_u167q v).ev) v:=qab _
def qy2 (G_u167q:qcX):qdA:=LE (τ:=qd4) (hD qyt) (qnh G_u167q) qTj
theorem qSY (G_u167q:qcX) (hG:qqG G_u167q):Go.Eng.Told IP (qah F12 0).1 (qah F12 0).2 (qy2 G_u167q):=qaF (inferInstance:Inhabited qd4) (hs:=qyt) (st:=qjs G_u167q) (L:=[]) (ql9 G_u167q hG) (qae (l:=[]) (by kernel_rfl) trivial) (qpW G_u167q) (fun v=>by kernel_rfl) (fun v=>by kernel_rfl)
def qlO (G_u167q:qcX) (x0 x1:Int) (x2:List UInt8) (x3:List AV) (x4 x5:Int) (x6:List UInt8) (x7:List AV):DT qvL:=
 .bi (br (x0 != x4) (some true) (some (x1 != x5))) (fun y0=>
 .bi (br y0 (some true) (some !x2 == x6)) (fun y1=>
 .bi (br y1 (some true) (some ((x3.length:Int) != (x7.length:Int)))) (fun y2=>
 .br (y2)
 (.at (false))
 (.bi (pj 0 (qnh G_u167q (0,x0,x1,x2,x3,x4,x5,x6,x7))) (fun y3=>
 .at (false))
 (.bi (pj 1 (qnh G_u167q (0,x0,x1,x2,x3,x4,x5,x6,x7))) (fun y3=>
 .at (true))
 (.no))))
 (.no))
 (.no))
 (.no)
end
end Go.Proofs.H10

/- Functions over plain data. Printed by a program of mine. -/
import Derived.Test.YtgpbobelbcbcaaaGreatDoorE3
import Derived.Test.YtgpbobelbcbcaaaGreatDoorIP10
import Derived.KernelRfl
import Derived.Test.YtgpbobelbcbcaaaGreatDoorSpA
set_option linter.unusedVariables false
set_option linter.unusedSimpArgs false
set_option linter.unnecessarySimpa false
namespace Go.Proofs.H10
open Go Go.Eng
set_option maxRecDepth 100000
noncomputable section
abbrev k2 {a0 a1 r:Type} (f:a0 -> a1 -> r) (v:a0 × a1):r:=f v.1 v.2
abbrev k3 {a0 a1 a2 r:Type} (f:a0 -> a1 -> a2 -> r) (v:a0 × a1 × a2):r:=f v.1 v.2.1 v.2.2
abbrev k4 {a0 a1 a2 a3 r:Type} (f:a0 -> a1 -> a2 -> a3 -> r) (v:a0 × a1 × a2 × a3):r:=f v.1 v.2.1 v.2.2.1 v.2.2.2
abbrev k5 {a0 a1 a2 a3 a4 r:Type} (f:a0 -> a1 -> a2 -> a3 -> a4 -> r) (v:a0 × a1 × a2 × a3 × a4):r:=f v.1 v.2.1 v.2.2.1 v.2.2.2.1 v.2.2.2.2
abbrev k6 {a0 a1 a2 a3 a4 a5 r:Type} (f:a0 -> a1 -> a2 -> a3 -> a4 -> a5 -> r) (v:a0 × a1 × a2 × a3 × a4 × a5):r:=f v.1 v.2.1 v.2.2.1 v.2.2.2.1 v.2.2.2.2.1 v.2.2.2.2.2
abbrev k7 {a0 a1 a2 a3 a4 a5 a6 r:Type} (f:a0 -> a1 -> a2 -> a3 -> a4 -> a5 -> a6 -> r) (v:a0 × a1 × a2 × a3 × a4 × a5 × a6):r:=f v.1 v.2.1 v.2.2.1 v.2.2.2.1 v.2.2.2.2.1 v.2.2.2.2.2.1 v.2.2.2.2.2.2
abbrev k8 {a0 a1 a2 a3 a4 a5 a6 a7 r:Type} (f:a0 -> a1 -> a2 -> a3 -> a4 -> a5 -> a6 -> a7 -> r) (v:a0 × a1 × a2 × a3 × a4 × a5 × a6 × a7):r:=f v.1 v.2.1 v.2.2.1 v.2.2.2.1 v.2.2.2.2.1 v.2.2.2.2.2.1 v.2.2.2.2.2.2.1 v.2.2.2.2.2.2.2
abbrev k9 {a0 a1 a2 a3 a4 a5 a6 a7 a8 r:Type} (f:a0 -> a1 -> a2 -> a3 -> a4 -> a5 -> a6 -> a7 -> a8 -> r) (v:a0 × a1 × a2 × a3 × a4 × a5 × a6 × a7 × a8):r:=f v.1 v.2.1 v.2.2.1 v.2.2.2.1 v.2.2.2.2.1 v.2.2.2.2.2.1 v.2.2.2.2.2.2.1 v.2.2.2.2.2.2.2.1 v.2.2.2.2.2.2.2.2
abbrev k10 {a0 a1 a2 a3 a4 a5 a6 a7 a8 a9 r:Type} (f:a0 -> a1 -> a2 -> a3 -> a4 -> a5 -> a6 -> a7 -> a8 -> a9 -> r) (v:a0 × a1 × a2 × a3 × a4 × a5 × a6 × a7 × a8 × a9):r:=f v.1 v.2.1 v.2.2.1 v.2.2.2.1 v.2.2.2.2.1 v.2.2.2.2.2.1 v.2.2.2.2.2.2.1 v.2.2.2.2.2.2.2.1 v.2.2.2.2.2.2.2.2.1 v.2.2.2.2.2.2.2.2.2
abbrev k11 {a0 a1 a2 a3 a4 a5 a6 a7 a8 a9 a10 r:Type} (f:a0 -> a1 -> a2 -> a3 -> a4 -> a5 -> a6 -> a7 -> a8 -> a9 -> a10 -> r) (v:a0 × a1 × a2 × a3 × a4 × a5 × a6 × a7 × a8 × a9 × a10):r:=f v.1 v.2.1 v.2.2.1 v.2.2.2.1 v.2.2.2.2.1 v.2.2.2.2.2.1 v.2.2.2.2.2.2.1 v.2.2.2.2.2.2.2.1 v.2.2.2.2.2.2.2.2.1 v.2.2.2.2.2.2.2.2.2.1 v.2.2.2.2.2.2.2.2.2.2
def T0:Tab:=[(118,qmh),(135,qim),(180,qSb),(166,qkT 180),(152,qs9 180),(55,qnb),(86,qoP),(42,qxm),(43,qwa),(10,qWc)]
theorem qQH:qao IP T0:=⟨q0h,q0i,q0l,q0k,q0j,q2Y,q2Z,q2W,q2X,q2V,trivial⟩
abbrev qf6:Type:=List AV × Int
def qFw:List PSt:=[⟨[(1000800,.junk),(0,.view 3),(3,.int .i64)],[],0,0⟩]
def qMu (x0:List AV) (x1:Int):X × St:=(.ret,⟨[(0,.view 3 x0),(2,.bool false)],[],0,0⟩)
def qMv (x0:List AV) (x1:Int):X × St:=(.exit 0,⟨[(0,.view 3 x0),(2,.junk)],[],0,0⟩)
def qXG:List (qf6 -> X × St):=[(k2 qMu),(k2 qMv)]
def qhr (x0:List AV) (x1:Int):DT (Rd qf6):=
 .bi (br (decide (x1 < (x0.length:Int))) (some (decide (x1 < 300))) (some false)) (fun y0=>
 .br (y0)
 (.br (qaQ [.int .i64,.int .i64,.str] x0 x1)
 (.br (decide (((strOf (cellAt x0 x1 2)).length:Int) > 100)) (.at (.done 0)) (.at (.next ((x0,IntKind.i64.wrap (x1 + 1))))))
 (.no))
 (.at (.done 1)))
 (.no)
def qxw:qf6 -> DT (Rd qf6):=(fun v=>qhr v.1 v.2)
def qud (v:qf6):Option (Nat × qf6):=qa2 (qaw (fun v=>(qxw v).ev) v)
theorem que (v):qud v = qaw (fun v=>(qxw v).ev) v:=qab _
def qF9:qdA:=LE (τ:=qf6) (hD qFw) (qud) qXG
theorem qW0:Go.Eng.Told IP (qah F8 0).1 (qah F8 0).2 (qF9):=lp (inferInstance:Inhabited qf6) (hs:=qFw) qxw qQH que
abbrev qCc:Type:=Bool
def qG4:PArgs:=⟨[.view 3],[]⟩
def qHZ:List PRes:=[⟨false,.bool,[]⟩]
def qlA (x0:List AV):DT qCc:=
 .bi (pj 0 (qud (x0,0))) (fun y0=>
 .at (false))
 (.bi (pj 1 (qud (x0,0))) (fun y0=>
 .at (decide ((y0.1.length:Int) <= 300)))
 (.no))
def qii (x0:List AV):Option qCc:=qa2 (qlA x0).ev
theorem qAl (x0):qii x0 = (qlA x0).ev:=qab _
theorem qRp:FH IP 8 qG4 qHZ qii:=qak (F:=F8) (L:=[(1000800,qF9)]) (t:=qlA) qQH (qae (l:=[qah F8 0]) (by kernel_rfl) ⟨qaH (by kernel_rfl) qW0,trivial⟩) (by kernel_rfl) (fun v=>by kernel_rfl) (fun _=>qab _)
def T1:Tab:=(8,FE qG4 qHZ qii) :: T0
theorem qTV:qao IP T1:=⟨qan qRp,qQH⟩
abbrev qCm:Type:=Int × Int × List UInt8 × List AV
def qHe:PArgs:=⟨[.str],[]⟩
def qH9:List PRes:=[⟨false,.agg [.int .i64,.int .i64,.str,.view 4],[]⟩]
def qlK (x0:List UInt8):DT qCm:=
 .at ((4,0,x0,[]))
def qcq (x0:List UInt8):Option qCm:=qa2 (qlK x0).ev
theorem qAu (x0):qcq x0 = (qlK x0).ev:=qab _
theorem qRH:FH IP 27 qHe qH9 qcq:=fh F27 qlK qTV
def T2:Tab:=(27,FE qHe qH9 qcq) :: T1
theorem qTW:qao IP T2:=⟨qan qRH,qTV⟩
abbrev qCw:Type:=Int × Int × List UInt8 × List AV
def qHo:PArgs:=⟨[.int .i64,.view 4],[]⟩
def qIj:List PRes:=[⟨false,.agg [.int .i64,.int .i64,.str,.view 4],[]⟩]
def qlT (x0:Int) (x1:List AV):DT qCw:=
 .at ((x0,0,[],x1))
def qjW (x0:Int) (x1:List AV):Option qCw:=qa2 (qlT x0 x1).ev
theorem qAC (x0 x1):qjW x0 x1 = (qlT x0 x1).ev:=qab _
theorem qRS:FH IP 26 qHo qIj (k2 qjW):=fh F26 (k2 qlT) qTW
def T3:Tab:=(26,FE qHo qIj (k2 qjW)) :: T2
theorem qTX:qao IP T3:=⟨qan qRS,qTW⟩
abbrev qvB:Type:=Int
def qnD:PArgs:=⟨[.agg [.int .i64,.int .i64,.str,.view 4]],[]⟩
def qnZ:List PRes:=[⟨false,.int .i64,[]⟩]
abbrev qcR:Type:=Int -> Int -> (List UInt8) -> (List AV) -> Option qvB
def qqw (G_u135q:qcR):Prop:=FH IP 19 qnD qnZ (k4 G_u135q)
def qJU (G_u135q:qcR):Tab:=(19,FE qnD qnZ (k4 G_u135q)) :: T3
theorem ql1 (G_u135q:qcR) (hG:qqw G_u135q):qao IP (qJU G_u135q):=⟨qan (hG),qTX⟩
abbrev qf2:Type:=Int × List AV × Int × Int
def qFr:List PSt:=[⟨[(1001900,.junk),(3,.int .i64),(7,.view 4),(8,.int .i64),(9,.int .i64)],[],0,0⟩]
def qMn (x0:Int) (x1:List AV) (x2 x3:Int):X × St:=(.exit 0,⟨[(3,.int .i64 x0)],[],0,0⟩)
def qXB:List (qf2 -> X × St):=[(k4 qMn)]
def qoE (G_u135q:qcR) (x0:Int) (x1:List AV) (x2 x3:Int):DT (Rd qf2):=
 .br (decide (x3 < x2))
 (.br (qaQ [.int .i64,.int .i64,.str,.slice 4] x1 x3)
 (.bi (G_u135q (intOf (cellAt x1 x3 0)) (intOf (cellAt x1 x3 1)) (strOf (cellAt x1 x3 2)) (qai (cellAt x1 x3 3))) (fun y0=>
 .at (.next ((IntKind.i64.wrap (x0 + y0),x1,x2,IntKind.i64.wrap (x3 + 1)))))
 (.no))
 (.no))
 (.at (.done 0))
def qoD (G_u135q:qcR):qf2 -> DT (Rd qf2):=(fun v=>qoE G_u135q v.1 v.2.1 v.2.2.1 v.2.2.2)
def qyI (G_u135q:qcR) (v:qf2):Option (Nat × qf2):=qa2 (qaw (fun v=>(qoD G_u135q v).ev) v)
theorem qt7 (G_u135q v):qyI G_u135q v = qaw (fun v=>(qoD G_u135q v).ev) v:=qab _
def qF4 (G_u135q:qcR):qdA:=LE (τ:=qf2) (hD qFr) (qyI G_u135q) qXB
theorem qWV (G_u135q:qcR) (hG:qqw G_u135q):Go.Eng.Told IP (qah F19 0).1 (qah F19 0).2 (qF4 G_u135q):=qaF (inferInstance:Inhabited qf2) (hs:=qFr) (st:=qoD G_u135q) (L:=[]) (ql1 G_u135q hG) (qae (l:=[]) (by kernel_rfl) trivial) (qt7 G_u135q) (fun v=>by kernel_rfl) (fun v=>by kernel_rfl)
def qr1 (G_u135q:qcR) (x0 x1:Int) (x2:List UInt8) (x3:List AV):DT qvB:=
 .bi (pj 0 (qyI G_u135q (1,x3,(x3.length:Int),0))) (fun y0=>
 .at (y0.1))
 (.no)
def qe1:Nat -> qcR
 | 0=>fun _ _ _ _=>none
 | n + 1=>fun x0 x1 x2 x3=>(qr1 ((qe1 n)) x0 x1 x2 x3).ev
def qe9 (x0 x1:Int) (x2:List UInt8) (x3:List AV):Option qvB:=qfI fun n=>(qe1 n) x0 x1 x2 x3
theorem qo9:∀ n,qqw ((qe1 n))
 | 0=>(fun v y h=>nomatch h)
 | n + 1=>have hG:=qo9 n
 qak (F:=F19) (L:=[(1001900,qF4 ((qe1 n)))]) (t:=(k4 (qr1 ((qe1 n))))) (ql1 ((qe1 n)) hG) (qae (l:=[qah F19 0]) (by kernel_rfl) ⟨qaH (by kernel_rfl) (qWV ((qe1 n)) hG),trivial⟩) (by kernel_rfl) (fun v=>by kernel_rfl) (fun v=>rfl)
theorem qRh:FH IP 19 qnD qnZ (k4 qe9):=qbk (p:=qnD) (rs:=qnZ) (s:=fun n=>(k4 ((qe1 n)))) fun n=>(qo9 n)
def T4:Tab:=(19,FE qnD qnZ (k4 qe9)) :: T3
theorem qT1:qao IP T4:=⟨qan qRh,qTX⟩
abbrev qvC:Type:=Int
def qnE:PArgs:=⟨[.agg [.int .i64,.int .i64,.str,.view 4]],[]⟩
def qn0:List PRes:=[⟨false,.int .i64,[]⟩]
abbrev qcS:Type:=Int -> Int -> (List UInt8) -> (List AV) -> Option qvC
def qqx (G_u136q:qcS):Prop:=FH IP 34 qnE qn0 (k4 G_u136q)
def qJV (G_u136q:qcS):Tab:=(34,FE qnE qn0 (k4 G_u136q)) :: T4
theorem ql2 (G_u136q:qcS) (hG:qqx G_u136q):qao IP (qJV G_u136q):=⟨qan (hG),qT1⟩
abbrev qf3:Type:=Int × List AV × Int × Int
def qFs:List PSt:=[⟨[(1003400,.junk),(3,.int .i64),(7,.view 4),(8,.int .i64),(9,.int .i64)],[],0,0⟩]
def qMo (x0:Int) (x1:List AV) (x2 x3:Int):X × St:=(.exit 0,⟨[(3,.int .i64 x0)],[],0,0⟩)
def qXC:List (qf3 -> X × St):=[(k4 qMo)]
def qoG (G_u136q:qcS) (x0:Int) (x1:List AV) (x2 x3:Int):DT (Rd qf3):=
 .br (decide (x3 < x2))
 (.br (qaQ [.int .i64,.int .i64,.str,.slice 4] x1 x3)
 (.bi (G_u136q (intOf (cellAt x1 x3 0)) (intOf (cellAt x1 x3 1)) (strOf (cellAt x1 x3 2)) (qai (cellAt x1 x3 3))) (fun y0=>
 .at (.next ((if y0 > x0 then y0 else x0,x1,x2,IntKind.i64.wrap (x3 + 1)))))
 (.no))
 (.no))
 (.at (.done 0))
def qoF (G_u136q:qcS):qf3 -> DT (Rd qf3):=(fun v=>qoG G_u136q v.1 v.2.1 v.2.2.1 v.2.2.2)
def qyJ (G_u136q:qcS) (v:qf3):Option (Nat × qf3):=qa2 (qaw (fun v=>(qoF G_u136q v).ev) v)
theorem qt8 (G_u136q v):qyJ G_u136q v = qaw (fun v=>(qoF G_u136q v).ev) v:=qab _
def qF5 (G_u136q:qcS):qdA:=LE (τ:=qf3) (hD qFs) (qyJ G_u136q) qXC
theorem qWW (G_u136q:qcS) (hG:qqx G_u136q):Go.Eng.Told IP (qah F34 0).1 (qah F34 0).2 (qF5 G_u136q):=qaF (inferInstance:Inhabited qf3) (hs:=qFs) (st:=qoF G_u136q) (L:=[]) (ql2 G_u136q hG) (qae (l:=[]) (by kernel_rfl) trivial) (qt8 G_u136q) (fun v=>by kernel_rfl) (fun v=>by kernel_rfl)
def qr2 (G_u136q:qcS) (x0 x1:Int) (x2:List UInt8) (x3:List AV):DT qvC:=
 .bi (pj 0 (qyJ G_u136q (0,x3,(x3.length:Int),0))) (fun y0=>
 .at (IntKind.i64.wrap (y0.1 + 1)))
 (.no)
def qe2:Nat -> qcS
 | 0=>fun _ _ _ _=>none
 | n + 1=>fun x0 x1 x2 x3=>(qr2 ((qe2 n)) x0 x1 x2 x3).ev
def qmx (x0 x1:Int) (x2:List UInt8) (x3:List AV):Option qvC:=qfI fun n=>(qe2 n) x0 x1 x2 x3
theorem qpa:∀ n,qqx ((qe2 n))
 | 0=>(fun v y h=>nomatch h)
 | n + 1=>have hG:=qpa n
 qak (F:=F34) (L:=[(1003400,qF5 ((qe2 n)))]) (t:=(k4 (qr2 ((qe2 n))))) (ql2 ((qe2 n)) hG) (qae (l:=[qah F34 0]) (by kernel_rfl) ⟨qaH (by kernel_rfl) (qWW ((qe2 n)) hG),trivial⟩) (by kernel_rfl) (fun v=>by kernel_rfl) (fun v=>rfl)
theorem qRi:FH IP 34 qnE qn0 (k4 qmx):=qbk (p:=qnE) (rs:=qn0) (s:=fun n=>(k4 ((qe2 n)))) fun n=>(qpa n)
def T5:Tab:=(34,FE qnE qn0 (k4 qmx)) :: T4
theorem qT5:qao IP T5:=⟨qan qRi,qT1⟩
abbrev qMY:Type:=Int
def qPq:PArgs:=⟨[.int .i64],[]⟩
def qQb:List PRes:=[⟨false,.int .i64,[]⟩]
def qsH (x0:Int):DT qMY:=
 .br (x0 == 1)
 (.br (x0 == 1)
 (.at (0))
 (.br (x0 == 9)
 (.br (x0 == 9)
 (.at (1))
 (.br (x0 == 19)
 (.at (3))
 (.bi (br (decide (x0 >= 5)) (some (decide (x0 <= 18))) (some false)) (fun y0=>
 .br (y0) (.at (2)) (.at (-1)))
 (.no))))
 (.br (x0 == 16)
 (.at (1))
 (.br (x0 == 19)
 (.at (3))
 (.bi (br (decide (x0 >= 5)) (some (decide (x0 <= 18))) (some false)) (fun y0=>
 .br (y0) (.at (2)) (.at (-1)))
 (.no))))))
 (.br (x0 == 2)
 (.br (x0 == 2)
 (.at (0))
 (.br (x0 == 9)
 (.br (x0 == 9)
 (.at (1))
 (.br (x0 == 19)
 (.at (3))
 (.bi (br (decide (x0 >= 5)) (some (decide (x0 <= 18))) (some false)) (fun y0=>
 .br (y0) (.at (2)) (.at (-1)))
 (.no))))
 (.br (x0 == 16)
 (.at (1))
 (.br (x0 == 19)
 (.at (3))
 (.bi (br (decide (x0 >= 5)) (some (decide (x0 <= 18))) (some false)) (fun y0=>
 .br (y0) (.at (2)) (.at (-1)))
 (.no))))))
 (.br (x0 == 3)
 (.br (x0 == 3)
 (.at (0))
 (.br (x0 == 9)
 (.br (x0 == 9)
 (.at (1))
 (.br (x0 == 19)
 (.at (3))
 (.bi (br (decide (x0 >= 5)) (some (decide (x0 <= 18))) (some false)) (fun y0=>
 .br (y0) (.at (2)) (.at (-1)))
 (.no))))
 (.br (x0 == 16)
 (.at (1))
 (.br (x0 == 19)
 (.at (3))
 (.bi (br (decide (x0 >= 5)) (some (decide (x0 <= 18))) (some false)) (fun y0=>
 .br (y0) (.at (2)) (.at (-1)))
 (.no))))))
 (.br (x0 == 4)
 (.at (0))
 (.br (x0 == 9)
 (.br (x0 == 9)
 (.at (1))
 (.br (x0 == 19)
 (.at (3))
 (.bi (br (decide (x0 >= 5)) (some (decide (x0 <= 18))) (some false)) (fun y0=>
 .br (y0) (.at (2)) (.at (-1)))
 (.no))))
 (.br (x0 == 16)
 (.at (1))
 (.br (x0 == 19)
 (.at (3))
 (.bi (br (decide (x0 >= 5)) (some (decide (x0 <= 18))) (some false)) (fun y0=>
 .br (y0) (.at (2)) (.at (-1)))
 (.no))))))))
def qkN (x0:Int):Option qMY:=qa2 (qsH x0).ev
theorem qEA (x0):qkN x0 = (qsH x0).ev:=qab _
theorem qU2:FH IP 68 qPq qQb qkN:=fh F68 qsH qT5
def T6:Tab:=(68,FE qPq qQb qkN) :: T5
theorem qT7:qao IP T6:=⟨qan qU2,qT5⟩
abbrev qBW:Type:=Bool
def qGO:PArgs:=⟨[.agg [.int .i64,.int .i64,.str,.view 4]],[]⟩
def qHJ:List PRes:=[⟨false,.bool,[]⟩]
def qlk (x0 x1:Int) (x2:List UInt8) (x3:List AV):DT qBW:=
 .br (x0 == 1)
 (.bi (qkN x0) (fun y0=>
 .br (y0 == (x3.length:Int))
 (.br (decide (x1 >= 0))
 (.br (decide (x1 <= 9223372036854775807))
 (.br (x2 == []) (.at (true)) (.at (x0 == 4)))
 (.at (false)))
 (.at (false)))
 (.at (false)))
 (.no))
 (.br (x0 == 2)
 (.bi (qkN x0) (fun y0=>
 .br (y0 == (x3.length:Int))
 (.br (decide (x1 >= 0))
 (.br (decide (x1 <= 1000000000000))
 (.br (x2 == []) (.at (true)) (.at (x0 == 4)))
 (.at (false)))
 (.at (false)))
 (.at (false)))
 (.no))
 (.br (x0 == 3)
 (.bi (qkN x0) (fun y0=>
 .br (y0 == (x3.length:Int))
 (.br (decide (x1 >= 0))
 (.br (decide (x1 <= 1000000))
 (.br (x2 == []) (.at (true)) (.at (x0 == 4)))
 (.at (false)))
 (.at (false)))
 (.at (false)))
 (.no))
 (.bi (qkN x0) (fun y0=>
 .br (y0 == (x3.length:Int))
 (.br (decide (x1 >= 0))
 (.br (decide (x1 <= 0))
 (.br (x2 == []) (.at (true)) (.at (x0 == 4)))
 (.at (false)))
 (.at (false)))
 (.at (false)))
 (.no))))
def qmp (x0 x1:Int) (x2:List UInt8) (x3:List AV):Option qBW:=qa2 (qlk x0 x1 x2 x3).ev
theorem qz5 (x0 x1 x2 x3):qmp x0 x1 x2 x3 = (qlk x0 x1 x2 x3).ev:=qab _
theorem qQ4:FH IP 36 qGO qHJ (k4 qmp):=fh F36 (k4 qlk) qT7
def T7:Tab:=(36,FE qGO qHJ (k4 qmp)) :: T6
theorem qT9:qao IP T7:=⟨qan qQ4,qT7⟩
abbrev qvD:Type:=Bool
def qnF:PArgs:=⟨[.agg [.int .i64,.int .i64,.str,.view 4],.fn (.func 36) []],[]⟩
def qn1:List PRes:=[⟨false,.bool,[]⟩]
abbrev qb5:Type:=Int -> Int -> (List UInt8) -> (List AV) -> Option qvD
abbrev qQD:Type:=Bool
def qHs:PArgs:=⟨[.view 4,.fn (.func 67) [.ptr [.fn (.func 36) []]]],[]⟩
def qIn:List PRes:=[⟨false,.bool,[]⟩]
abbrev qeM:Type:=(List AV) -> Option qQD
abbrev qQF:Type:=Int
def qHu:PArgs:=⟨[.view 4,.fn (.func 67) [.ptr [.fn (.func 36) []]]],[]⟩
def qIp:List PRes:=[⟨false,.int .i64,[]⟩]
abbrev qeO:Type:=(List AV) -> Option qQF
abbrev qCI:Type:=Bool
def quL:PArgs:=⟨[.agg [.int .i64,.int .i64,.str,.view 4],.ptr [.fn (.func 36) []]],[]⟩
def qu0:List PRes:=[⟨false,.bool,[]⟩]
abbrev qcZ:Type:=Int -> Int -> (List UInt8) -> (List AV) -> Option qCI
def qqy (G_u137q:qb5) (G_u3q:qeM) (G_u7q:qeO) (G_u87q:qcZ):Prop:=FH IP 35 qnF qn1 (k4 G_u137q) /\ FH IP 66 qHs qIn G_u3q /\ FH IP 89 qHu qIp G_u7q /\ FH IP 67 quL qu0 (k4 G_u87q)
def qJW (G_u137q:qb5) (G_u3q:qeM) (G_u7q:qeO) (G_u87q:qcZ):Tab:=(35,FE qnF qn1 (k4 G_u137q)) :: (66,FE qHs qIn G_u3q) :: (89,FE qHu qIp G_u7q) :: (67,FE quL qu0 (k4 G_u87q)) :: T7
theorem qej (G_u137q:qb5) (G_u3q:qeM) (G_u7q:qeO) (G_u87q:qcZ) (hG:qqy G_u137q G_u3q G_u7q G_u87q):qao IP (qJW G_u137q G_u3q G_u7q G_u87q):=⟨qan (hG.1),qan (hG.2.1),qan (hG.2.2.1),qan (hG.2.2.2),qT9⟩
abbrev qiO:Type:=List AV × Int × Int
def qOJ:List PSt:=[⟨[(1008900,.junk),(0,.view 4),(1,.fn (.func 67) [.ptr [.fn (.func 36) []]]),(7,.int .i64),(8,.int .i64)],[],0,0⟩]
def qTm (x0:List AV) (x1 x2:Int):X × St:=(.ret,⟨[(4,.int .i64 x2)],[],0,0⟩)
def qTn (x0:List AV) (x1 x2:Int):X × St:=(.exit 0,⟨[(4,.junk)],[],0,0⟩)
def q0C:List (qiO -> X × St):=[(k3 qTm),(k3 qTn)]
def qrR (G_u137q:qb5) (G_u3q:qeM) (G_u7q:qeO) (G_u87q:qcZ) (x0:List AV) (x1 x2:Int):DT (Rd qiO):=
 .br (decide (x2 < x1))
 (.br (qaQ [.int .i64,.int .i64,.str,.slice 4] x0 x2)
 (.bi (G_u87q (intOf (cellAt x0 x2 0)) (intOf (cellAt x0 x2 1)) (strOf (cellAt x0 x2 2)) (qai (cellAt x0 x2 3))) (fun y0=>
 .br (y0) (.at (.done 0)) (.at (.next ((x0,x1,IntKind.i64.wrap (x2 + 1))))))
 (.no))
 (.no))
 (.at (.done 1))
def qvf (G_u137q:qb5) (G_u3q:qeM) (G_u7q:qeO) (G_u87q:qcZ):qiO -> DT (Rd qiO):=(fun v=>qrR G_u137q G_u3q G_u7q G_u87q v.1 v.2.1 v.2.2)
def qFC (G_u137q:qb5) (G_u3q:qeM) (G_u7q:qeO) (G_u87q:qcZ) (v:qiO):Option (Nat × qiO):=qa2 (qaw (fun v=>(qvf G_u137q G_u3q G_u7q G_u87q v).ev) v)
theorem qyE (G_u137q G_u3q G_u7q G_u87q v):qFC G_u137q G_u3q G_u7q G_u87q v = qaw (fun v=>(qvf G_u137q G_u3q G_u7q G_u87q v).ev) v:=qab _
def qOQ (G_u137q:qb5) (G_u3q:qeM) (G_u7q:qeO) (G_u87q:qcZ):qdA:=LE (τ:=qiO) (hD qOJ) (qFC G_u137q G_u3q G_u7q G_u87q) q0C
theorem q0r (G_u137q:qb5) (G_u3q:qeM) (G_u7q:qeO) (G_u87q:qcZ) (hG:qqy G_u137q G_u3q G_u7q G_u87q):Go.Eng.Told IP (qah F89 0).1 (qah F89 0).2 (qOQ G_u137q G_u3q G_u7q G_u87q):=qaF (inferInstance:Inhabited qiO) (hs:=qOJ) (st:=qvf G_u137q G_u3q G_u7q G_u87q) (L:=[]) (qej G_u137q G_u3q G_u7q G_u87q hG) (qae (l:=[]) (by kernel_rfl) trivial) (qyE G_u137q G_u3q G_u7q G_u87q) (fun v=>by kernel_rfl) (fun v=>by kernel_rfl)
def qr3 (G_u137q:qb5) (G_u3q:qeM) (G_u7q:qeO) (G_u87q:qcZ) (x0 x1:Int) (x2:List UInt8) (x3:List AV):DT qvD:=
 .bi (qmp x0 x1 x2 x3) (fun y0=>
 .bi (br y0 (br (sm (G_u3q x3)) (some !gv (G_u3q x3)) none) (some false)) (fun y1=>
 .at (y1))
 (.no))
 (.no)
def qI2 (G_u137q:qb5) (G_u3q:qeM) (G_u7q:qeO) (G_u87q:qcZ) (x0:List AV):DT qQD:=
 .bi (G_u7q x0) (fun y0=>
 .at (decide (y0 >= 0)))
 (.no)
def qI4 (G_u137q:qb5) (G_u3q:qeM) (G_u7q:qeO) (G_u87q:qcZ) (x0:List AV):DT qQF:=
 .bi (pj 0
 (qFC G_u137q G_u3q G_u7q G_u87q (x0,(x0.length:Int),0))) (fun y0=>
 .at (y0.2.2))
 (.bi (pj 1
 (qFC G_u137q G_u3q G_u7q G_u87q (x0,(x0.length:Int),0))) (fun y0=>
 .at (-1))
 (.no))
def qxE (G_u137q:qb5) (G_u3q:qeM) (G_u7q:qeO) (G_u87q:qcZ) (x0 x1:Int) (x2:List UInt8) (x3:List AV):DT qCI:=
 .bi (G_u137q x0 x1 x2 x3) (fun y0=>
 .at (!y0))
 (.no)
def qam:Nat -> qb5 × qeM × qeO × qcZ
 | 0=>(fun _ _ _ _=>none,fun _=>none,fun _=>none,fun _ _ _ _=>none)
 | n + 1=>(fun x0 x1 x2 x3=>(qr3 ((qam n).1) ((qam n).2.1) ((qam n).2.2.1) ((qam n).2.2.2) x0 x1 x2 x3).ev,fun x0=>(qI2 ((qam n).1) ((qam n).2.1) ((qam n).2.2.1) ((qam n).2.2.2) x0).ev,fun x0=>(qI4 ((qam n).1) ((qam n).2.1) ((qam n).2.2.1) ((qam n).2.2.2) x0).ev,fun x0 x1 x2 x3=>(qxE ((qam n).1) ((qam n).2.1) ((qam n).2.2.1) ((qam n).2.2.2) x0 x1 x2 x3).ev)
def qq2 (x0 x1:Int) (x2:List UInt8) (x3:List AV):Option qvD:=qfI fun n=>(qam n).1 x0 x1 x2 x3
def qVu (x0:List AV):Option qQD:=qfI fun n=>(qam n).2.1 x0
def qVw (x0:List AV):Option qQF:=qfI fun n=>(qam n).2.2.1 x0
def qOE (x0 x1:Int) (x2:List UInt8) (x3:List AV):Option qCI:=qfI fun n=>(qam n).2.2.2 x0 x1 x2 x3
theorem qfh:∀ n,qqy ((qam n).1) ((qam n).2.1) ((qam n).2.2.1) ((qam n).2.2.2)
 | 0=>⟨(fun v y h=>nomatch h),(fun v y h=>nomatch h),(fun v y h=>nomatch h),(fun v y h=>nomatch h)⟩
 | n + 1=>have hG:=qfh n
 ⟨qak (F:=F35) (L:=[]) (t:=(k4 (qr3 ((qam n).1) ((qam n).2.1) ((qam n).2.2.1) ((qam n).2.2.2)))) (qej ((qam n).1) ((qam n).2.1) ((qam n).2.2.1) ((qam n).2.2.2) hG) (qae (l:=[]) (by kernel_rfl) trivial) (by kernel_rfl) (fun v=>by kernel_rfl) (fun v=>rfl),qak (F:=F66) (L:=[]) (t:=(qI2 ((qam n).1) ((qam n).2.1) ((qam n).2.2.1) ((qam n).2.2.2))) (qej ((qam n).1) ((qam n).2.1) ((qam n).2.2.1) ((qam n).2.2.2) hG) (qae (l:=[]) (by kernel_rfl) trivial) (by kernel_rfl) (fun v=>by kernel_rfl) (fun v=>rfl),qak (F:=F89) (L:=[(1008900,qOQ ((qam n).1) ((qam n).2.1) ((qam n).2.2.1) ((qam n).2.2.2))]) (t:=(qI4 ((qam n).1) ((qam n).2.1) ((qam n).2.2.1) ((qam n).2.2.2))) (qej ((qam n).1) ((qam n).2.1) ((qam n).2.2.1) ((qam n).2.2.2) hG) (qae (l:=[qah F89 0]) (by kernel_rfl) ⟨qaH (by kernel_rfl) (q0r ((qam n).1) ((qam n).2.1) ((qam n).2.2.1) ((qam n).2.2.2) hG),trivial⟩) (by kernel_rfl) (fun v=>by kernel_rfl) (fun v=>rfl),qak (F:=F67) (L:=[]) (t:=(k4 (qxE ((qam n).1) ((qam n).2.1) ((qam n).2.2.1) ((qam n).2.2.2)))) (qej ((qam n).1) ((qam n).2.1) ((qam n).2.2.1) ((qam n).2.2.2) hG) (qae (l:=[]) (by kernel_rfl) trivial) (by kernel_rfl) (fun v=>by kernel_rfl) (fun v=>rfl)⟩
theorem qRj:FH IP 35 qnF qn1 (k4 qq2):=qbk (p:=qnF) (rs:=qn1) (s:=fun n=>(k4 ((qam n).1))) fun n=>(qfh n).1
theorem qYR:FH IP 66 qHs qIn qVu:=qbk (p:=qHs) (rs:=qIn) (s:=fun n=>((qam n).2.1)) fun n=>(qfh n).2.1
theorem qYT:FH IP 89 qHu qIp qVw:=qbk (p:=qHu) (rs:=qIp) (s:=fun n=>((qam n).2.2.1)) fun n=>(qfh n).2.2.1
theorem qVc:FH IP 67 quL qu0 (k4 qOE):=qbk (p:=quL) (rs:=qu0) (s:=fun n=>(k4 ((qam n).2.2.2))) fun n=>(qfh n).2.2.2
def T8:Tab:=(35,FE qnF qn1 (k4 qq2)) :: T7
theorem qYz:qao IP T8:=⟨qan qRj,qT9⟩
def T9:Tab:=(66,FE qHs qIn qVu) :: T8
theorem qYA:qao IP T9:=⟨qan qYR,qYz⟩
def T10:Tab:=(89,FE qHu qIp qVw) :: T9
theorem qTU:qao IP T10:=⟨qan qYT,qYA⟩
def T11:Tab:=(67,FE quL qu0 (k4 qOE)) :: T10
theorem qNg:qao IP T11:=⟨qan qVc,qTU⟩
abbrev qMT:Type:=Bool
def qPl:PArgs:=⟨[.int .i32],[]⟩
def qP6:List PRes:=[⟨false,.bool,[]⟩]
def qsB (x0:Int):DT qMT:=
 .at (x0 != 10)
def qpv (x0:Int):Option qMT:=qa2 (qsB x0).ev
theorem qEv (x0):qpv x0 = (qsB x0).ev:=qab _
theorem qUX:FH IP 140 qPl qP6 qpv:=fh qYd qsB qNg
def T12:Tab:=(140,FE qPl qP6 qpv) :: T11
theorem qC5:qao IP T12:=⟨qan qUX,qNg⟩
abbrev qfT:Type:=List UInt8 × Int
def qFg:List PSt:=[⟨[(1013900,.junk),(0,.str),(1,.fn (.func 140) []),(5,.int .i64)],[],0,0⟩]
def qL0 (x0:List UInt8) (x1:Int):X × St:=(.exit 0,⟨[(0,.str x0),(5,.int .i64 x1)],[],0,0⟩)
def qXq:List (qfT -> X × St):=[(k2 qL0)]
def qoy (x0:List UInt8) (x1:Int):DT (Rd qfT):=
 .bi (br (decide (x1 < (x0.length:Int)))
 (br (inB x0.length x1) (br (sm (qpv (IntKind.i32.wrap (qaA x0 x1)))) (some (gv (qpv (IntKind.i32.wrap (qaA x0 x1))))) none) none) (some false)) (fun y0=>
 .br (y0) (.at (.next ((x0,IntKind.i64.wrap (x1 + 1))))) (.at (.done 0)))
 (.no)
def qox:qfT -> DT (Rd qfT):=(fun v=>qoy v.1 v.2)
def qyD (v:qfT):Option (Nat × qfT):=qa2 (qaw (fun v=>(qox v).ev) v)
theorem qtX (v):qyD v = qaw (fun v=>(qox v).ev) v:=qab _
def qFT:qdA:=LE (τ:=qfT) (hD qFg) (qyD) qXq
theorem qWK:Go.Eng.Told IP (qah qsZ 0).1 (qah qsZ 0).2 (qFT):=lp (inferInstance:Inhabited qfT) (hs:=qFg) qox qC5 qtX
abbrev qNc:Type:=List UInt8
def qPE:PArgs:=⟨[.str,.fn (.func 140) []],[]⟩
def qQp:List PRes:=[⟨false,.str,[]⟩]
def qsV (x0:List UInt8):DT qNc:=
 .bi (pj 0 (qyD (x0,0))) (fun y0=>
 .br (leB y0.2 y0.1.length && true) (.at (List.take y0.2.toNat y0.1)) (.no))
 (.no)
def qmW (x0:List UInt8):Option qNc:=qa2 (qsV x0).ev
theorem qEO (x0):qmW x0 = (qsV x0).ev:=qab _
theorem qVh:FH IP 139 qPE qQp qmW:=qak (F:=qsZ) (L:=[(1013900,qFT)]) (t:=qsV) qC5 (qae (l:=[qah qsZ 0]) (by kernel_rfl) ⟨qaH (by kernel_rfl) qWK,trivial⟩) (by kernel_rfl) (fun v=>by kernel_rfl) (fun _=>qab _)
def T13:Tab:=(139,FE qPE qQp qmW) :: T12
theorem qC6:qao IP T13:=⟨qan qVh,qC5⟩
abbrev qfS:Type:=List UInt8 × Int
def qFf:List PSt:=[⟨[(1011700,.junk),(0,.str),(3,.int .i64)],[],0,0⟩]
def qLY (x0:List UInt8) (x1:Int):X × St:=(.ret,⟨[(2,.int .i64 x1),(3,.int .i64 x1)],[],0,0⟩)
def qLZ (x0:List UInt8) (x1:Int):X × St:=(.exit 0,⟨[(2,.junk),(3,.int .i64 x1)],[],0,0⟩)
def qXp:List (qfS -> X × St):=[(k2 qLY),(k2 qLZ)]
def qow (x0:List UInt8) (x1:Int):DT (Rd qfS):=
 .br (decide (x1 < (x0.length:Int)))
 (.br (inB x0.length x1)
 (.br (qaA x0 x1 == 32)
 (.br (qaA x0 x1 == 32)
 (.at (.next ((x0,IntKind.i64.wrap (x1 + 1)))))
 (.br (qaA x0 x1 == 35)
 (.br (leB x1 x0.length)
 (.bi (qmW (List.drop x1.toNat x0)) (fun y0=>
 .at (.next ((x0,IntKind.i64.wrap (x1 + (y0.length:Int))))))
 (.no))
 (.no))
 (.at (.done 0))))
 (.br (qaA x0 x1 == 9)
 (.br (qaA x0 x1 == 9)
 (.at (.next ((x0,IntKind.i64.wrap (x1 + 1)))))
 (.br (qaA x0 x1 == 35)
 (.br (leB x1 x0.length)
 (.bi (qmW (List.drop x1.toNat x0)) (fun y0=>
 .at (.next ((x0,IntKind.i64.wrap (x1 + (y0.length:Int))))))
 (.no))
 (.no))
 (.at (.done 0))))
 (.br (qaA x0 x1 == 10)
 (.at (.next ((x0,IntKind.i64.wrap (x1 + 1)))))
 (.br (qaA x0 x1 == 35)
 (.br (leB x1 x0.length)
 (.bi (qmW (List.drop x1.toNat x0)) (fun y0=>
 .at (.next ((x0,IntKind.i64.wrap (x1 + (y0.length:Int))))))
 (.no))
 (.no))
 (.at (.done 0))))))
 (.no))
 (.at (.done 1))
def qkz:qfS -> DT (Rd qfS):=(fun v=>qow v.1 v.2)
def qtW (v:qfS):Option (Nat × qfS):=qa2 (qaw (fun v=>(qkz v).ev) v)
theorem qi2 (v):qtW v = qaw (fun v=>(qkz v).ev) v:=qab _
def qFS:qdA:=LE (τ:=qfS) (hD qFf) (qtW) qXp
theorem qWJ:Go.Eng.Told IP (qah qTt 0).1 (qah qTt 0).2 (qFS):=lp (inferInstance:Inhabited qfS) (hs:=qFf) qkz qC6 qi2
abbrev qM8:Type:=Int
def qPA:PArgs:=⟨[.str],[]⟩
def qQl:List PRes:=[⟨false,.int .i64,[]⟩]
def qsR (x0:List UInt8):DT qM8:=
 .bi (pj 0 (qtW (x0,0))) (fun y0=>
 .at (y0.2))
 (.bi (pj 1 (qtW (x0,0))) (fun y0=>
 .at (y0.2))
 (.no))
def qdf (x0:List UInt8):Option qM8:=qa2 (qsR x0).ev
theorem qEK (x0):qdf x0 = (qsR x0).ev:=qab _
theorem qVd:FH IP 117 qPA qQl qdf:=qak (F:=qTt) (L:=[(1011700,qFS)]) (t:=qsR) qC6 (qae (l:=[qah qTt 0]) (by kernel_rfl) ⟨qaH (by kernel_rfl) qWJ,trivial⟩) (by kernel_rfl) (fun v=>by kernel_rfl) (fun _=>qab _)
def T14:Tab:=(117,FE qPA qQl qdf) :: T13
theorem qNh:qao IP T14:=⟨qan qVd,qC6⟩
abbrev qNa:Type:=Bool
def qPC:PArgs:=⟨[.int .i32],[]⟩
def qQn:List PRes:=[⟨false,.bool,[]⟩]
def qsT (x0:Int):DT qNa:=
 .bi (br (decide (x0 >= 97)) (some (decide (x0 <= 122))) (some false)) (fun y0=>
 .at (y0))
 (.no)
def qpC (x0:Int):Option qNa:=qa2 (qsT x0).ev
theorem qEM (x0):qpC x0 = (qsT x0).ev:=qab _
theorem qVf:FH IP 144 qPC qQn qpC:=fh qYe qsT qNh
def T15:Tab:=(144,FE qPC qQn qpC) :: T14
theorem qNi:qao IP T15:=⟨qan qVf,qNh⟩
abbrev qBZ:Type:=Bool
def qGR:PArgs:=⟨[.int .i32],[]⟩
def qHM:List PRes:=[⟨false,.bool,[]⟩]
def qln (x0:Int):DT qBZ:=
 .bi (br (decide (x0 >= 48)) (some (decide (x0 <= 57))) (some false)) (fun y0=>
 .at (y0))
 (.no)
def qga (x0:Int):Option qBZ:=qa2 (qln x0).ev
theorem qz8 (x0):qga x0 = (qln x0).ev:=qab _
theorem qQ7:FH IP 146 qGR qHM qga:=fh qYg qln qNi
def T16:Tab:=(146,FE qGR qHM qga) :: T15
theorem qNj:qao IP T16:=⟨qan qQ7,qNi⟩
abbrev qM9:Type:=Bool
def qPB:PArgs:=⟨[.int .i32],[]⟩
def qQm:List PRes:=[⟨false,.bool,[]⟩]
def qsS (x0:Int):DT qM9:=
 .bi (qpC x0) (fun y0=>
 .bi (br y0 (some true) (br (sm (qga x0)) (some (gv (qga x0))) none)) (fun y1=>
 .bi (br y1 (some true) (some (x0 == 95))) (fun y2=>
 .at (y2))
 (.no))
 (.no))
 (.no)
def qmV (x0:Int):Option qM9:=qa2 (qsS x0).ev
theorem qEL (x0):qmV x0 = (qsS x0).ev:=qab _
theorem qVe:FH IP 145 qPB qQm qmV:=fh qYf qsS qNj
def T17:Tab:=(145,FE qPB qQm qmV) :: T16
theorem qC7:qao IP T17:=⟨qan qVe,qNj⟩
abbrev qfO:Type:=List UInt8 × Int
def qFb:List PSt:=[⟨[(1013900,.junk),(0,.str),(1,.fn (.func 145) []),(5,.int .i64)],[],0,0⟩]
def qLT (x0:List UInt8) (x1:Int):X × St:=(.exit 0,⟨[(0,.str x0),(5,.int .i64 x1)],[],0,0⟩)
def qXl:List (qfO -> X × St):=[(k2 qLT)]
def qop (x0:List UInt8) (x1:Int):DT (Rd qfO):=
 .bi (br (decide (x1 < (x0.length:Int)))
 (br (inB x0.length x1) (br (sm (qmV (IntKind.i32.wrap (qaA x0 x1)))) (some (gv (qmV (IntKind.i32.wrap (qaA x0 x1))))) none) none) (some false)) (fun y0=>
 .br (y0) (.at (.next ((x0,IntKind.i64.wrap (x1 + 1))))) (.at (.done 0)))
 (.no)
def qoo:qfO -> DT (Rd qfO):=(fun v=>qop v.1 v.2)
def qyz (v:qfO):Option (Nat × qfO):=qa2 (qaw (fun v=>(qoo v).ev) v)
theorem qtR (v):qyz v = qaw (fun v=>(qoo v).ev) v:=qab _
def qFO:qdA:=LE (τ:=qfO) (hD qFb) (qyz) qXl
theorem qWF:Go.Eng.Told IP (qah qsZ 0).1 (qah qsZ 0).2 (qFO):=lp (inferInstance:Inhabited qfO) (hs:=qFb) qoo qC7 qtR
abbrev qM2:Type:=List UInt8
def qPu:PArgs:=⟨[.str,.fn (.func 145) []],[]⟩
def qQf:List PRes:=[⟨false,.str,[]⟩]
def qsL (x0:List UInt8):DT qM2:=
 .bi (pj 0 (qyz (x0,0))) (fun y0=>
 .br (leB y0.2 y0.1.length && true) (.at (List.take y0.2.toNat y0.1)) (.no))
 (.no)
def qtw (x0:List UInt8):Option qM2:=qa2 (qsL x0).ev
theorem qEE (x0):qtw x0 = (qsL x0).ev:=qab _
theorem qU6:FH IP 139 qPu qQf qtw:=qak (F:=qsZ) (L:=[(1013900,qFO)]) (t:=qsL) qC7 (qae (l:=[qah qsZ 0]) (by kernel_rfl) ⟨qaH (by kernel_rfl) qWF,trivial⟩) (by kernel_rfl) (fun v=>by kernel_rfl) (fun _=>qab _)
def T18:Tab:=(139,FE qPu qQf qtw) :: T17
theorem qNk:qao IP T18:=⟨qan qU6,qC7⟩
abbrev qB1:Type:=List AV
def qGT:PArgs:=⟨[],[]⟩
def qHO:List PRes:=[⟨false,.view 1,[]⟩]
def qlp:DT qB1:=
 .at ([AV.str ([] ++ [112] ++ [114] ++ [111] ++ [100] ++ [117] ++ [99] ++ [116]),AV.str ([] ++ [99] ++ [117] ++ [114] ++ [114] ++ [101] ++ [110] ++ [99] ++ [121]),
 AV.str ([] ++ [99] ++ [97] ++ [108] ++ [101] ++ [110] ++ [100] ++ [97] ++ [114]),AV.str ([] ++ [102] ++ [114] ++ [111] ++ [109]),
 AV.str ([] ++ [101] ++ [118] ++ [101] ++ [114] ++ [121]),AV.str ([] ++ [111] ++ [118] ++ [101] ++ [114] ++ [100] ++ [114] ++ [97] ++ [102] ++ [116]),
 AV.str ([] ++ [116] ++ [97] ++ [120]),AV.str ([] ++ [99] ++ [114] ++ [101] ++ [100] ++ [105] ++ [116]),AV.str ([] ++ [100] ++ [101] ++ [98] ++ [105] ++ [116]),
 AV.str ([] ++ [109] ++ [97] ++ [114] ++ [103] ++ [105] ++ [110] ++ [97] ++ [108]),AV.str ([] ++ [119] ++ [104] ++ [111] ++ [108] ++ [101]),
 AV.str ([] ++ [97] ++ [99] ++ [116] ++ [51] ++ [54] ++ [48]),AV.str ([] ++ [97] ++ [99] ++ [116] ++ [51] ++ [54] ++ [53]),
 AV.str ([] ++ [97] ++ [99] ++ [116] ++ [117] ++ [97] ++ [108]),AV.str ([] ++ [116] ++ [104] ++ [105] ++ [114] ++ [116] ++ [121]),
 AV.str ([] ++ [100] ++ [111] ++ [119] ++ [110]),AV.str ([] ++ [117] ++ [112]),AV.str ([] ++ [102] ++ [108] ++ [111] ++ [111] ++ [114]),
 AV.str ([] ++ [99] ++ [101] ++ [105] ++ [108]),AV.str ([] ++ [104] ++ [97] ++ [108] ++ [102] ++ [95] ++ [117] ++ [112]),
 AV.str ([] ++ [104] ++ [97] ++ [108] ++ [102] ++ [95] ++ [101] ++ [118] ++ [101] ++ [110]),AV.str ([] ++ [107] ++ [101] ++ [101] ++ [112]),
 AV.str ([] ++ [100] ++ [114] ++ [111] ++ [112]),AV.str ([] ++ [102] ++ [101] ++ [101]),AV.str ([] ++ [108] ++ [105] ++ [109] ++ [105] ++ [116]),
 AV.str ([] ++ [119] ++ [104] ++ [101] ++ [110]),AV.str ([] ++ [97] ++ [109] ++ [111] ++ [117] ++ [110] ++ [116] ++ [95] ++ [111] ++ [102]),
 AV.str ([] ++ [115] ++ [105] ++ [110] ++ [103] ++ [108] ++ [101]),AV.str ([] ++ [100] ++ [97] ++ [105] ++ [108] ++ [121]),
 AV.str ([] ++ [109] ++ [111] ++ [110] ++ [116] ++ [104] ++ [108] ++ [121]),AV.str ([] ++ [109] ++ [111] ++ [110] ++ [116] ++ [104]),
 AV.str ([] ++ [114] ++ [101] ++ [116] ++ [117] ++ [114] ++ [110]),AV.str ([] ++ [99] ++ [108] ++ [111] ++ [115] ++ [101]),
 AV.str ([] ++ [101] ++ [118] ++ [101] ++ [110] ++ [116]),AV.str ([] ++ [105] ++ [102]),AV.str ([] ++ [116] ++ [104] ++ [101] ++ [110]),
 AV.str ([] ++ [101] ++ [108] ++ [115] ++ [101]),AV.str ([] ++ [97] ++ [110] ++ [100]),AV.str ([] ++ [111] ++ [114]),AV.str ([] ++ [110] ++ [111] ++ [116]),
 AV.str ([] ++ [109] ++ [105] ++ [110]),AV.str ([] ++ [109] ++ [97] ++ [120])])
def qmt:Option qB1:=qa2 (qlp).ev
theorem qAb:qmt = (qlp).ev:=qab _
theorem qQ9:FH IP 110 qGT qHO (fun _=>qmt):=qak (F:=qYa) (L:=[]) (t:=(fun _=>qlp)) qNk (qae (l:=[]) (by kernel_rfl) trivial) (by kernel_rfl) (fun v=>by kernel_rfl) (fun _=>qab _)
def T19:Tab:=(110,FE qGT qHO (fun _=>qmt)) :: T18
theorem qC8:qao IP T19:=⟨qan qQ9,qNk⟩
abbrev qfJ:Type:=List AV × List UInt8 × Int × Int
def qE3:List PSt:=[⟨[(1013400,.junk),(0,.view 1),(1,.str),(7,.int .i64),(8,.int .i64)],[],0,0⟩]
def qLs (x0:List AV) (x1:List UInt8) (x2 x3:Int):X × St:=(.ret,⟨[(4,.int .i64 x3)],[],0,0⟩)
def qLt (x0:List AV) (x1:List UInt8) (x2 x3:Int):X × St:=(.exit 0,⟨[(4,.junk)],[],0,0⟩)
def qXd:List (qfJ -> X × St):=[(k4 qLs),(k4 qLt)]
def qon (x0:List AV) (x1:List UInt8) (x2 x3:Int):DT (Rd qfJ):=
 .br (decide (x3 < x2))
 (.br (qaQ [.str] x0 x3)
 (.br (x1 == strOf (cellAt x0 x3 0)) (.at (.done 0)) (.at (.next ((x0,x1,x2,IntKind.i64.wrap (x3 + 1))))))
 (.no))
 (.at (.done 1))
def qom:qfJ -> DT (Rd qfJ):=(fun v=>qon v.1 v.2.1 v.2.2.1 v.2.2.2)
def qtH (v:qfJ):Option (Nat × qfJ):=qa2 (qaw (fun v=>(qom v).ev) v)
theorem qtI (v):qtH v = qaw (fun v=>(qom v).ev) v:=qab _
def qFG:qdA:=LE (τ:=qfJ) (hD qE3) (qtH) qXd
theorem qWx:Go.Eng.Told IP (qah qTx 0).1 (qah qTx 0).2 (qFG):=lp (inferInstance:Inhabited qfJ) (hs:=qE3) qom qC8 qtI
abbrev qMA:Type:=Int
def qO0:PArgs:=⟨[.view 1,.str],[]⟩
def qPL:List PRes:=[⟨false,.int .i64,[]⟩]
def qr7 (x0:List AV) (x1:List UInt8):DT qMA:=
 .bi (pj 0 (qtH (x0,x1,(x0.length:Int),0))) (fun y0=>
 .at (y0.2.2.2))
 (.bi (pj 1 (qtH (x0,x1,(x0.length:Int),0))) (fun y0=>
 .at (-1))
 (.no))
def qx5 (x0:List AV) (x1:List UInt8):Option qMA:=qa2 (qr7 x0 x1).ev
theorem qD8 (x0 x1):qx5 x0 x1 = (qr7 x0 x1).ev:=qab _
theorem qUx:FH IP 134 qO0 qPL (k2 qx5):=qak (F:=qTx) (L:=[(1013400,qFG)]) (t:=(k2 qr7)) qC8 (qae (l:=[qah qTx 0]) (by kernel_rfl) ⟨qaH (by kernel_rfl) qWx,trivial⟩) (by kernel_rfl) (fun v=>by kernel_rfl) (fun _=>qab _)
def T20:Tab:=(134,FE qO0 qPL (k2 qx5)) :: T19
theorem qNl:qao IP T20:=⟨qan qUx,qC8⟩
abbrev qMy:Type:=Bool
def qOY:PArgs:=⟨[.view 1,.str],[]⟩
def qPJ:List PRes:=[⟨false,.bool,[]⟩]
def qr0 (x0:List AV) (x1:List UInt8):DT qMy:=
 .bi (qx5 x0 x1) (fun y0=>
 .at (decide (y0 >= 0)))
 (.no)
def qtp (x0:List AV) (x1:List UInt8):Option qMy:=qa2 (qr0 x0 x1).ev
theorem qD5 (x0 x1):qtp x0 x1 = (qr0 x0 x1).ev:=qab _
theorem qUv:FH IP 109 qOY qPJ (k2 qtp):=fh qX9 (k2 qr0) qNl
def T21:Tab:=(109,FE qOY qPJ (k2 qtp)) :: T20
theorem qNm:qao IP T21:=⟨qan qUv,qNl⟩
abbrev qCa:Type:=Bool
def qG2:PArgs:=⟨[.str],[]⟩
def qHX:List PRes:=[⟨false,.bool,[]⟩]
def qly (x0:List UInt8):DT qCa:=
 .bi (qmt) (fun y0=>
 .bi (qtp y0 x0) (fun y1=>
 .at (y1))
 (.no))
 (.no)
def qgV (x0:List UInt8):Option qCa:=qa2 (qly x0).ev
theorem qAj (x0):qgV x0 = (qly x0).ev:=qab _
theorem qRn:FH IP 85 qG2 qHX qgV:=fh F85 qly qNm
def T22:Tab:=(85,FE qG2 qHX qgV) :: T21
theorem qNn:qao IP T22:=⟨qan qRn,qNm⟩
end
end Go.Proofs.H10

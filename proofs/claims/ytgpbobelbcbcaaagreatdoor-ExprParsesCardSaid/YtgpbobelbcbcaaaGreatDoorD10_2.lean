/- Functions over plain data. Printed by a program of mine. -/
import Derived.Test.YtgpbobelbcbcaaaGreatDoorD10_1
import Derived.KernelRfl
set_option linter.unusedVariables false
set_option linter.unusedSimpArgs false
set_option linter.unnecessarySimpa false
namespace Go.Proofs.H10
open Go Go.Eng
set_option maxRecDepth 100000
noncomputable section
abbrev qMU:Type:=Bool
def qPm:PArgs:=⟨[.int .i32],[]⟩
def qP7:List PRes:=[⟨false,.bool,[]⟩]
def qsC (x0:Int):DT qMU:=
 .bi (qmV x0) (fun y0=>
 .bi (br y0 (some true) (some (x0 == 46))) (fun y1=>
 .bi (br y1 (some true) (some (x0 == 37))) (fun y2=>
 .at (y2))
 (.no))
 (.no))
 (.no)
def qpw (x0:Int):Option qMU:=qa2 (qsC x0).ev
theorem qEw (x0):qpw x0 = (qsC x0).ev:=qab _
theorem qUY:FH IP 148 qPm qP7 qpw:=fh qYi qsC qNn
def T23:Tab:=(148,FE qPm qP7 qpw) :: T22
theorem qC9:qao IP T23:=⟨qan qUY,qNn⟩
abbrev qfP:Type:=List UInt8 × Int
def qFc:List PSt:=[⟨[(1013900,.junk),(0,.str),(1,.fn (.func 148) []),(5,.int .i64)],[],0,0⟩]
def qLU (x0:List UInt8) (x1:Int):X × St:=(.exit 0,⟨[(0,.str x0),(5,.int .i64 x1)],[],0,0⟩)
def qXm:List (qfP -> X × St):=[(k2 qLU)]
def qor (x0:List UInt8) (x1:Int):DT (Rd qfP):=
 .bi (br (decide (x1 < (x0.length:Int)))
 (br (inB x0.length x1) (br (sm (qpw (IntKind.i32.wrap (qaA x0 x1)))) (some (gv (qpw (IntKind.i32.wrap (qaA x0 x1))))) none) none) (some false)) (fun y0=>
 .br (y0) (.at (.next ((x0,IntKind.i64.wrap (x1 + 1))))) (.at (.done 0)))
 (.no)
def qoq:qfP -> DT (Rd qfP):=(fun v=>qor v.1 v.2)
def qyA (v:qfP):Option (Nat × qfP):=qa2 (qaw (fun v=>(qoq v).ev) v)
theorem qtS (v):qyA v = qaw (fun v=>(qoq v).ev) v:=qab _
def qFP:qdA:=LE (τ:=qfP) (hD qFc) (qyA) qXm
theorem qWG:Go.Eng.Told IP (qah qsZ 0).1 (qah qsZ 0).2 (qFP):=lp (inferInstance:Inhabited qfP) (hs:=qFc) qoq qC9 qtS
abbrev qM3:Type:=List UInt8
def qPv:PArgs:=⟨[.str,.fn (.func 148) []],[]⟩
def qQg:List PRes:=[⟨false,.str,[]⟩]
def qsM (x0:List UInt8):DT qM3:=
 .bi (pj 0 (qyA (x0,0))) (fun y0=>
 .br (leB y0.2 y0.1.length && true) (.at (List.take y0.2.toNat y0.1)) (.no))
 (.no)
def qtx (x0:List UInt8):Option qM3:=qa2 (qsM x0).ev
theorem qEF (x0):qtx x0 = (qsM x0).ev:=qab _
theorem qU7:FH IP 139 qPv qQg qtx:=qak (F:=qsZ) (L:=[(1013900,qFP)]) (t:=qsM) qC9 (qae (l:=[qah qsZ 0]) (by kernel_rfl) ⟨qaH (by kernel_rfl) qWG,trivial⟩) (by kernel_rfl) (fun v=>by kernel_rfl) (fun _=>qab _)
def T24:Tab:=(139,FE qPv qQg qtx) :: T23
theorem qDa:qao IP T24:=⟨qan qU7,qC9⟩
abbrev qfQ:Type:=List UInt8 × Int
def qFd:List PSt:=[⟨[(1013900,.junk),(0,.str),(1,.fn (.func 146) []),(5,.int .i64)],[],0,0⟩]
def qLV (x0:List UInt8) (x1:Int):X × St:=(.exit 0,⟨[(0,.str x0),(5,.int .i64 x1)],[],0,0⟩)
def qXn:List (qfQ -> X × St):=[(k2 qLV)]
def qot (x0:List UInt8) (x1:Int):DT (Rd qfQ):=
 .bi (br (decide (x1 < (x0.length:Int)))
 (br (inB x0.length x1) (br (sm (qga (IntKind.i32.wrap (qaA x0 x1)))) (some (gv (qga (IntKind.i32.wrap (qaA x0 x1))))) none) none) (some false)) (fun y0=>
 .br (y0) (.at (.next ((x0,IntKind.i64.wrap (x1 + 1))))) (.at (.done 0)))
 (.no)
def qos:qfQ -> DT (Rd qfQ):=(fun v=>qot v.1 v.2)
def qyB (v:qfQ):Option (Nat × qfQ):=qa2 (qaw (fun v=>(qos v).ev) v)
theorem qtT (v):qyB v = qaw (fun v=>(qos v).ev) v:=qab _
def qFQ:qdA:=LE (τ:=qfQ) (hD qFd) (qyB) qXn
theorem qWH:Go.Eng.Told IP (qah qsZ 0).1 (qah qsZ 0).2 (qFQ):=lp (inferInstance:Inhabited qfQ) (hs:=qFd) qos qDa qtT
abbrev qM4:Type:=List UInt8
def qPw:PArgs:=⟨[.str,.fn (.func 146) []],[]⟩
def qQh:List PRes:=[⟨false,.str,[]⟩]
def qsN (x0:List UInt8):DT qM4:=
 .bi (pj 0 (qyB (x0,0))) (fun y0=>
 .br (leB y0.2 y0.1.length && true) (.at (List.take y0.2.toNat y0.1)) (.no))
 (.no)
def qh2 (x0:List UInt8):Option qM4:=qa2 (qsN x0).ev
theorem qEG (x0):qh2 x0 = (qsN x0).ev:=qab _
theorem qU8:FH IP 139 qPw qQh qh2:=qak (F:=qsZ) (L:=[(1013900,qFQ)]) (t:=qsN) qDa (qae (l:=[qah qsZ 0]) (by kernel_rfl) ⟨qaH (by kernel_rfl) qWH,trivial⟩) (by kernel_rfl) (fun v=>by kernel_rfl) (fun _=>qab _)
def T25:Tab:=(139,FE qPw qQh qh2) :: T24
theorem qNo:qao IP T25:=⟨qan qU8,qDa⟩
abbrev qM1:Type:=Bool
def qPt:PArgs:=⟨[.str],[]⟩
def qQe:List PRes:=[⟨false,.bool,[]⟩]
def qsK (x0:List UInt8):DT qM1:=
 .bi (br (!x0 == []) (br (sm (qh2 x0)) (some (gv (qh2 x0) == x0)) none) (some false)) (fun y0=>
 .bi (br y0 (br ((x0.length:Int) == 1) (some true) (br (inB x0.length 0) (some (qaA x0 0 != 48)) none)) (some false)) (fun y1=>
 .at (y1))
 (.no))
 (.no)
def qmT (x0:List UInt8):Option qM1:=qa2 (qsK x0).ev
theorem qED (x0):qmT x0 = (qsK x0).ev:=qab _
theorem qU5:FH IP 155 qPt qQe qmT:=fh qYn qsK qNo
def T26:Tab:=(155,FE qPt qQe qmT) :: T25
theorem qNp:qao IP T26:=⟨qan qU5,qNo⟩
abbrev qMx:Type:=Bool
def qOX:PArgs:=⟨[.str,.str],[]⟩
def qPI:List PRes:=[⟨false,.bool,[]⟩]
def qrY (x0 x1:List UInt8):DT qMx:=
 .bi (br (decide ((x0.length:Int) >= (x1.length:Int)))
 (br (leB (IntKind.i64.wrap ((x0.length:Int) - (x1.length:Int))) x0.length) (some (List.drop (IntKind.i64.wrap ((x0.length:Int) - (x1.length:Int))).toNat x0 == x1))
 none)
 (some false)) (fun y0=>
 .at (y0))
 (.no)
def qx4 (x0 x1:List UInt8):Option qMx:=qa2 (qrY x0 x1).ev
theorem qD4 (x0 x1):qx4 x0 x1 = (qrY x0 x1).ev:=qab _
theorem qUu:FH IP 187 qOX qPI (k2 qx4):=fh qYr (k2 qrY) qNp
def T27:Tab:=(187,FE qOX qPI (k2 qx4)) :: T26
theorem qNq:qao IP T27:=⟨qan qUu,qNp⟩
abbrev qTR:Type:=List UInt8 × Bool
def qV9:PArgs:=⟨[.str,.str],[]⟩
def qWk:List PRes:=[⟨false,.tup [.str,.bool],[]⟩]
def qzB (x0 x1:List UInt8):DT qTR:=
 .bi (qx4 x0 x1) (fun y0=>
 .br (!y0)
 (.at ((x0,false)))
 (.br (leB (IntKind.i64.wrap ((x0.length:Int) - (x1.length:Int))) x0.length && true)
 (.at ((List.take (IntKind.i64.wrap ((x0.length:Int) - (x1.length:Int))).toNat x0,true)))
 (.no)))
 (.no)
def qKo (x0 x1:List UInt8):Option qTR:=qa2 (qzB x0 x1).ev
theorem qKp (x0 x1):qKo x0 x1 = (qzB x0 x1).ev:=qab _
theorem qYU:FH IP 170 qV9 qWk (k2 qKo):=fh qYp (k2 qzB) qNq
def T28:Tab:=(170,FE qV9 qWk (k2 qKo)) :: T27
theorem qNr:qao IP T28:=⟨qan qYU,qNq⟩
abbrev qMJ:Type:=List UInt8 × Bool
def qPa:PArgs:=⟨[.str,.str],[]⟩
def qPV:List PRes:=[⟨false,.tup [.str,.bool],[]⟩]
def qsn (x0 x1:List UInt8):DT qMJ:=
 .bi (qKo x0 x1) (fun y0=>
 .at ((y0.1,y0.2)))
 (.no)
def qts (x0 x1:List UInt8):Option qMJ:=qa2 (qsn x0 x1).ev
theorem qEj (x0 x1):qts x0 x1 = (qsn x0 x1).ev:=qab _
theorem qUN:FH IP 153 qPa qPV (k2 qts):=fh qYl (k2 qsn) qNr
def T29:Tab:=(153,FE qPa qPV (k2 qts)) :: T28
theorem qNs:qao IP T29:=⟨qan qUN,qNr⟩
abbrev qMz:Type:=Int
def qOZ:PArgs:=⟨[.str,.str],[]⟩
def qPK:List PRes:=[⟨false,.int .i64,[]⟩]
def qr4 (x0 x1:List UInt8):DT qMz:=
 .bi (br ((x1.length:Int) == 0) (some true) (some (x1 == x0))) (fun y0=>
 .br (y0)
 (.at (0))
 (.br ((x1.length:Int) == 1)
 (.br (inB x1.length 0) (.at (Lib.indexByte x0 (qaA x1 0).toNat.toUInt8)) (.no))
 (.br (decide ((x1.length:Int) >= (x0.length:Int))) (.at (-1)) (.no))))
 (.no)
def qtr (x0 x1:List UInt8):Option qMz:=qa2 (qr4 x0 x1).ev
theorem qD7 (x0 x1):qtr x0 x1 = (qr4 x0 x1).ev:=qab _
theorem qUw:FH IP 165 qOZ qPK (k2 qtr):=qak (F:=qXH) (L:=[]) (t:=(k2 qr4)) qNs (qae (l:=[qah qXH 0]) (by kernel_rfl) ⟨qQv (by kernel_rfl),trivial⟩) (by kernel_rfl) (fun v=>by kernel_rfl) (fun _=>qab _)
def T30:Tab:=(165,FE qOZ qPK (k2 qtr)) :: T29
theorem qNt:qao IP T30:=⟨qan qUw,qNs⟩
abbrev qMB:Type:=List UInt8 × List UInt8 × Bool
def qO1:PArgs:=⟨[.str,.str],[]⟩
def qPM:List PRes:=[⟨false,.tup [.str,.str,.bool],[]⟩]
def qsb (x0 x1:List UInt8):DT qMB:=
 .bi (qtr x0 x1) (fun y0=>
 .br (decide (y0 >= 0))
 (.br (leB y0 x0.length && true)
 (.br (leB (IntKind.i64.wrap (y0 + (x1.length:Int))) x0.length)
 (.at ((List.take y0.toNat x0,List.drop (IntKind.i64.wrap (y0 + (x1.length:Int))).toNat x0,true)))
 (.no))
 (.no))
 (.at ((x0,[],false))))
 (.no)
def qx6 (x0 x1:List UInt8):Option qMB:=qa2 (qsb x0 x1).ev
theorem qEa (x0 x1):qx6 x0 x1 = (qsb x0 x1).ev:=qab _
theorem qUy:FH IP 171 qO1 qPM (k2 qx6):=fh qYq (k2 qsb) qNt
def T31:Tab:=(171,FE qO1 qPM (k2 qx6)) :: T30
theorem qNu:qao IP T31:=⟨qan qUy,qNt⟩
abbrev qBY:Type:=List UInt8 × List UInt8 × Bool
def qGQ:PArgs:=⟨[.str,.str],[]⟩
def qHL:List PRes:=[⟨false,.tup [.str,.str,.bool],[]⟩]
def qlm (x0 x1:List UInt8):DT qBY:=
 .bi (qx6 x0 x1) (fun y0=>
 .at ((y0.1,y0.2.1,y0.2.2)))
 (.no)
def qmq (x0 x1:List UInt8):Option qBY:=qa2 (qlm x0 x1).ev
theorem qz7 (x0 x1):qmq x0 x1 = (qlm x0 x1).ev:=qab _
theorem qQ6:FH IP 154 qGQ qHL (k2 qmq):=fh qYm (k2 qlm) qNu
def T32:Tab:=(154,FE qGQ qHL (k2 qmq)) :: T31
theorem qDb:qao IP T32:=⟨qan qQ6,qNu⟩
abbrev qf4:Type:=List UInt8 × List UInt8
def qFu:List PSt:=[⟨[(1012800,.junk),(6,.str),(7,.str)],[],0,0⟩]
def qMr (x0 x1:List UInt8):X × St:=(.exit 0,⟨[(6,.str x0),(7,.str x1)],[],0,0⟩)
def qXE:List (qf4 -> X × St):=[(k2 qMr)]
def qoH (x0 x1:List UInt8):DT (Rd qf4):=
 .br (decide ((x1.length:Int) < 4))
 (.br (decide (x1.length + 1 <= 4611686018427387904)) (.at (.next ((x0,x1 ++ [48])))) (.no))
 (.at (.done 0))
def qkC:qf4 -> DT (Rd qf4):=(fun v=>qoH v.1 v.2)
def qyK (v:qf4):Option (Nat × qf4):=qa2 (qaw (fun v=>(qkC v).ev) v)
theorem qua (v):qyK v = qaw (fun v=>(qkC v).ev) v:=qab _
def qF7:qdA:=LE (τ:=qf4) (hD qFu) (qyK) qXE
theorem qWY:Go.Eng.Told IP (qah qTv 0).1 (qah qTv 0).2 (qF7):=lp (inferInstance:Inhabited qf4) (hs:=qFu) qkC qDb qua
abbrev qB9:Type:=Int × Int
def qG1:PArgs:=⟨[.str],[]⟩
def qHW:List PRes:=[⟨false,.tup [.int .i64,.int .i64],[]⟩]
def qlx (x0:List UInt8):DT qB9:=
 .bi (qts x0 [37]) (fun y0=>
 .bi (qmq y0.1 [46]) (fun y1=>
 .bi (br (!y0.2) (some true) (br (sm (qmT y1.1)) (some !gv (qmT y1.1)) none)) (fun y2=>
 .bi (br y2 (some true)
 (br y1.2.2
 (br (y1.2.1 == []) (some true)
 (br (decide ((y1.2.1.length:Int) > 4)) (some true)
 (br (sm (qh2 y1.2.1))
 (br (!gv (qh2 y1.2.1) == y1.2.1) (some true)
 (br (inB y1.2.1.length (IntKind.i64.wrap ((y1.2.1.length:Int) - 1))) (some (qaA y1.2.1 (IntKind.i64.wrap ((y1.2.1.length:Int) - 1)) == 48))
 none))
 none)))
 (some false))) (fun y3=>
 .br (y3)
 (.at ((0,2)))
 (.br (decide ((y1.1.length:Int) > 3))
 (.at ((0,1)))
 (.bi (pj 0 (qyK (y1.1,y1.2.1))) (fun y4=>
 .br (decide (y4.1.length + y4.2.length <= 4611686018427387904))
 (.br (pOk (y4.1 ++ y4.2) && nOk (Lib.atoiAll (y4.1 ++ y4.2)))
 (.br (decide (qJO (Lib.atoiAll (y4.1 ++ y4.2)) > 1000000)) (.at ((0,1))) (.at ((qJO (Lib.atoiAll (y4.1 ++ y4.2)),0))))
 (.br (pOk (y4.1 ++ y4.2) && qg9 (Lib.atoiAll (y4.1 ++ y4.2)))
 (.br (decide (Lib.atoiSat (y4.1 ++ y4.2) > 1000000)) (.at ((0,1))) (.at ((Lib.atoiSat (y4.1 ++ y4.2),0))))
 (.br (pOk (y4.1 ++ y4.2) && qdu (Lib.atoiAll (y4.1 ++ y4.2))) (.at ((0,0))) (.no))))
 (.no))
 (.no))))
 (.no))
 (.no))
 (.no))
 (.no)
def qih (x0:List UInt8):Option qB9:=qa2 (qlx x0).ev
theorem qAi (x0):qih x0 = (qlx x0).ev:=qab _
theorem qRm:FH IP 128 qG1 qHW qih:=qak (F:=qTv) (L:=[(1012800,qF7)]) (t:=qlx) qDb (qae (l:=[qah qTv 0]) (by kernel_rfl) ⟨qaH (by kernel_rfl) qWY,trivial⟩) (by kernel_rfl) (fun v=>by kernel_rfl) (fun _=>qab _)
def T33:Tab:=(128,FE qG1 qHW qih) :: T32
theorem qNv:qao IP T33:=⟨qan qRm,qDb⟩
abbrev qNb:Type:=Int × Int × List UInt8 × Int
def qPD:PArgs:=⟨[.str],[]⟩
def qQo:List PRes:=[⟨false,.tup [.agg [.int .i64,.int .i64,.str],.int .i64],[]⟩]
def qsU (x0:List UInt8):DT qNb:=
 .bi (qmT x0) (fun y0=>
 .br (y0)
 (.br (pOk x0 && nOk (Lib.parseIntB 64 x0))
 (.at ((2,0,x0,0)))
 (.br (pOk x0 && qg9 (Lib.parseIntB 64 x0))
 (.at ((0,0,[],6)))
 (.br (pOk x0 && qdu (Lib.parseIntB 64 x0)) (.at ((0,0,[],6))) (.no))))
 (.bi (qih x0) (fun y1=>
 .br (y1.2 == 0)
 (.at ((3,0,x0,0)))
 (.br (y1.2 == 1) (.at ((0,0,[],6))) (.at ((0,0,[],2)))))
 (.no)))
 (.no)
def qtA (x0:List UInt8):Option qNb:=qa2 (qsU x0).ev
theorem qEN (x0):qtA x0 = (qsU x0).ev:=qab _
theorem qVg:FH IP 147 qPD qQo qtA:=fh qYh qsU qNv
def T34:Tab:=(147,FE qPD qQo qtA) :: T33
theorem qNw:qao IP T34:=⟨qan qVg,qNv⟩
abbrev qB0:Type:=List AV
def qGS:PArgs:=⟨[],[]⟩
def qHN:List PRes:=[⟨false,.view 1,[]⟩]
def qlo:DT qB0:=
 .at ([AV.str ([] ++ [61] ++ [61]),AV.str ([] ++ [33] ++ [61]),AV.str ([] ++ [60] ++ [61]),AV.str ([] ++ [123]),AV.str ([] ++ [125]),AV.str ([] ++ [40]),AV.str ([] ++ [41]),
 AV.str ([] ++ [44]),AV.str ([] ++ [59]),AV.str ([] ++ [58]),AV.str ([] ++ [36]),AV.str ([] ++ [43]),AV.str ([] ++ [45]),AV.str ([] ++ [42]),AV.str ([] ++ [47]),
 AV.str ([] ++ [60])])
def qms:Option qB0:=qa2 (qlo).ev
theorem qAa:qms = (qlo).ev:=qab _
theorem qQ8:FH IP 149 qGS qHN (fun _=>qms):=qak (F:=qYj) (L:=[]) (t:=(fun _=>qlo)) qNw (qae (l:=[]) (by kernel_rfl) trivial) (by kernel_rfl) (fun v=>by kernel_rfl) (fun _=>qab _)
def T35:Tab:=(149,FE qGS qHN (fun _=>qms)) :: T34
theorem qNx:qao IP T35:=⟨qan qQ8,qNw⟩
abbrev qTS:Type:=Bool
def qWa:PArgs:=⟨[.str,.str],[]⟩
def qWl:List PRes:=[⟨false,.bool,[]⟩]
def qzC (x0 x1:List UInt8):DT qTS:=
 .bi (br (decide ((x0.length:Int) >= (x1.length:Int))) (br (leB (x1.length:Int) x0.length && true) (some (List.take (x1.length:Int).toNat x0 == x1)) none) (some false)) (fun y0=>
 .at (y0))
 (.no)
def qKq (x0 x1:List UInt8):Option qTS:=qa2 (qzC x0 x1).ev
theorem qKr (x0 x1):qKq x0 x1 = (qzC x0 x1).ev:=qab _
theorem qYV:FH IP 167 qWa qWl (k2 qKq):=fh qYo (k2 qzC) qNx
def T36:Tab:=(167,FE qWa qWl (k2 qKq)) :: T35
theorem qNy:qao IP T36:=⟨qan qYV,qNx⟩
abbrev qMK:Type:=Bool
def qPb:PArgs:=⟨[.str,.str],[]⟩
def qPW:List PRes:=[⟨false,.bool,[]⟩]
def qso (x0 x1:List UInt8):DT qMK:=
 .bi (qKq x0 x1) (fun y0=>
 .at (y0))
 (.no)
def qtt (x0 x1:List UInt8):Option qMK:=qa2 (qso x0 x1).ev
theorem qEk (x0 x1):qtt x0 x1 = (qso x0 x1).ev:=qab _
theorem qUO:FH IP 150 qPb qPW (k2 qtt):=fh qYk (k2 qso) qNy
def T37:Tab:=(150,FE qPb qPW (k2 qtt)) :: T36
theorem qDc:qao IP T37:=⟨qan qUO,qNy⟩
abbrev qf5:Type:=List UInt8 × List AV × Int × Int × Int × Int × List UInt8
def qFv:List PSt:=[⟨[(1011900,.junk),(0,.str),(2,.ref 0 0 0),(34,.view 1),(35,.int .i64),(36,.int .i64)],[(0,.box [.int .i64,.int .i64,.str] false)],1,0⟩]
def qMs (x0:List UInt8) (x1:List AV) (x2 x3:Int) (x4 x5:Int) (x6:List UInt8):X × St:=(.ret,
 ⟨[(2,.ref 0 0 0),(3,.int .i64 0)],[(0,.box [.int .i64 4,.int .i64 0,.str (strOf (cellAt x1 x3 0))] false)],1,0⟩)
def qMt (x0:List UInt8) (x1:List AV) (x2 x3:Int) (x4 x5:Int) (x6:List UInt8):X × St:=(.exit 1,⟨[(2,.ref 0 0 0),(3,.junk)],[(0,.box [.int .i64 x4,.int .i64 x5,.str x6] false)],1,0⟩)
def qXF:List (qf5 -> X × St):=[(k7 qMs),(k7 qMt)]
def qoJ (x0:List UInt8) (x1:List AV) (x2 x3:Int) (x4 x5:Int) (x6:List UInt8):DT (Rd qf5):=
 .br (decide (x3 < x2))
 (.br (qaQ [.str] x1 x3)
 (.bi (qtt x0 (strOf (cellAt x1 x3 0))) (fun y0=>
 .br (y0) (.at (.done 0)) (.at (.next ((x0,x1,x2,IntKind.i64.wrap (x3 + 1),x4,x5,x6)))))
 (.no))
 (.no))
 (.at (.done 1))
def qoI:qf5 -> DT (Rd qf5):=(fun v=>qoJ v.1 v.2.1 v.2.2.1 v.2.2.2.1 v.2.2.2.2.1 v.2.2.2.2.2.1 v.2.2.2.2.2.2)
def qub (v:qf5):Option (Nat × qf5):=qa2 (qaw (fun v=>(qoI v).ev) v)
theorem quc (v):qub v = qaw (fun v=>(qoI v).ev) v:=qab _
def qF8:qdA:=LE (τ:=qf5) (hD qFv) (qub) qXF
theorem qWZ:Go.Eng.Told IP (qah qTu 0).1 (qah qTu 0).2 (qF8):=lp (inferInstance:Inhabited qf5) (hs:=qFv) qoI qDc quc
abbrev qCb:Type:=Int × Int × List UInt8 × Int
def qG3:PArgs:=⟨[.str],[]⟩
def qHY:List PRes:=[⟨false,.tup [.agg [.int .i64,.int .i64,.str],.int .i64],[]⟩]
def qlz (x0:List UInt8):DT qCb:=
 .br (inB x0.length 0)
 (.bi (qpC (IntKind.i32.wrap (qaA x0 0))) (fun y0=>
 .br (y0)
 (.bi (qtw x0) (fun y1=>
 .bi (qgV y1) (fun y2=>
 .br (y2)
 (.at ((5,0,y1,0)))
 (.br (decide ((y1.length:Int) > 16)) (.at ((0,0,[],4))) (.at ((1,0,y1,0)))))
 (.no))
 (.no))
 (.bi (qga (IntKind.i32.wrap (qaA x0 0))) (fun y1=>
 .br (y1)
 (.bi (qtx x0) (fun y2=>
 .bi (qtA y2) (fun y3=>
 .at ((y3.1,y3.2.1,y3.2.2.1,y3.2.2.2)))
 (.no))
 (.no))
 (.bi (qms) (fun y2=>
 .bi (pj 0 (qub (x0,y2,(y2.length:Int),0,0,0,[]))) (fun y3=>
 .at ((4,0,strOf (cellAt y3.2.1 y3.2.2.2.1 0),0)))
 (.bi (pj 1 (qub (x0,y2,(y2.length:Int),0,0,0,[]))) (fun y3=>
 .at ((0,0,[],2)))
 (.no)))
 (.no)))
 (.no)))
 (.no))
 (.no)
def qdM (x0:List UInt8):Option qCb:=qa2 (qlz x0).ev
theorem qAk (x0):qdM x0 = (qlz x0).ev:=qab _
theorem qRo:FH IP 119 qG3 qHY qdM:=qak (F:=qTu) (L:=[(1011900,qF8)]) (t:=qlz) qDc (qae (l:=[qah qTu 0]) (by kernel_rfl) ⟨qaH (by kernel_rfl) qWZ,trivial⟩) (by kernel_rfl) (fun v=>by kernel_rfl) (fun _=>qab _)
def T38:Tab:=(119,FE qG3 qHY qdM) :: T37
theorem qDd:qao IP T38:=⟨qan qRo,qDc⟩
abbrev qdJ:Type:=(List UInt8 × Int) ⊕ (List UInt8 × Int × List AV)
def qE8:List PSt:=[⟨[(1009000,.junk),(0,.str),(5,.nils 3),(6,.int .i64)],[],0,0⟩,⟨[(1009000,.junk),(0,.str),(5,.own 0 0),(6,.int .i64)],[(0,.arr 3 false)],1,0⟩]
def qLH (x0:List UInt8) (x1:Int):X × St:=(.ret,⟨[(2,.nils ⟨3,.nil⟩),(3,.int .i64 0),(4,.int .i64 0)],[],0,0⟩)
def qLI (x0:List UInt8) (x1:Int):X × St:=(.ret,
 ⟨[(2,.nils ⟨3,.nil⟩),(3,.int .i64 (IntKind.i64.wrap (x1 + ((Lib.countByte (List.take (gv (qdf x0)).toNat x0) 10):Int)))),
 (4,.int .i64 (gv (qdM (List.drop (gv (qdf x0)).toNat x0))).2.2.2)],[],0,0⟩)
def qLJ (x0:List UInt8) (x1:Int) (x2:List AV):X × St:=(.ret,⟨[(2,.own 0 0 none),(3,.int .i64 0),(4,.int .i64 0)],[(0,.arr 3 x2 false)],1,0⟩)
def qLK (x0:List UInt8) (x1:Int) (x2:List AV):X × St:=(.ret,
 ⟨[(2,.nils ⟨3,.nil⟩),(3,.int .i64 (IntKind.i64.wrap (x1 + ((Lib.countByte (List.take (gv (qdf x0)).toNat x0) 10):Int)))),
 (4,.int .i64 (gv (qdM (List.drop (gv (qdf x0)).toNat x0))).2.2.2)],[],0,0⟩)
def qXi:List (qdJ -> X × St):=[fun w=>(k2 qLH) ((sl w)),fun w=>(k2 qLI) ((sl w)),fun w=>(k3 qLJ) ((sr w)),fun w=>(k3 qLK) ((sr w))]
def qjt (x0:List UInt8) (x1:Int):DT (Rd qdJ):=
 .bi (qdf x0) (fun y0=>
 .br (leB y0 x0.length && true)
 (.br (leB y0 x0.length)
 (.br (List.drop y0.toNat x0 == [])
 (.at (.done 0))
 (.bi (qdM (List.drop y0.toNat x0)) (fun y1=>
 .br (y1.2.2.2 != 0)
 (.at (.done 1))
 (.br (leB (y1.2.2.1.length:Int) (List.drop y0.toNat x0).length)
 (.at (.next ((.inr (List.drop (y1.2.2.1.length:Int).toNat (List.drop y0.toNat x0),IntKind.i64.wrap (x1 + ((Lib.countByte (List.take y0.toNat x0) 10):Int)),[AV.agg [.int .i64 y1.1,.int .i64 (IntKind.i64.wrap (x1 + ((Lib.countByte (List.take y0.toNat x0) 10):Int))),AV.str y1.2.2.1]])))))
 (.no)))
 (.no)))
 (.no))
 (.no))
 (.no)
def qju (x0:List UInt8) (x1:Int) (x2:List AV):DT (Rd qdJ):=
 .bi (qdf x0) (fun y0=>
 .br (leB y0 x0.length && true)
 (.br (leB y0 x0.length)
 (.br (List.drop y0.toNat x0 == [])
 (.at (.done 2))
 (.bi (qdM (List.drop y0.toNat x0)) (fun y1=>
 .br (y1.2.2.2 != 0)
 (.at (.done 3))
 (.br (room (x2.length + 1) 32)
 (.br (leB (y1.2.2.1.length:Int) (List.drop y0.toNat x0).length)
 (.at (.next ((.inr (List.drop (y1.2.2.1.length:Int).toNat (List.drop y0.toNat x0),IntKind.i64.wrap (x1 + ((Lib.countByte (List.take y0.toNat x0) 10):Int)),x2 ++ [AV.agg [.int .i64 y1.1,.int .i64 (IntKind.i64.wrap (x1 + ((Lib.countByte (List.take y0.toNat x0) 10):Int))),AV.str y1.2.2.1]])))))
 (.no))
 (.no)))
 (.no)))
 (.no))
 (.no))
 (.no)
def qfc:qdJ -> DT (Rd qdJ):=(Sum.elim (fun v=>qjt v.1 v.2) (fun v=>qju v.1 v.2.1 v.2.2))
def qkP (v:qdJ):Option (Nat × qdJ):=qa2 (qaw (fun v=>(qfc v).ev) v)
theorem qni (v):qkP v = qaw (fun v=>(qfc v).ev) v:=qab _
def qFL:qdA:=LE (τ:=qdJ) (hD qE8) (qkP) qXi
theorem qWC:Go.Eng.Told IP (qah F90 0).1 (qah F90 0).2 (qFL):=qaF (inferInstance:Inhabited qdJ) (hs:=qE8) (st:=qfc) (L:=[]) qDd (qae (l:=[]) (by kernel_rfl) trivial) (qni) (fun v=>match v with | (.inl v)=>by kernel_rfl | (.inr v)=>by kernel_rfl) (fun v=>match v with | (.inl v)=>by kernel_rfl | (.inr v)=>by kernel_rfl)
abbrev qCF:Type:=List AV × Int × Int
def qPk:PArgs:=⟨[.str],[]⟩
def qP5:List PRes:=[⟨false,.tup [.view 3,.int .i64,.int .i64],[]⟩]
def qsA (x0:List UInt8):DT qCF:=
 .br (decide ((x0.length:Int) > 2048))
 (.at (([],0,5)))
 (.bi (pj 0 (qkP (Sum.inl (x0,1)))) (fun y0=>
 .at (([],0,0)))
 (.bi (pj 1 (qkP (Sum.inl (x0,1)))) (fun y0=>
 .at (([],IntKind.i64.wrap ((sl y0).2 + ((Lib.countByte (List.take (gv (qdf (sl y0).1)).toNat (sl y0).1) 10):Int)),(gv (qdM (List.drop (gv (qdf (sl y0).1)).toNat (sl y0).1))).2.2.2)))
 (.bi (pj 2 (qkP (Sum.inl (x0,1)))) (fun y0=>
 .at (((sr y0).2.2,0,0)))
 (.bi (pj 3 (qkP (Sum.inl (x0,1)))) (fun y0=>
 .at (([],IntKind.i64.wrap ((sr y0).2.1 + ((Lib.countByte (List.take (gv (qdf (sr y0).1)).toNat (sr y0).1) 10):Int)),(gv (qdM (List.drop (gv (qdf (sr y0).1)).toNat (sr y0).1))).2.2.2)))
 (.no)))))
def qtv (x0:List UInt8):Option qCF:=qa2 (qsA x0).ev
theorem qEu (x0):qtv x0 = (qsA x0).ev:=qab _
theorem qUW:FH IP 90 qPk qP5 qtv:=qak (F:=F90) (L:=[(1009000,qFL)]) (t:=qsA) qDd (qae (l:=[qah F90 0]) (by kernel_rfl) ⟨qaH (by kernel_rfl) qWC,trivial⟩) (by kernel_rfl) (fun v=>by kernel_rfl) (fun _=>qab _)
def T39:Tab:=(90,FE qPk qP5 qtv) :: T38
theorem qNz:qao IP T39:=⟨qan qUW,qDd⟩
abbrev qMZ:Type:=Bool
def qPr:PArgs:=⟨[.str],[]⟩
def qQc:List PRes:=[⟨false,.bool,[]⟩]
def qsI (x0:List UInt8):DT qMZ:=
 .bi (qtv x0) (fun y0=>
 .bi (br (y0.2.2 == 0) (some ((y0.1.length:Int) == 1)) (some false)) (fun y1=>
 .bi (br y1 (br (qaQ [.int .i64,.int .i64,.str] y0.1 0) (some (intOf (cellAt y0.1 0 0) == 1)) none) (some false)) (fun y2=>
 .bi (br y2 (br (qaQ [.int .i64,.int .i64,.str] y0.1 0) (some (strOf (cellAt y0.1 0 2) == x0)) none) (some false)) (fun y3=>
 .at (y3))
 (.no))
 (.no))
 (.no))
 (.no)
def qpx (x0:List UInt8):Option qMZ:=qa2 (qsI x0).ev
theorem qEB (x0):qpx x0 = (qsI x0).ev:=qab _
theorem qU3:FH IP 69 qPr qQc qpx:=fh F69 qsI qNz
def T40:Tab:=(69,FE qPr qQc qpx) :: T39
theorem qNA:qao IP T40:=⟨qan qU3,qNz⟩
abbrev qB8:Type:=Bool
def qG0:PArgs:=⟨[.agg [.int .i64,.int .i64,.str,.view 4]],[]⟩
def qHV:List PRes:=[⟨false,.bool,[]⟩]
def qlv (x0 x1:Int) (x2:List UInt8) (x3:List AV):DT qB8:=
 .bi (br (x0 != 4) (some true) (br (sm (qpx x2)) (some (gv (qpx x2))) none)) (fun y0=>
 .at (y0))
 (.no)
def qmy (x0 x1:Int) (x2:List UInt8) (x3:List AV):Option qB8:=qa2 (qlv x0 x1 x2 x3).ev
theorem qAg (x0 x1 x2 x3):qmy x0 x1 x2 x3 = (qlv x0 x1 x2 x3).ev:=qab _
theorem qRk:FH IP 37 qG0 qHV (k4 qmy):=fh F37 (k4 qlv) qNA
def T41:Tab:=(37,FE qG0 qHV (k4 qmy)) :: T40
theorem qNB:qao IP T41:=⟨qan qRk,qNA⟩
abbrev qvz:Type:=Bool
def qnB:PArgs:=⟨[.agg [.int .i64,.int .i64,.str,.view 4],.fn (.func 37) []],[]⟩
def qnX:List PRes:=[⟨false,.bool,[]⟩]
abbrev qb4:Type:=Int -> Int -> (List UInt8) -> (List AV) -> Option qvz
abbrev qQC:Type:=Bool
def qHr:PArgs:=⟨[.view 4,.fn (.func 67) [.ptr [.fn (.func 37) []]]],[]⟩
def qIm:List PRes:=[⟨false,.bool,[]⟩]
abbrev qeL:Type:=(List AV) -> Option qQC
abbrev qQE:Type:=Int
def qHt:PArgs:=⟨[.view 4,.fn (.func 67) [.ptr [.fn (.func 37) []]]],[]⟩
def qIo:List PRes:=[⟨false,.int .i64,[]⟩]
abbrev qeN:Type:=(List AV) -> Option qQE
abbrev qCH:Type:=Bool
def quK:PArgs:=⟨[.agg [.int .i64,.int .i64,.str,.view 4],.ptr [.fn (.func 37) []]],[]⟩
def quZ:List PRes:=[⟨false,.bool,[]⟩]
abbrev qcY:Type:=Int -> Int -> (List UInt8) -> (List AV) -> Option qCH
def qqv (G_u113q:qb4) (G_u2q:qeL) (G_u6q:qeN) (G_u70q:qcY):Prop:=FH IP 35 qnB qnX (k4 G_u113q) /\ FH IP 66 qHr qIm G_u2q /\ FH IP 89 qHt qIo G_u6q /\ FH IP 67 quK quZ (k4 G_u70q)
def qJT (G_u113q:qb4) (G_u2q:qeL) (G_u6q:qeN) (G_u70q:qcY):Tab:=(35,FE qnB qnX (k4 G_u113q)) :: (66,FE qHr qIm G_u2q) :: (89,FE qHt qIo G_u6q) :: (67,FE quK quZ (k4 G_u70q)) :: T41
theorem qei (G_u113q:qb4) (G_u2q:qeL) (G_u6q:qeN) (G_u70q:qcY) (hG:qqv G_u113q G_u2q G_u6q G_u70q):qao IP (qJT G_u113q G_u2q G_u6q G_u70q):=⟨qan (hG.1),qan (hG.2.1),qan (hG.2.2.1),qan (hG.2.2.2),qNB⟩
abbrev qiN:Type:=List AV × Int × Int
def qOI:List PSt:=[⟨[(1008900,.junk),(0,.view 4),(1,.fn (.func 67) [.ptr [.fn (.func 37) []]]),(7,.int .i64),(8,.int .i64)],[],0,0⟩]
def qTk (x0:List AV) (x1 x2:Int):X × St:=(.ret,⟨[(4,.int .i64 x2)],[],0,0⟩)
def qTl (x0:List AV) (x1 x2:Int):X × St:=(.exit 0,⟨[(4,.junk)],[],0,0⟩)
def q0B:List (qiN -> X × St):=[(k3 qTk),(k3 qTl)]
def qrQ (G_u113q:qb4) (G_u2q:qeL) (G_u6q:qeN) (G_u70q:qcY) (x0:List AV) (x1 x2:Int):DT (Rd qiN):=
 .br (decide (x2 < x1))
 (.br (qaQ [.int .i64,.int .i64,.str,.slice 4] x0 x2)
 (.bi (G_u70q (intOf (cellAt x0 x2 0)) (intOf (cellAt x0 x2 1)) (strOf (cellAt x0 x2 2)) (qai (cellAt x0 x2 3))) (fun y0=>
 .br (y0) (.at (.done 0)) (.at (.next ((x0,x1,IntKind.i64.wrap (x2 + 1))))))
 (.no))
 (.no))
 (.at (.done 1))
def qve (G_u113q:qb4) (G_u2q:qeL) (G_u6q:qeN) (G_u70q:qcY):qiN -> DT (Rd qiN):=(fun v=>qrQ G_u113q G_u2q G_u6q G_u70q v.1 v.2.1 v.2.2)
def qFB (G_u113q:qb4) (G_u2q:qeL) (G_u6q:qeN) (G_u70q:qcY) (v:qiN):Option (Nat × qiN):=qa2 (qaw (fun v=>(qve G_u113q G_u2q G_u6q G_u70q v).ev) v)
theorem qyC (G_u113q G_u2q G_u6q G_u70q v):qFB G_u113q G_u2q G_u6q G_u70q v = qaw (fun v=>(qve G_u113q G_u2q G_u6q G_u70q v).ev) v:=qab _
def qOP (G_u113q:qb4) (G_u2q:qeL) (G_u6q:qeN) (G_u70q:qcY):qdA:=LE (τ:=qiN) (hD qOI) (qFB G_u113q G_u2q G_u6q G_u70q) q0B
theorem q0q (G_u113q:qb4) (G_u2q:qeL) (G_u6q:qeN) (G_u70q:qcY) (hG:qqv G_u113q G_u2q G_u6q G_u70q):Go.Eng.Told IP (qah F89 0).1 (qah F89 0).2 (qOP G_u113q G_u2q G_u6q G_u70q):=qaF (inferInstance:Inhabited qiN) (hs:=qOI) (st:=qve G_u113q G_u2q G_u6q G_u70q) (L:=[]) (qei G_u113q G_u2q G_u6q G_u70q hG) (qae (l:=[]) (by kernel_rfl) trivial) (qyC G_u113q G_u2q G_u6q G_u70q) (fun v=>by kernel_rfl) (fun v=>by kernel_rfl)
def qrZ (G_u113q:qb4) (G_u2q:qeL) (G_u6q:qeN) (G_u70q:qcY) (x0 x1:Int) (x2:List UInt8) (x3:List AV):DT qvz:=
 .bi (qmy x0 x1 x2 x3) (fun y0=>
 .bi (br y0 (br (sm (G_u2q x3)) (some !gv (G_u2q x3)) none) (some false)) (fun y1=>
 .at (y1))
 (.no))
 (.no)
def qI1 (G_u113q:qb4) (G_u2q:qeL) (G_u6q:qeN) (G_u70q:qcY) (x0:List AV):DT qQC:=
 .bi (G_u6q x0) (fun y0=>
 .at (decide (y0 >= 0)))
 (.no)
def qI3 (G_u113q:qb4) (G_u2q:qeL) (G_u6q:qeN) (G_u70q:qcY) (x0:List AV):DT qQE:=
 .bi (pj 0
 (qFB G_u113q G_u2q G_u6q G_u70q
 (x0,(x0.length:Int),0))) (fun y0=>
 .at (y0.2.2))
 (.bi (pj 1
 (qFB G_u113q G_u2q G_u6q G_u70q
 (x0,(x0.length:Int),0))) (fun y0=>
 .at (-1))
 (.no))
def qxD (G_u113q:qb4) (G_u2q:qeL) (G_u6q:qeN) (G_u70q:qcY) (x0 x1:Int) (x2:List UInt8) (x3:List AV):DT qCH:=
 .bi (G_u113q x0 x1 x2 x3) (fun y0=>
 .at (!y0))
 (.no)
def qal:Nat -> qb4 × qeL × qeN × qcY
 | 0=>(fun _ _ _ _=>none,fun _=>none,fun _=>none,fun _ _ _ _=>none)
 | n + 1=>(fun x0 x1 x2 x3=>(qrZ ((qal n).1) ((qal n).2.1) ((qal n).2.2.1) ((qal n).2.2.2) x0 x1 x2 x3).ev,fun x0=>(qI1 ((qal n).1) ((qal n).2.1) ((qal n).2.2.1) ((qal n).2.2.2) x0).ev,fun x0=>(qI3 ((qal n).1) ((qal n).2.1) ((qal n).2.2.1) ((qal n).2.2.2) x0).ev,fun x0 x1 x2 x3=>(qxD ((qal n).1) ((qal n).2.1) ((qal n).2.2.1) ((qal n).2.2.2) x0 x1 x2 x3).ev)
def qq1 (x0 x1:Int) (x2:List UInt8) (x3:List AV):Option qvz:=qfI fun n=>(qal n).1 x0 x1 x2 x3
def qVt (x0:List AV):Option qQC:=qfI fun n=>(qal n).2.1 x0
def qVv (x0:List AV):Option qQE:=qfI fun n=>(qal n).2.2.1 x0
def qOD (x0 x1:Int) (x2:List UInt8) (x3:List AV):Option qCH:=qfI fun n=>(qal n).2.2.2 x0 x1 x2 x3
theorem qfg:∀ n,qqv ((qal n).1) ((qal n).2.1) ((qal n).2.2.1) ((qal n).2.2.2)
 | 0=>⟨(fun v y h=>nomatch h),(fun v y h=>nomatch h),(fun v y h=>nomatch h),(fun v y h=>nomatch h)⟩
 | n + 1=>have hG:=qfg n
 ⟨qak (F:=F35) (L:=[]) (t:=(k4 (qrZ ((qal n).1) ((qal n).2.1) ((qal n).2.2.1) ((qal n).2.2.2)))) (qei ((qal n).1) ((qal n).2.1) ((qal n).2.2.1) ((qal n).2.2.2) hG) (qae (l:=[]) (by kernel_rfl) trivial) (by kernel_rfl) (fun v=>by kernel_rfl) (fun v=>rfl),qak (F:=F66) (L:=[]) (t:=(qI1 ((qal n).1) ((qal n).2.1) ((qal n).2.2.1) ((qal n).2.2.2))) (qei ((qal n).1) ((qal n).2.1) ((qal n).2.2.1) ((qal n).2.2.2) hG) (qae (l:=[]) (by kernel_rfl) trivial) (by kernel_rfl) (fun v=>by kernel_rfl) (fun v=>rfl),qak (F:=F89) (L:=[(1008900,qOP ((qal n).1) ((qal n).2.1) ((qal n).2.2.1) ((qal n).2.2.2))]) (t:=(qI3 ((qal n).1) ((qal n).2.1) ((qal n).2.2.1) ((qal n).2.2.2))) (qei ((qal n).1) ((qal n).2.1) ((qal n).2.2.1) ((qal n).2.2.2) hG) (qae (l:=[qah F89 0]) (by kernel_rfl) ⟨qaH (by kernel_rfl) (q0q ((qal n).1) ((qal n).2.1) ((qal n).2.2.1) ((qal n).2.2.2) hG),trivial⟩) (by kernel_rfl) (fun v=>by kernel_rfl) (fun v=>rfl),qak (F:=F67) (L:=[]) (t:=(k4 (qxD ((qal n).1) ((qal n).2.1) ((qal n).2.2.1) ((qal n).2.2.2)))) (qei ((qal n).1) ((qal n).2.1) ((qal n).2.2.1) ((qal n).2.2.2) hG) (qae (l:=[]) (by kernel_rfl) trivial) (by kernel_rfl) (fun v=>by kernel_rfl) (fun v=>rfl)⟩
theorem qQ3:FH IP 35 qnB qnX (k4 qq1):=qbk (p:=qnB) (rs:=qnX) (s:=fun n=>(k4 ((qal n).1))) fun n=>(qfg n).1
theorem qYQ:FH IP 66 qHr qIm qVt:=qbk (p:=qHr) (rs:=qIm) (s:=fun n=>((qal n).2.1)) fun n=>(qfg n).2.1
theorem qYS:FH IP 89 qHt qIo qVv:=qbk (p:=qHt) (rs:=qIo) (s:=fun n=>((qal n).2.2.1)) fun n=>(qfg n).2.2.1
theorem qU1:FH IP 67 quK quZ (k4 qOD):=qbk (p:=quK) (rs:=quZ) (s:=fun n=>(k4 ((qal n).2.2.2))) fun n=>(qfg n).2.2.2
def T42:Tab:=(35,FE qnB qnX (k4 qq1)) :: T41
theorem qTY:qao IP T42:=⟨qan qQ3,qNB⟩
def T43:Tab:=(66,FE qHr qIm qVt) :: T42
theorem qTZ:qao IP T43:=⟨qan qYQ,qTY⟩
def T44:Tab:=(89,FE qHt qIo qVv) :: T43
theorem qT0:qao IP T44:=⟨qan qYS,qTZ⟩
def T45:Tab:=(67,FE quK quZ (k4 qOD)) :: T44
theorem qNC:qao IP T45:=⟨qan qU1,qT0⟩
abbrev qMX:Type:=Int
def qPp:PArgs:=⟨[.agg [.int .i64,.int .i64,.str,.view 4]],[]⟩
def qQa:List PRes:=[⟨false,.int .i64,[]⟩]
def qsG (x0 x1:Int) (x2:List UInt8) (x3:List AV):DT qMX:=
 .bi (qe9 x0 x1 x2 x3) (fun y0=>
 .bi (br (decide (y0 > 64)) (some true) (br (sm (qmx x0 x1 x2 x3)) (some (decide (gv (qmx x0 x1 x2 x3) > 8))) none)) (fun y1=>
 .br (y1)
 (.at (5))
 (.bi (qq2 x0 x1 x2 x3) (fun y2=>
 .br (!y2)
 (.at (1))
 (.bi (qq1 x0 x1 x2 x3) (fun y3=>
 .br (!y3) (.at (4)) (.at (0)))
 (.no)))
 (.no)))
 (.no))
 (.no)
def qeT (x0 x1:Int) (x2:List UInt8) (x3:List AV):Option qMX:=qa2 (qsG x0 x1 x2 x3).ev
theorem qEz (x0 x1 x2 x3):qeT x0 x1 x2 x3 = (qsG x0 x1 x2 x3).ev:=qab _
theorem qOk:FH IP 17 qPp qQa (k4 qeT):=fh F17 (k4 qsG) qNC
def T46:Tab:=(17,FE qPp qQa (k4 qeT)) :: T45
theorem qND:qao IP T46:=⟨qan qOk,qNC⟩
abbrev qMN:Type:=List AV
def qPe:PArgs:=⟨[.ref 0 0 0,.int .i64,.str],[(0,.box [.nils 3] false)]⟩
def qPZ:List PRes:=[⟨false,.tup [],[(0,.box [.own 1 0] false),(1,.arr 3 false)]⟩]
def qst (x0:Int) (x1:List UInt8):DT qMN:=
 .at ([AV.agg [.int .i64 x0,.int .i64 1,AV.str x1]])
def qiU (x0:Int) (x1:List UInt8):Option qMN:=qa2 (qst x0 x1).ev
theorem qEo (x0 x1):qiU x0 x1 = (qst x0 x1).ev:=qab _
theorem qUS:FH IP 54 qPe qPZ (k2 qiU):=fh F54 (k2 qst) qND
def T47:Tab:=(54,FE qPe qPZ (k2 qiU)) :: T46
theorem qNE:qao IP T47:=⟨qan qUS,qND⟩
abbrev qMI:Type:=List AV
def qO9:PArgs:=⟨[.ref 0 0 0,.str],[(0,.box [.nils 3] false)]⟩
def qPU:List PRes:=[⟨false,.tup [],[(0,.box [.own 1 0] false),(1,.arr 3 false)]⟩]
def qsm (x0:List UInt8):DT qMI:=
 .bi (qgV x0) (fun y0=>
 .br (y0)
 (.bi (qiU 5 x0) (fun y1=>
 .at (y1))
 (.no))
 (.bi (qiU 4 x0) (fun y1=>
 .at (y1))
 (.no)))
 (.no)
def qgZ (x0:List UInt8):Option qMI:=qa2 (qsm x0).ev
theorem qEi (x0):qgZ x0 = (qsm x0).ev:=qab _
theorem qUM:FH IP 56 qO9 qPU qgZ:=fh F56 qsm qNE
def T48:Tab:=(56,FE qO9 qPU qgZ) :: T47
theorem qNF:qao IP T48:=⟨qan qUM,qNE⟩
end
end Go.Proofs.H10

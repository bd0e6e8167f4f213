/- Functions over plain data. Printed by a program of mine. -/
import Derived.Test.YtpoebijgpbaccaaGreatD53z_1
import Derived.KernelRfl
set_option linter.unusedVariables false
set_option linter.unusedSimpArgs false
set_option linter.unnecessarySimpa false
namespace Go.Proofs.H53z
open Go Go.Eng
set_option maxRecDepth 100000
noncomputable section
abbrev qe0:Type:=List AV × Int
def qGs:List PSt:=[⟨[(1001600,.junk),(0,.view 19),(3,.int .i64)],[],0,0⟩]
def qPI (x0:List AV) (x1:Int):X × St:=(.ret,⟨[(0,.view 19 x0),(2,.int .i64 10)],[],0,0⟩)
def qPJ (x0:List AV) (x1:Int):X × St:=(.exit 0,⟨[(0,.view 19 x0),(2,.junk)],[],0,0⟩)
def q1Q:List (qe0 -> X × St):=[(k2 qPI),(k2 qPJ)]
def qvt (x0:List AV) (x1:Int):DT (Rd qe0):=
 .br (decide (x1 < (x0.length:Int)))
 (.br (qaw
 [CS.str,CS.str,CS.str,CS.int IntKind.i64,CS.int IntKind.i64,CS.int IntKind.i64,CS.int IntKind.i64,CS.slice 2,CS.bool,CS.int IntKind.i64,CS.int IntKind.i64,CS.bool,
 CS.slice 2,CS.bool,CS.int IntKind.i64,CS.int IntKind.i64,CS.bool,CS.slice 10,CS.slice 6]
 x0 (IntKind.i64.wrap (x1 - 1)))
 (.br (qaw
 [CS.str,CS.str,CS.str,CS.int IntKind.i64,CS.int IntKind.i64,CS.int IntKind.i64,CS.int IntKind.i64,CS.slice 2,CS.bool,CS.int IntKind.i64,CS.int IntKind.i64,CS.bool,
 CS.slice 2,CS.bool,CS.int IntKind.i64,CS.int IntKind.i64,CS.bool,CS.slice 10,CS.slice 6]
 x0 x1)
 (.bi (qlK (strOf (cellAt x0 (IntKind.i64.wrap (x1 - 1)) 0)) (strOf (cellAt x0 (IntKind.i64.wrap (x1 - 1)) 1)) (strOf (cellAt x0 (IntKind.i64.wrap (x1 - 1)) 2))
 (intOf (cellAt x0 (IntKind.i64.wrap (x1 - 1)) 3)) (intOf (cellAt x0 (IntKind.i64.wrap (x1 - 1)) 4)) (intOf (cellAt x0 (IntKind.i64.wrap (x1 - 1)) 5))
 (intOf (cellAt x0 (IntKind.i64.wrap (x1 - 1)) 6)) (qat (cellAt x0 (IntKind.i64.wrap (x1 - 1)) 7)) (qbg (cellAt x0 (IntKind.i64.wrap (x1 - 1)) 8))
 (intOf (cellAt x0 (IntKind.i64.wrap (x1 - 1)) 9)) (intOf (cellAt x0 (IntKind.i64.wrap (x1 - 1)) 10)) (qbg (cellAt x0 (IntKind.i64.wrap (x1 - 1)) 11))
 (qat (cellAt x0 (IntKind.i64.wrap (x1 - 1)) 12)) (qbg (cellAt x0 (IntKind.i64.wrap (x1 - 1)) 13)) (intOf (cellAt x0 (IntKind.i64.wrap (x1 - 1)) 14))
 (intOf (cellAt x0 (IntKind.i64.wrap (x1 - 1)) 15)) (qbg (cellAt x0 (IntKind.i64.wrap (x1 - 1)) 16)) (qat (cellAt x0 (IntKind.i64.wrap (x1 - 1)) 17))
 (qat (cellAt x0 (IntKind.i64.wrap (x1 - 1)) 18)) (strOf (cellAt x0 x1 0)) (strOf (cellAt x0 x1 1)) (strOf (cellAt x0 x1 2)) (intOf (cellAt x0 x1 3)) (intOf (cellAt x0 x1 4))
 (intOf (cellAt x0 x1 5)) (intOf (cellAt x0 x1 6)) (qat (cellAt x0 x1 7)) (qbg (cellAt x0 x1 8)) (intOf (cellAt x0 x1 9)) (intOf (cellAt x0 x1 10))
 (qbg (cellAt x0 x1 11)) (qat (cellAt x0 x1 12)) (qbg (cellAt x0 x1 13)) (intOf (cellAt x0 x1 14)) (intOf (cellAt x0 x1 15)) (qbg (cellAt x0 x1 16))
 (qat (cellAt x0 x1 17)) (qat (cellAt x0 x1 18))) (fun y0=>
 .br (!y0) (.at (.done 0)) (.at (.next ((x0,IntKind.i64.wrap (x1 + 1))))))
 (.no))
 (.no))
 (.no))
 (.at (.done 1))
def qrf:qe0 -> DT (Rd qe0):=(fun v=>qvt v.1 v.2)
def qpe (v:qe0):Option (Nat × qe0):=qaC (qah (fun v=>(qrf v).ev) v)
theorem qm0 (v):qpe v = qah (fun v=>(qrf v).ev) v:=qaa _
def qHE:qbi:=LE (τ:=qe0) (hD qGs) (qpe) q1Q
theorem q0L:Go.Eng.Told IP (qab F16 0).1 (qab F16 0).2 (qHE):=lp (inferInstance:Inhabited qe0) (hs:=qGs) qrf qxV qm0
abbrev qe1:Type:=List AV × Int
def qGt:List PSt:=[⟨[(1001601,.junk),(0,.view 19),(4,.int .i64)],[],0,0⟩]
def qPK (x0:List AV) (x1:Int):X × St:=(.ret,⟨[(2,.int .i64 14)],[],0,0⟩)
def qPL (x0:List AV) (x1:Int):X × St:=(.exit 2,⟨[(2,.junk)],[],0,0⟩)
def q1R:List (qe1 -> X × St):=[(k2 qPK),(k2 qPL)]
def qvu (x0:List AV) (x1:Int):DT (Rd qe1):=
 .br (decide (x1 < (x0.length:Int)))
 (.br (qaw
 [CS.str,CS.str,CS.str,CS.int IntKind.i64,CS.int IntKind.i64,CS.int IntKind.i64,CS.int IntKind.i64,CS.slice 2,CS.bool,CS.int IntKind.i64,CS.int IntKind.i64,CS.bool,
 CS.slice 2,CS.bool,CS.int IntKind.i64,CS.int IntKind.i64,CS.bool,CS.slice 10,CS.slice 6]
 x0 x1)
 (.br (qaw
 [CS.str,CS.str,CS.str,CS.int IntKind.i64,CS.int IntKind.i64,CS.int IntKind.i64,CS.int IntKind.i64,CS.slice 2,CS.bool,CS.int IntKind.i64,CS.int IntKind.i64,CS.bool,
 CS.slice 2,CS.bool,CS.int IntKind.i64,CS.int IntKind.i64,CS.bool,CS.slice 10,CS.slice 6]
 x0 (IntKind.i64.wrap (x1 - 1)))
 (.br (strOf (cellAt x0 x1 0) == strOf (cellAt x0 (IntKind.i64.wrap (x1 - 1)) 0))
 (.br (qaw
 [CS.str,CS.str,CS.str,CS.int IntKind.i64,CS.int IntKind.i64,CS.int IntKind.i64,CS.int IntKind.i64,CS.slice 2,CS.bool,CS.int IntKind.i64,CS.int IntKind.i64,CS.bool,
 CS.slice 2,CS.bool,CS.int IntKind.i64,CS.int IntKind.i64,CS.bool,CS.slice 10,CS.slice 6]
 x0 x1)
 (.br (qaw
 [CS.str,CS.str,CS.str,CS.int IntKind.i64,CS.int IntKind.i64,CS.int IntKind.i64,CS.int IntKind.i64,CS.slice 2,CS.bool,CS.int IntKind.i64,CS.int IntKind.i64,CS.bool,
 CS.slice 2,CS.bool,CS.int IntKind.i64,CS.int IntKind.i64,CS.bool,CS.slice 10,CS.slice 6]
 x0 (IntKind.i64.wrap (x1 - 1)))
 (.br (!strOf (cellAt x0 x1 1) == strOf (cellAt x0 (IntKind.i64.wrap (x1 - 1)) 1)) (.at (.done 0)) (.at (.next ((x0,IntKind.i64.wrap (x1 + 1))))))
 (.no))
 (.no))
 (.at (.next ((x0,IntKind.i64.wrap (x1 + 1))))))
 (.no))
 (.no))
 (.at (.done 1))
def qrg:qe1 -> DT (Rd qe1):=(fun v=>qvu v.1 v.2)
def qpf (v:qe1):Option (Nat × qe1):=qaC (qah (fun v=>(qrg v).ev) v)
theorem qm1 (v):qpf v = qah (fun v=>(qrg v).ev) v:=qaa _
def qHF:qbi:=LE (τ:=qe1) (hD qGt) (qpf) q1R
theorem q0M:Go.Eng.Told IP (qab F16 1).1 (qab F16 1).2 (qHF):=lp (inferInstance:Inhabited qe1) (hs:=qGt) qrg qxV qm1
abbrev qDe:Type:=Int
def qI3:PArgs:=⟨[.view 19],[]⟩
def qKn:List PRes:=[⟨false,.int .i64,[]⟩]
def qkv (x0:List AV):DT qDe:=
 .br (decide ((x0.length:Int) > 64))
 (.at (5))
 (.bi (pj 0 (qpe (x0,1))) (fun y0=>
 .at (10))
 (.bi (pj 1 (qpe (x0,1))) (fun y0=>
 .bi (pj 0 (qpf (y0.1,1))) (fun y1=>
 .at (14))
 (.bi (pj 1 (qpf (y0.1,1))) (fun y1=>
 .at (0))
 (.no)))
 (.no)))
def qiC (x0:List AV):Option qDe:=qaC (qkv x0).ev
theorem qAT (x0):qiC x0 = (qkv x0).ev:=qaa _
theorem qT5:FH IP 16 qI3 qKn qiC:=qam (F:=F16) (L:=[(1001600,qHE),(1001601,qHF)]) (t:=qkv) qxV (qae (l:=[qab F16 0,qab F16 1]) (by kernel_rfl) ⟨qal (by kernel_rfl) q0L,qal (by kernel_rfl) q0M,trivial⟩) (by kernel_rfl) (fun v=>by kernel_rfl) (fun _=>qaa _)
def T16:Tab:=(16,FE qI3 qKn qiC) :: T15
theorem qD7:qau IP T16:=⟨qay qT5,qxV⟩
abbrev qdd:Type:=List UInt8 × Int
def qyz:List PSt:=[⟨[(1004200,.junk),(0,.str),(3,.int .i64)],[],0,0⟩]
def qL8 (x0:List UInt8) (x1:Int):X × St:=(.ret,⟨[(2,.bool false)],[],0,0⟩)
def qL9 (x0:List UInt8) (x1:Int):X × St:=(.exit 0,⟨[(2,.junk)],[],0,0⟩)
def qWo:List (qdd -> X × St):=[(k2 qL8),(k2 qL9)]
def qpz (x0:List UInt8) (x1:Int):DT (Rd qdd):=
 .br (decide (x1 < (x0.length:Int)))
 (.br (inB x0.length x1)
 (.bi (br (decide (qaK x0 x1 < 97)) (some true) (br (inB x0.length x1) (some (decide (qaK x0 x1 > 122))) none)) (fun y0=>
 .bi (br y0 (br (inB x0.length x1) (br (decide (qaK x0 x1 < 48)) (some true) (br (inB x0.length x1) (some (decide (qaK x0 x1 > 57))) none)) none) (some false)) (fun y1=>
 .bi (br y1 (br (inB x0.length x1) (some (qaK x0 x1 != 95)) none) (some false)) (fun y2=>
 .br (y2) (.at (.done 0)) (.at (.next ((x0,IntKind.i64.wrap (x1 + 1))))))
 (.no))
 (.no))
 (.no))
 (.no))
 (.at (.done 1))
def qj0:qdd -> DT (Rd qdd):=(fun v=>qpz v.1 v.2)
def qmF (v:qdd):Option (Nat × qdd):=qaC (qah (fun v=>(qj0 v).ev) v)
theorem qoW (v):qmF v = qah (fun v=>(qj0 v).ev) v:=qaa _
def qzg:qbi:=LE (τ:=qdd) (hD qyz) (qmF) qWo
theorem qVT:Go.Eng.Told IP (qab F42 0).1 (qab F42 0).2 (qzg):=lp (inferInstance:Inhabited qdd) (hs:=qyz) qj0 qD7 qoW
abbrev qDy:Type:=Bool
def qJn:PArgs:=⟨[.str],[]⟩
def qKH:List PRes:=[⟨false,.bool,[]⟩]
def qkP (x0:List UInt8):DT qDy:=
 .bi (br (decide ((x0.length:Int) < 1)) (some true) (some (decide ((x0.length:Int) > 16)))) (fun y0=>
 .bi (br y0 (some true) (br (inB x0.length 0) (some (decide (qaK x0 0 < 97))) none)) (fun y1=>
 .bi (br y1 (some true) (br (inB x0.length 0) (some (decide (qaK x0 0 > 122))) none)) (fun y2=>
 .br (y2)
 (.at (false))
 (.bi (pj 0 (qmF (x0,0))) (fun y3=>
 .at (false))
 (.bi (pj 1 (qmF (x0,0))) (fun y3=>
 .at (true))
 (.no))))
 (.no))
 (.no))
 (.no)
def qiI (x0:List UInt8):Option qDy:=qaC (qkP x0).ev
theorem qBf (x0):qiI x0 = (qkP x0).ev:=qaa _
theorem qUp:FH IP 42 qJn qKH qiI:=qam (F:=F42) (L:=[(1004200,qzg)]) (t:=qkP) qD7 (qae (l:=[qab F42 0]) (by kernel_rfl) ⟨qal (by kernel_rfl) qVT,trivial⟩) (by kernel_rfl) (fun v=>by kernel_rfl) (fun _=>qaa _)
def T17:Tab:=(42,FE qJn qKH qiI) :: T16
theorem qxW:qau IP T17:=⟨qay qUp,qD7⟩
abbrev qeO:Type:=Int × List UInt8 × List AV × List AV
def qGd:List PSt:=[⟨[(1001700,.junk),(1,.ref 0 0 0),(3,.int .i64)],[(0,.box [.str,.view 1,.view 1] false)],1,0⟩]
def qPe (x0:Int) (x1:List UInt8) (x2 x3:List AV):X × St:=(.ret,⟨[(1,.ref 0 0 0),(2,.int .i64 1)],[(0,.box [.str x1,.view 1 x2,.view 1 x3] false)],1,0⟩)
def qPf (x0:Int) (x1:List UInt8) (x2 x3:List AV):X × St:=(.exit 0,⟨[(1,.ref 0 0 0),(2,.junk)],[(0,.box [.str x1,.view 1 x2,.view 1 x3] false)],1,0⟩)
def q1B:List (qeO -> X × St):=[(k4 qPe),(k4 qPf)]
def qvn (x0:Int) (x1:List UInt8) (x2 x3:List AV):DT (Rd qeO):=
 .br (decide (x0 < (x2.length:Int)))
 (.br (qaw [.int .i64] x2 x0)
 (.bi (br (decide (intOf (cellAt x2 x0 0) < 0)) (some true) (br (qaw [.int .i64] x2 x0) (some (decide (intOf (cellAt x2 x0 0) > 6))) none)) (fun y0=>
 .br (y0) (.at (.done 0)) (.at (.next ((IntKind.i64.wrap (x0 + 1),x1,x2,x3)))))
 (.no))
 (.no))
 (.at (.done 1))
def qq9:qeO -> DT (Rd qeO):=(fun v=>qvn v.1 v.2.1 v.2.2.1 v.2.2.2)
def qtC (v:qeO):Option (Nat × qeO):=qaC (qah (fun v=>(qq9 v).ev) v)
theorem qtD (v):qtC v = qah (fun v=>(qq9 v).ev) v:=qaa _
def qHp:qbi:=LE (τ:=qeO) (hD qGd) (qtC) q1B
theorem q0w:Go.Eng.Told IP (qab F17 0).1 (qab F17 0).2 (qHp):=lp (inferInstance:Inhabited qeO) (hs:=qGd) qq9 qxW qtD
abbrev qeQ:Type:=List AV × Int
def qGf:List PSt:=[⟨[(1004300,.junk),(0,.view 1),(3,.int .i64)],[],0,0⟩]
def qPi (x0:List AV) (x1:Int):X × St:=(.ret,⟨[(2,.bool false)],[],0,0⟩)
def qPj (x0:List AV) (x1:Int):X × St:=(.exit 0,⟨[(2,.junk)],[],0,0⟩)
def q1D:List (qeQ -> X × St):=[(k2 qPi),(k2 qPj)]
def qvp (x0:List AV) (x1:Int):DT (Rd qeQ):=
 .br (decide (x1 < (x0.length:Int)))
 (.br (qaw [.int .i64] x0 x1)
 (.br (qaw [.int .i64] x0 (IntKind.i64.wrap (x1 - 1)))
 (.br (decide (intOf (cellAt x0 x1 0) <= intOf (cellAt x0 (IntKind.i64.wrap (x1 - 1)) 0))) (.at (.done 0)) (.at (.next ((x0,IntKind.i64.wrap (x1 + 1))))))
 (.no))
 (.no))
 (.at (.done 1))
def qrb:qeQ -> DT (Rd qeQ):=(fun v=>qvp v.1 v.2)
def qpd (v:qeQ):Option (Nat × qeQ):=qaC (qah (fun v=>(qrb v).ev) v)
theorem qmW (v):qpd v = qah (fun v=>(qrb v).ev) v:=qaa _
def qHr:qbi:=LE (τ:=qeQ) (hD qGf) (qpd) q1D
theorem q0y:Go.Eng.Told IP (qab F43 0).1 (qab F43 0).2 (qHr):=lp (inferInstance:Inhabited qeQ) (hs:=qGf) qrb qxW qmW
abbrev qC6:Type:=Bool
def qIV:PArgs:=⟨[.view 1],[]⟩
def qKf:List PRes:=[⟨false,.bool,[]⟩]
def qkn (x0:List AV):DT qC6:=
 .bi (pj 0 (qpd (x0,1))) (fun y0=>
 .at (false))
 (.bi (pj 1 (qpd (x0,1))) (fun y0=>
 .at (true))
 (.no))
def qg9 (x0:List AV):Option qC6:=qaC (qkn x0).ev
theorem qAK (x0):qg9 x0 = (qkn x0).ev:=qaa _
theorem qTT:FH IP 43 qIV qKf qg9:=qam (F:=F43) (L:=[(1004300,qHr)]) (t:=qkn) qxW (qae (l:=[qab F43 0]) (by kernel_rfl) ⟨qal (by kernel_rfl) q0y,trivial⟩) (by kernel_rfl) (fun v=>by kernel_rfl) (fun _=>qaa _)
def T18:Tab:=(43,FE qIV qKf qg9) :: T17
theorem qQ6:qau IP T18:=⟨qay qTT,qxW⟩
abbrev qC4:Type:=Bool
def qIT:PArgs:=⟨[.int .i64],[]⟩
def qKd:List PRes:=[⟨false,.bool,[]⟩]
def qin (x0:Int):DT qC4:=
 .bi (br (decide (x0 >= 0)) (some (decide (x0 <= 73048))) (some false)) (fun y0=>
 .at (y0))
 (.no)
def qbf (x0:Int):Option qC4:=qaC (qin x0).ev
theorem qoz (x0):qbf x0 = (qin x0).ev:=qaa _
theorem qTR:FH IP 44 qIT qKd qbf:=fh F44 qin qQ6
def T19:Tab:=(44,FE qIT qKd qbf) :: T18
theorem qD8:qau IP T19:=⟨qay qTR,qQ6⟩
abbrev qeP:Type:=Int × List UInt8 × List AV × List AV
def qGe:List PSt:=[⟨[(1001701,.junk),(1,.ref 0 0 0),(4,.int .i64)],[(0,.box [.str,.view 1,.view 1] false)],1,0⟩]
def qPg (x0:Int) (x1:List UInt8) (x2 x3:List AV):X × St:=(.ret,⟨[(1,.ref 0 0 0),(2,.int .i64 1)],[(0,.box [.str x1,.view 1 x2,.view 1 x3] false)],1,0⟩)
def qPh (x0:Int) (x1:List UInt8) (x2 x3:List AV):X × St:=(.exit 2,⟨[(1,.ref 0 0 0),(2,.junk)],[(0,.box [.str x1,.view 1 x2,.view 1 x3] false)],1,0⟩)
def q1C:List (qeP -> X × St):=[(k4 qPg),(k4 qPh)]
def qvo (x0:Int) (x1:List UInt8) (x2 x3:List AV):DT (Rd qeP):=
 .br (decide (x0 < (x3.length:Int)))
 (.br (qaw [.int .i64] x3 x0)
 (.bi (qbf (intOf (cellAt x3 x0 0))) (fun y0=>
 .br (!y0) (.at (.done 0)) (.at (.next ((IntKind.i64.wrap (x0 + 1),x1,x2,x3)))))
 (.no))
 (.no))
 (.at (.done 1))
def qra:qeP -> DT (Rd qeP):=(fun v=>qvo v.1 v.2.1 v.2.2.1 v.2.2.2)
def qtE (v:qeP):Option (Nat × qeP):=qaC (qah (fun v=>(qra v).ev) v)
theorem qtF (v):qtE v = qah (fun v=>(qra v).ev) v:=qaa _
def qHq:qbi:=LE (τ:=qeP) (hD qGe) (qtE) q1C
theorem q0x:Go.Eng.Told IP (qab F17 1).1 (qab F17 1).2 (qHq):=lp (inferInstance:Inhabited qeP) (hs:=qGe) qra qD8 qtF
abbrev qC5:Type:=Int
def qIU:PArgs:=⟨[.agg [.str,.view 1,.view 1]],[]⟩
def qKe:List PRes:=[⟨false,.int .i64,[]⟩]
def qkm (x0:List UInt8) (x1 x2:List AV):DT qC5:=
 .bi (qiI x0) (fun y0=>
 .br (!y0)
 (.at (4))
 (.bi (pj 0 (qtC (0,x0,x1,x2))) (fun y1=>
 .at (1))
 (.bi (pj 1 (qtC (0,x0,x1,x2))) (fun y1=>
 .bi (br (decide ((y1.2.2.1.length:Int) > 6)) (some true) (br (sm (qg9 y1.2.2.1)) (some !gv (qg9 y1.2.2.1)) none)) (fun y2=>
 .br (y2)
 (.at (1))
 (.br (decide ((y1.2.2.2.length:Int) > 400))
 (.at (5))
 (.bi (pj 0 (qtE (0,y1.2.1,y1.2.2.1,y1.2.2.2))) (fun y3=>
 .at (1))
 (.bi (pj 1 (qtE (0,y1.2.1,y1.2.2.1,y1.2.2.2))) (fun y3=>
 .bi (qg9 y3.2.2.2) (fun y4=>
 .br (!y4) (.at (10)) (.at (0)))
 (.no))
 (.no)))))
 (.no))
 (.no))))
 (.no)
def qlQ (x0:List UInt8) (x1 x2:List AV):Option qC5:=qaC (qkm x0 x1 x2).ev
theorem qAJ (x0 x1 x2):qlQ x0 x1 x2 = (qkm x0 x1 x2).ev:=qaa _
theorem qTS:FH IP 17 qIU qKe (k3 qlQ):=qam (F:=F17) (L:=[(1001700,qHp),(1001701,qHq)]) (t:=(k3 qkm)) qD8 (qae (l:=[qab F17 0,qab F17 1]) (by kernel_rfl) ⟨qal (by kernel_rfl) q0w,qal (by kernel_rfl) q0x,trivial⟩) (by kernel_rfl) (fun v=>by kernel_rfl) (fun _=>qaa _)
def T20:Tab:=(17,FE qIU qKe (k3 qlQ)) :: T19
theorem qxX:qau IP T20:=⟨qay qTS,qD8⟩
abbrev qfi:Type:=Int × List AV × List AV × List AV × Int × Int × Int × Int × Int × Int × Int × Int × Int × Int × Int × Int × Int × Int × List AV × List AV × List AV × List AV × List AV
def qGK:List PSt:=[⟨[(1000600,.junk),(1,.ref 0 0 0),(3,.int .i64)],[(0,.box [.view 2,.view 3,.view 4,.int .i64,.int .i64,.int .i64,.int .i64,.int .i64,.int .i64,.int .i64,.int .i64,.int .i64,.int .i64,.int .i64,.int .i64,.int .i64,.int .i64,.view 19,.view 7,.view 10,.view 6,.view 7] false)],1,0⟩]
def qQq (x0:Int) (x1 x2 x3:List AV) (x4 x5:Int) (x6 x7:Int) (x8 x9:Int) (x10 x11:Int) (x12 x13:Int) (x14 x15:Int) (x16 x17:Int) (x18 x19:List AV) (x20 x21 x22:List AV):X × St:=(.ret,
 ⟨[(1,.ref 0 0 0),(2,.bool false)],[(0,
 .box
 [.view 2 x1,.view 3 x2,.view 4 x3,.int .i64 x4,.int .i64 x5,.int .i64 x6,.int .i64 x7,.int .i64 x8,
 .int .i64 x9,.int .i64 x10,.int .i64 x11,.int .i64 x12,.int .i64 x13,.int .i64 x14,.int .i64 x15,
 .int .i64 x16,.int .i64 x17,.view 19 x18,.view 7 x19,.view 10 x20,.view 6 x21,.view 7 x22]
 false)],1,0⟩)
def qQr (x0:Int) (x1 x2 x3:List AV) (x4 x5:Int) (x6 x7:Int) (x8 x9:Int) (x10 x11:Int) (x12 x13:Int) (x14 x15:Int) (x16 x17:Int) (x18 x19:List AV) (x20 x21 x22:List AV):X × St:=(.exit 0,
 ⟨[(1,.ref 0 0 0),(2,.junk)],[(0,
 .box
 [.view 2 x1,.view 3 x2,.view 4 x3,.int .i64 x4,.int .i64 x5,.int .i64 x6,.int .i64 x7,.int .i64 x8,
 .int .i64 x9,.int .i64 x10,.int .i64 x11,.int .i64 x12,.int .i64 x13,.int .i64 x14,.int .i64 x15,
 .int .i64 x16,.int .i64 x17,.view 19 x18,.view 7 x19,.view 10 x20,.view 6 x21,.view 7 x22]
 false)],1,0⟩)
def q2a:List (qfi -> X × St):=[(k23 qQq),(k23 qQr)]
def qvJ (x0:Int) (x1 x2 x3:List AV) (x4 x5:Int) (x6 x7:Int) (x8 x9:Int) (x10 x11:Int) (x12 x13:Int) (x14 x15:Int) (x16 x17:Int) (x18 x19:List AV) (x20 x21 x22:List AV):DT (Rd qfi):=
 .br (decide (x0 < (x2.length:Int)))
 (.br (qaw [.str,.slice 1,.slice 1] x2 x0)
 (.bi (qlQ (strOf (cellAt x2 x0 0)) (qat (cellAt x2 x0 1)) (qat (cellAt x2 x0 2))) (fun y0=>
 .br (y0 != 0)
 (.at (.done 0))
 (.br (decide (x0 > 0))
 (.br (qaw [.str,.slice 1,.slice 1] x2 x0)
 (.br (qaw [.str,.slice 1,.slice 1] x2 (IntKind.i64.wrap (x0 - 1)))
 (.br (qba (strOf (cellAt x2 x0 0)) (strOf (cellAt x2 (IntKind.i64.wrap (x0 - 1)) 0)) || strOf (cellAt x2 x0 0) == strOf (cellAt x2 (IntKind.i64.wrap (x0 - 1)) 0))
 (.at (.done 0))
 (.at (.next ((IntKind.i64.wrap (x0 + 1),x1,x2,x3,x4,x5,x6,x7,x8,x9,x10,x11,x12,x13,x14,x15,x16,x17,x18,x19,x20,x21,x22)))))
 (.no))
 (.no))
 (.at (.next ((IntKind.i64.wrap (x0 + 1),x1,x2,x3,x4,x5,x6,x7,x8,x9,x10,x11,x12,x13,x14,x15,x16,x17,x18,x19,x20,x21,x22))))))
 (.no))
 (.no))
 (.at (.done 1))
def qrx:qfi -> DT (Rd qfi):=(fun v=>qvJ v.1 v.2.1 v.2.2.1 v.2.2.2.1 v.2.2.2.2.1 v.2.2.2.2.2.1 v.2.2.2.2.2.2.1 v.2.2.2.2.2.2.2.1 v.2.2.2.2.2.2.2.2.1 v.2.2.2.2.2.2.2.2.2.1 v.2.2.2.2.2.2.2.2.2.2.1 v.2.2.2.2.2.2.2.2.2.2.2.1 v.2.2.2.2.2.2.2.2.2.2.2.2.1 v.2.2.2.2.2.2.2.2.2.2.2.2.2.1 v.2.2.2.2.2.2.2.2.2.2.2.2.2.2.1 v.2.2.2.2.2.2.2.2.2.2.2.2.2.2.2.1 v.2.2.2.2.2.2.2.2.2.2.2.2.2.2.2.2.1 v.2.2.2.2.2.2.2.2.2.2.2.2.2.2.2.2.2.1 v.2.2.2.2.2.2.2.2.2.2.2.2.2.2.2.2.2.2.1 v.2.2.2.2.2.2.2.2.2.2.2.2.2.2.2.2.2.2.2.1 v.2.2.2.2.2.2.2.2.2.2.2.2.2.2.2.2.2.2.2.2.1 v.2.2.2.2.2.2.2.2.2.2.2.2.2.2.2.2.2.2.2.2.2.1 v.2.2.2.2.2.2.2.2.2.2.2.2.2.2.2.2.2.2.2.2.2.2)
def qur (v:qfi):Option (Nat × qfi):=qaC (qah (fun v=>(qrx v).ev) v)
theorem qus (v):qur v = qah (fun v=>(qrx v).ev) v:=qaa _
def qHW:qbi:=LE (τ:=qfi) (hD qGK) (qur) q2a
theorem q03:Go.Eng.Told IP (qab F6 0).1 (qab F6 0).2 (qHW):=lp (inferInstance:Inhabited qfi) (hs:=qGK) qrx qxX qus
abbrev qdh:Type:=List UInt8 × Int
def qyD:List PSt:=[⟨[(1004500,.junk),(0,.str),(3,.int .i64)],[],0,0⟩]
def qMf (x0:List UInt8) (x1:Int):X × St:=(.ret,⟨[(2,.bool false)],[],0,0⟩)
def qMg (x0:List UInt8) (x1:Int):X × St:=(.exit 0,⟨[(2,.junk)],[],0,0⟩)
def qWs:List (qdh -> X × St):=[(k2 qMf),(k2 qMg)]
def qjf (x0:List UInt8) (x1:Int):DT (Rd qdh):=
 .br (decide (x1 < (x0.length:Int)))
 (.br (inB x0.length x1)
 (.bi (br (decide (qaK x0 x1 < 97)) (some true) (br (inB x0.length x1) (some (decide (qaK x0 x1 > 122))) none)) (fun y0=>
 .bi (br y0 (br (inB x0.length x1) (br (decide (qaK x0 x1 < 48)) (some true) (br (inB x0.length x1) (some (decide (qaK x0 x1 > 57))) none)) none) (some false)) (fun y1=>
 .bi (br y1 (br (inB x0.length x1) (some (qaK x0 x1 != 95)) none) (some false)) (fun y2=>
 .br (y2) (.at (.done 0)) (.at (.next ((x0,IntKind.i64.wrap (x1 + 1))))))
 (.no))
 (.no))
 (.no))
 (.no))
 (.at (.done 1))
def qgM:qdh -> DT (Rd qdh):=(fun v=>qjf v.1 v.2)
def qmI (v:qdh):Option (Nat × qdh):=qaC (qah (fun v=>(qgM v).ev) v)
theorem qo0 (v):qmI v = qah (fun v=>(qgM v).ev) v:=qaa _
def qzk:qbi:=LE (τ:=qdh) (hD qyD) (qmI) qWs
theorem qVX:Go.Eng.Told IP (qab F45 0).1 (qab F45 0).2 (qzk):=lp (inferInstance:Inhabited qdh) (hs:=qyD) qgM qxX qo0
abbrev qDF:Type:=Bool
def qJu:PArgs:=⟨[.str],[]⟩
def qKO:List PRes:=[⟨false,.bool,[]⟩]
def qkW (x0:List UInt8):DT qDF:=
 .bi (br (x0 == []) (some true) (some (decide ((x0.length:Int) > 16)))) (fun y0=>
 .bi (br y0 (some true) (br (inB x0.length 0) (some (decide (qaK x0 0 < 97))) none)) (fun y1=>
 .bi (br y1 (some true) (br (inB x0.length 0) (some (decide (qaK x0 0 > 122))) none)) (fun y2=>
 .br (y2)
 (.at (false))
 (.bi (pj 0 (qmI (x0,1))) (fun y3=>
 .at (false))
 (.bi (pj 1 (qmI (x0,1))) (fun y3=>
 .at (true))
 (.no))))
 (.no))
 (.no))
 (.no)
def qdE (x0:List UInt8):Option qDF:=qaC (qkW x0).ev
theorem qBn (x0):qdE x0 = (qkW x0).ev:=qaa _
theorem qUw:FH IP 45 qJu qKO qdE:=qam (F:=F45) (L:=[(1004500,qzk)]) (t:=qkW) qxX (qae (l:=[qab F45 0]) (by kernel_rfl) ⟨qal (by kernel_rfl) qVX,trivial⟩) (by kernel_rfl) (fun v=>by kernel_rfl) (fun _=>qaa _)
def T21:Tab:=(45,FE qJu qKO qdE) :: T20
theorem qD9:qau IP T21:=⟨qay qUw,qxX⟩
abbrev qdb:Type:=List AV × List UInt8 × Int × List UInt8 × Int
def qyx:List PSt:=[⟨[(1004600,.junk),(0,.view 2),(1,.str),(4,.ref 0 0 0),(6,.int .i64)],[(0,.box [.str,.int .i64] false)],1,0⟩]
def qL4 (x0:List AV) (x1:List UInt8) (x2:Int) (x3:List UInt8) (x4:Int):X × St:=(.ret,
 ⟨[(4,.ref 0 0 0),(5,.bool true)],[(0,.box [.str (strOf (cellAt x0 x2 0)),.int .i64 (intOf (cellAt x0 x2 1))] false)],1,0⟩)
def qL5 (x0:List AV) (x1:List UInt8) (x2:Int) (x3:List UInt8) (x4:Int):X × St:=(.exit 0,⟨[(4,.ref 0 0 0),(5,.junk)],[(0,.box [.str x3,.int .i64 x4] false)],1,0⟩)
def qWm:List (qdb -> X × St):=[(k5 qL4),(k5 qL5)]
def qjb (x0:List AV) (x1:List UInt8) (x2:Int) (x3:List UInt8) (x4:Int):DT (Rd qdb):=
 .br (decide (x2 < (x0.length:Int)))
 (.br (qaw [.str,.int .i64] x0 x2)
 (.br (strOf (cellAt x0 x2 0) == x1)
 (.br (qaw [.str,.int .i64] x0 x2) (.at (.done 0)) (.no))
 (.at (.next ((x0,x1,IntKind.i64.wrap (x2 + 1),x3,x4)))))
 (.no))
 (.at (.done 1))
def qia:qdb -> DT (Rd qdb):=(fun v=>qjb v.1 v.2.1 v.2.2.1 v.2.2.2.1 v.2.2.2.2)
def qmD (v:qdb):Option (Nat × qdb):=qaC (qah (fun v=>(qia v).ev) v)
theorem qoU (v):qmD v = qah (fun v=>(qia v).ev) v:=qaa _
def qze:qbi:=LE (τ:=qdb) (hD qyx) (qmD) qWm
theorem qVR:Go.Eng.Told IP (qab F46 0).1 (qab F46 0).2 (qze):=lp (inferInstance:Inhabited qdb) (hs:=qyx) qia qD9 qoU
abbrev qDw:Type:=List UInt8 × Int × Bool
def qJl:PArgs:=⟨[.view 2,.str],[]⟩
def qKF:List PRes:=[⟨false,.tup [.agg [.str,.int .i64],.bool],[]⟩]
def qkN (x0:List AV) (x1:List UInt8):DT qDw:=
 .bi (pj 0 (qmD (x0,x1,0,[],0))) (fun y0=>
 .at ((strOf (cellAt y0.1 y0.2.2.1 0),intOf (cellAt y0.1 y0.2.2.1 1),true)))
 (.bi (pj 1 (qmD (x0,x1,0,[],0))) (fun y0=>
 .at (([],0,false)))
 (.no))
def qiH (x0:List AV) (x1:List UInt8):Option qDw:=qaC (qkN x0 x1).ev
theorem qBd (x0 x1):qiH x0 x1 = (qkN x0 x1).ev:=qaa _
theorem qUn:FH IP 46 qJl qKF (k2 qiH):=qam (F:=F46) (L:=[(1004600,qze)]) (t:=(k2 qkN)) qD9 (qae (l:=[qab F46 0]) (by kernel_rfl) ⟨qal (by kernel_rfl) qVR,trivial⟩) (by kernel_rfl) (fun v=>by kernel_rfl) (fun _=>qaa _)
def T22:Tab:=(46,FE qJl qKF (k2 qiH)) :: T21
theorem qEa:qau IP T22:=⟨qay qUn,qD9⟩
abbrev qdc:Type:=List AV × List UInt8 × Int × List UInt8
def qyy:List PSt:=[⟨[(1004700,.junk),(0,.view 3),(1,.str),(4,.ref 0 0 0),(6,.int .i64)],[(0,.box [.str,.nils 1,.nils 1] false)],1,0⟩]
def qL6 (x0:List AV) (x1:List UInt8) (x2:Int) (x3:List UInt8):X × St:=(.ret,
 ⟨[(4,.ref 0 0 0),(5,.bool true)],[(0,.box [.str (strOf (cellAt x0 x2 0)),.view 1 (qat (cellAt x0 x2 1)),.view 1 (qat (cellAt x0 x2 2))] false)],1,0⟩)
def qL7 (x0:List AV) (x1:List UInt8) (x2:Int) (x3:List UInt8):X × St:=(.exit 0,
 ⟨[(4,.ref 0 0 0),(5,.junk)],[(0,.box [.str x3,.nils ⟨1,.nil⟩,.nils ⟨1,.nil⟩] false)],1,0⟩)
def qWn:List (qdc -> X × St):=[(k4 qL6),(k4 qL7)]
def qjc (x0:List AV) (x1:List UInt8) (x2:Int) (x3:List UInt8):DT (Rd qdc):=
 .br (decide (x2 < (x0.length:Int)))
 (.br (qaw [.str,.slice 1,.slice 1] x0 x2)
 (.br (strOf (cellAt x0 x2 0) == x1)
 (.br (qaw [.str,.slice 1,.slice 1] x0 x2) (.at (.done 0)) (.no))
 (.at (.next ((x0,x1,IntKind.i64.wrap (x2 + 1),x3)))))
 (.no))
 (.at (.done 1))
def qib:qdc -> DT (Rd qdc):=(fun v=>qjc v.1 v.2.1 v.2.2.1 v.2.2.2)
def qmE (v:qdc):Option (Nat × qdc):=qaC (qah (fun v=>(qib v).ev) v)
theorem qoV (v):qmE v = qah (fun v=>(qib v).ev) v:=qaa _
def qzf:qbi:=LE (τ:=qdc) (hD qyy) (qmE) qWn
theorem qVS:Go.Eng.Told IP (qab F47 0).1 (qab F47 0).2 (qzf):=lp (inferInstance:Inhabited qdc) (hs:=qyy) qib qEa qoV
abbrev qDx:Type:=List UInt8 × List AV × List AV × Bool
def qJm:PArgs:=⟨[.view 3,.str],[]⟩
def qKG:List PRes:=[⟨false,.tup [.agg [.str,.view 1,.view 1],.bool],[]⟩]
def qkO (x0:List AV) (x1:List UInt8):DT qDx:=
 .bi (pj 0 (qmE (x0,x1,0,[]))) (fun y0=>
 .at ((strOf (cellAt y0.1 y0.2.2.1 0),qat (cellAt y0.1 y0.2.2.1 1),qat (cellAt y0.1 y0.2.2.1 2),true)))
 (.bi (pj 1 (qmE (x0,x1,0,[]))) (fun y0=>
 .at (([],[],[],false)))
 (.no))
def ql8 (x0:List AV) (x1:List UInt8):Option qDx:=qaC (qkO x0 x1).ev
theorem qBe (x0 x1):ql8 x0 x1 = (qkO x0 x1).ev:=qaa _
theorem qUo:FH IP 47 qJm qKG (k2 ql8):=qam (F:=F47) (L:=[(1004700,qzf)]) (t:=(k2 qkO)) qEa (qae (l:=[qab F47 0]) (by kernel_rfl) ⟨qal (by kernel_rfl) qVS,trivial⟩) (by kernel_rfl) (fun v=>by kernel_rfl) (fun _=>qaa _)
def T23:Tab:=(47,FE qJm qKG (k2 ql8)) :: T22
theorem qxY:qau IP T23:=⟨qay qUo,qEa⟩
abbrev qeV:Type:=List AV × Int
def qGm:List PSt:=[⟨[(1008000,.junk),(0,.view 2),(3,.int .i64)],[],0,0⟩]
def qPw (x0:List AV) (x1:Int):X × St:=(.ret,⟨[(0,.view 2 x0),(2,.int .i64 1)],[],0,0⟩)
def qPx (x0:List AV) (x1:Int):X × St:=(.exit 0,⟨[(0,.view 2 x0),(2,.junk)],[],0,0⟩)
def q1K:List (qeV -> X × St):=[(k2 qPw),(k2 qPx)]
def qnR (x0:List AV) (x1:Int):DT (Rd qeV):=
 .br (decide (x1 < (x0.length:Int)))
 (.br (qaw [.int .i64,.int .i64] x0 x1)
 (.bi (br (decide (intOf (cellAt x0 x1 0) < 0)) (some true) (br (qaw [.int .i64,.int .i64] x0 x1) (some (decide (intOf (cellAt x0 x1 0) > 1000000000000))) none)) (fun y0=>
 .bi (br y0 (some true) (br (qaw [.int .i64,.int .i64] x0 x1) (some (decide (intOf (cellAt x0 x1 1) < 0))) none)) (fun y1=>
 .bi (br y1 (some true) (br (qaw [.int .i64,.int .i64] x0 x1) (some (decide (intOf (cellAt x0 x1 1) > 1000000))) none)) (fun y2=>
 .br (y2) (.at (.done 0)) (.at (.next ((x0,IntKind.i64.wrap (x1 + 1))))))
 (.no))
 (.no))
 (.no))
 (.no))
 (.at (.done 1))
def qjj:qeV -> DT (Rd qeV):=(fun v=>qnR v.1 v.2)
def qtL (v:qeV):Option (Nat × qeV):=qaC (qah (fun v=>(qjj v).ev) v)
theorem qtM (v):qtL v = qah (fun v=>(qjj v).ev) v:=qaa _
def qHy:qbi:=LE (τ:=qeV) (hD qGm) (qtL) q1K
theorem q0F:Go.Eng.Told IP (qab F80 0).1 (qab F80 0).2 (qHy):=lp (inferInstance:Inhabited qeV) (hs:=qGm) qjj qxY qtM
abbrev qeW:Type:=List AV × Int
def qGn:List PSt:=[⟨[(1008001,.junk),(0,.view 2),(4,.int .i64)],[],0,0⟩]
def qPy (x0:List AV) (x1:Int):X × St:=(.ret,⟨[(0,.view 2 x0),(2,.int .i64 10)],[],0,0⟩)
def qPz (x0:List AV) (x1:Int):X × St:=(.exit 2,⟨[(0,.view 2 x0),(2,.junk)],[],0,0⟩)
def q1L:List (qeW -> X × St):=[(k2 qPy),(k2 qPz)]
def qnS (x0:List AV) (x1:Int):DT (Rd qeW):=
 .br (decide (x1 < (x0.length:Int)))
 (.br (qaw [.int .i64,.int .i64] x0 x1)
 (.br (qaw [.int .i64,.int .i64] x0 (IntKind.i64.wrap (x1 - 1)))
 (.br (decide (intOf (cellAt x0 x1 0) <= intOf (cellAt x0 (IntKind.i64.wrap (x1 - 1)) 0))) (.at (.done 0)) (.at (.next ((x0,IntKind.i64.wrap (x1 + 1))))))
 (.no))
 (.no))
 (.at (.done 1))
def qjk:qeW -> DT (Rd qeW):=(fun v=>qnS v.1 v.2)
def qtN (v:qeW):Option (Nat × qeW):=qaC (qah (fun v=>(qjk v).ev) v)
theorem qtO (v):qtN v = qah (fun v=>(qjk v).ev) v:=qaa _
def qHz:qbi:=LE (τ:=qeW) (hD qGn) (qtN) q1L
theorem q0G:Go.Eng.Told IP (qab F80 1).1 (qab F80 1).2 (qHz):=lp (inferInstance:Inhabited qeW) (hs:=qGn) qjk qxY qtO
abbrev qDb:Type:=Int
def qI0:PArgs:=⟨[.view 2],[]⟩
def qKk:List PRes:=[⟨false,.int .i64,[]⟩]
def qks (x0:List AV):DT qDb:=
 .br (decide ((x0.length:Int) > 6))
 (.at (5))
 (.bi (pj 0 (qtL (x0,0))) (fun y0=>
 .at (1))
 (.bi (pj 1 (qtL (x0,0))) (fun y0=>
 .bi (pj 0 (qtN (y0.1,1))) (fun y1=>
 .at (10))
 (.bi (pj 1 (qtN (y0.1,1))) (fun y1=>
 .bi (br (decide ((y1.1.length:Int) > 0)) (br (qaw [.int .i64,.int .i64] y1.1 0) (some (intOf (cellAt y1.1 0 0) != 0)) none) (some false)) (fun y2=>
 .br (y2) (.at (1)) (.at (0)))
 (.no))
 (.no)))
 (.no)))
def qlV (x0:List AV):Option qDb:=qaC (qks x0).ev
theorem qAQ (x0):qlV x0 = (qks x0).ev:=qaa _
theorem qT2:FH IP 80 qI0 qKk qlV:=qam (F:=F80) (L:=[(1008000,qHy),(1008001,qHz)]) (t:=qks) qxY (qae (l:=[qab F80 0,qab F80 1]) (by kernel_rfl) ⟨qal (by kernel_rfl) q0F,qal (by kernel_rfl) q0G,trivial⟩) (by kernel_rfl) (fun v=>by kernel_rfl) (fun _=>qaa _)
def T24:Tab:=(80,FE qI0 qKk qlV) :: T23
theorem qQ7:qau IP T24:=⟨qay qT2,qxY⟩
abbrev qQT:Type:=Int
def qSF:PArgs:=⟨[.agg [.view 2,.bool,.int .i64,.int .i64,.bool]],[]⟩
def qS9:List PRes:=[⟨false,.int .i64,[]⟩]
def qrY (x0:List AV) (x1:Bool) (x2 x3:Int) (x4:Bool):DT qQT:=
 .bi (qlV x0) (fun y0=>
 .br (y0 != 0)
 (.at (y0))
 (.bi (br (decide (x2 < 1)) (some true) (some (decide (x2 > 4)))) (fun y1=>
 .bi (br y1 (some true) (some (decide (x3 < 1)))) (fun y2=>
 .bi (br y2 (some true) (some (decide (x3 > 6)))) (fun y3=>
 .br (y3) (.at (1)) (.at (0)))
 (.no))
 (.no))
 (.no)))
 (.no)
def qoG (x0:List AV) (x1:Bool) (x2 x3:Int) (x4:Bool):Option qQT:=qaC (qrY x0 x1 x2 x3 x4).ev
theorem qFy (x0 x1 x2 x3 x4):qoG x0 x1 x2 x3 x4 = (qrY x0 x1 x2 x3 x4).ev:=qaa _
theorem qYm:FH IP 48 qSF qS9 (k5 qoG):=fh F48 (k5 qrY) qQ7
def T25:Tab:=(48,FE qSF qS9 (k5 qoG)) :: T24
theorem qQ8:qau IP T25:=⟨qay qYm,qQ7⟩
abbrev qDG:Type:=List AV
def qJv:PArgs:=⟨[],[]⟩
def qKP:List PRes:=[⟨false,.view 2,[]⟩]
def qkX:DT qDG:=
 .at ([AV.agg [AV.str [98,97,108,97,110,99,101],.int .i64 2],AV.agg [AV.str [108,111,119,101,115,116],.int .i64 2],
 AV.agg [AV.str [118,111,108,117,109,101],.int .i64 2],AV.agg [AV.str [97,109,111,117,110,116],.int .i64 2],
 AV.agg [AV.str [99,111,117,110,116],.int .i64 1],AV.agg [AV.str [97,103,101],.int .i64 1],AV.agg [AV.str [100,97,121],.int .i64 4]])
def qhd:Option qDG:=qaC (qkX).ev
theorem qBo:qhd = (qkX).ev:=qaa _
theorem qUx:FH IP 82 qJv qKP (fun _=>qhd):=qam (F:=F82) (L:=[]) (t:=(fun _=>qkX)) qQ8 (qae (l:=[]) (by kernel_rfl) trivial) (by kernel_rfl) (fun v=>by kernel_rfl) (fun _=>qaa _)
def T26:Tab:=(82,FE qJv qKP (fun _=>qhd)) :: T25
theorem qQ9:qau IP T26:=⟨qay qUx,qQ8⟩
abbrev qv7:Type:=Int
def qnf:PArgs:=⟨[.agg [.int .i64,.int .i64,.str,.view 4]],[]⟩
def qnn:List PRes:=[⟨false,.int .i64,[]⟩]
abbrev qcp:Type:=Int -> Int -> (List UInt8) -> (List AV) -> Option qv7
def qpW (G_u137q:qcp):Prop:=FH IP 114 qnf qnn (k4 G_u137q)
def qM2 (G_u137q:qcp):Tab:=(114,FE qnf qnn (k4 G_u137q)) :: T26
theorem qlq (G_u137q:qcp) (hG:qpW G_u137q):qau IP (qM2 G_u137q):=⟨qay (hG),qQ9⟩
abbrev qeS:Type:=Int × Int × Int × Int × List UInt8 × List AV
def qGh:List PSt:=[⟨[(1011400,.junk),(1,.ref 0 0 0),(3,.int .i64),(4,.int .i64)],[(0,.box [.int .i64,.int .i64,.str,.view 4] false)],1,0⟩]
def qPm (x0 x1:Int) (x2 x3:Int) (x4:List UInt8) (x5:List AV):X × St:=(.exit 0,⟨[(3,.int .i64 x0)],[],0,0⟩)
def q1F:List (qeS -> X × St):=[(k6 qPm)]
def qnL (G_u137q:qcp) (x0 x1:Int) (x2 x3:Int) (x4:List UInt8) (x5:List AV):DT (Rd qeS):=
 .br (decide (x1 < (x5.length:Int)))
 (.br (qaw [.int .i64,.int .i64,.str,.slice 4] x5 x1)
 (.bi (G_u137q (intOf (cellAt x5 x1 0)) (intOf (cellAt x5 x1 1)) (strOf (cellAt x5 x1 2)) (qat (cellAt x5 x1 3))) (fun y0=>
 .at (.next ((if y0 > x0 then y0 else x0,IntKind.i64.wrap (x1 + 1),x2,x3,x4,x5))))
 (.no))
 (.no))
 (.at (.done 0))
def qnK (G_u137q:qcp):qeS -> DT (Rd qeS):=(fun v=>qnL G_u137q v.1 v.2.1 v.2.2.1 v.2.2.2.1 v.2.2.2.2.1 v.2.2.2.2.2)
def qy7 (G_u137q:qcp) (v:qeS):Option (Nat × qeS):=qaC (qah (fun v=>(qnK G_u137q v).ev) v)
theorem qtI (G_u137q v):qy7 G_u137q v = qah (fun v=>(qnK G_u137q v).ev) v:=qaa _
def qHt (G_u137q:qcp):qbi:=LE (τ:=qeS) (hD qGh) (qy7 G_u137q) q1F
theorem q0A (G_u137q:qcp) (hG:qpW G_u137q):Go.Eng.Told IP (qab qWX 0).1 (qab qWX 0).2 (qHt G_u137q):=qaj (inferInstance:Inhabited qeS) (hs:=qGh) (st:=qnK G_u137q) (L:=[]) (qlq G_u137q hG) (qae (l:=[]) (by kernel_rfl) trivial) (qtI G_u137q) (fun v=>by kernel_rfl) (fun v=>by kernel_rfl)
def qrF (G_u137q:qcp) (x0 x1:Int) (x2:List UInt8) (x3:List AV):DT qv7:=
 .bi (pj 0 (qy7 G_u137q (0,0,x0,x1,x2,x3))) (fun y0=>
 .at (IntKind.i64.wrap (y0.1 + 1)))
 (.no)
def qd1:Nat -> qcp
 | 0=>fun _ _ _ _=>none
 | n + 1=>fun x0 x1 x2 x3=>(qrF ((qd1 n)) x0 x1 x2 x3).ev
def qlT (x0 x1:Int) (x2:List UInt8) (x3:List AV):Option qv7:=qMR fun n=>(qd1 n) x0 x1 x2 x3
theorem qok:∀ n,qpW ((qd1 n))
 | 0=>(fun v y h=>nomatch h)
 | n + 1=>have hG:=qok n
 qam (F:=qWX) (L:=[(1011400,qHt ((qd1 n)))]) (t:=(k4 (qrF ((qd1 n))))) (qlq ((qd1 n)) hG) (qae (l:=[qab qWX 0]) (by kernel_rfl) ⟨qal (by kernel_rfl) (q0A ((qd1 n)) hG),trivial⟩) (by kernel_rfl) (fun v=>by kernel_rfl) (fun v=>rfl)
theorem qTW:FH IP 114 qnf qnn (k4 qlT):=quB (p:=qnf) (rs:=qnn) (s:=fun n=>(k4 ((qd1 n)))) fun n=>(qok n)
def T27:Tab:=(114,FE qnf qnn (k4 qlT)) :: T26
theorem qRa:qau IP T27:=⟨qay qTW,qQ9⟩
abbrev qQQ:Type:=Int
def qSC:PArgs:=⟨[.int .i64],[]⟩
def qS6:List PRes:=[⟨false,.int .i64,[]⟩]
def qrV (x0:Int):DT qQQ:=
 .bi (br (decide (x0 < 1)) (some true) (some (decide (x0 > 19)))) (fun y0=>
 .br (y0)
 (.at (-1))
 (.br (decide (x0 <= 4))
 (.at (0))
 (.bi (br (x0 == 9) (some true) (some (x0 == 16))) (fun y1=>
 .br (y1)
 (.at (1))
 (.br (x0 == 19) (.at (3)) (.at (2))))
 (.no))))
 (.no)
def qsV (x0:Int):Option qQQ:=qaC (qrV x0).ev
theorem qFv (x0):qsV x0 = (qrV x0).ev:=qaa _
theorem qYj:FH IP 120 qSC qS6 qsV:=fh q22 qrV qRa
def T28:Tab:=(120,FE qSC qS6 qsV) :: T27
theorem qRb:qau IP T28:=⟨qay qYj,qRa⟩
abbrev qDD:Type:=Int
def qJs:PArgs:=⟨[.int .i64],[]⟩
def qKM:List PRes:=[⟨false,.int .i64,[]⟩]
def qkU (x0:Int):DT qDD:=
 .br (x0 == 1)
 (.at (9223372036854775807))
 (.br (x0 == 2)
 (.at (1000000000000))
 (.br (x0 == 3) (.at (1000000)) (.at (0))))
def qmc (x0:Int):Option qDD:=qaC (qkU x0).ev
theorem qBl (x0):qmc x0 = (qkU x0).ev:=qaa _
theorem qUu:FH IP 121 qJs qKM qmc:=fh q23 qkU qRb
def T29:Tab:=(121,FE qJs qKM qmc) :: T28
theorem qRc:qau IP T29:=⟨qay qUu,qRb⟩
abbrev qv9:Type:=Bool
def qni:PArgs:=⟨[.agg [.int .i64,.int .i64,.str,.view 4]],[]⟩
def qnq:List PRes:=[⟨false,.bool,[]⟩]
abbrev qcr:Type:=Int -> Int -> (List UInt8) -> (List AV) -> Option qv9
def qpZ (G_u141q:qcr):Prop:=FH IP 115 qni qnq (k4 G_u141q)
def qM5 (G_u141q:qcr):Tab:=(115,FE qni qnq (k4 G_u141q)) :: T29
theorem qlt (G_u141q:qcr) (hG:qpZ G_u141q):qau IP (qM5 G_u141q):=⟨qay (hG),qRc⟩
abbrev qeU:Type:=Int × Int × Int × List UInt8 × List AV
def qGl:List PSt:=[⟨[(1011500,.junk),(1,.ref 0 0 0),(3,.int .i64)],[(0,.box [.int .i64,.int .i64,.str,.view 4] false)],1,0⟩]
def qPu (x0 x1 x2:Int) (x3:List UInt8) (x4:List AV):X × St:=(.ret,⟨[(2,.bool false)],[],0,0⟩)
def qPv (x0 x1 x2:Int) (x3:List UInt8) (x4:List AV):X × St:=(.exit 0,⟨[(2,.junk)],[],0,0⟩)
def q1J:List (qeU -> X × St):=[(k5 qPu),(k5 qPv)]
def qnQ (G_u141q:qcr) (x0 x1 x2:Int) (x3:List UInt8) (x4:List AV):DT (Rd qeU):=
 .br (decide (x0 < (x4.length:Int)))
 (.br (qaw [.int .i64,.int .i64,.str,.slice 4] x4 x0)
 (.bi (G_u141q (intOf (cellAt x4 x0 0)) (intOf (cellAt x4 x0 1)) (strOf (cellAt x4 x0 2)) (qat (cellAt x4 x0 3))) (fun y0=>
 .br (!y0) (.at (.done 0)) (.at (.next ((IntKind.i64.wrap (x0 + 1),x1,x2,x3,x4)))))
 (.no))
 (.no))
 (.at (.done 1))
def qnP (G_u141q:qcr):qeU -> DT (Rd qeU):=(fun v=>qnQ G_u141q v.1 v.2.1 v.2.2.1 v.2.2.2.1 v.2.2.2.2)
def qmZ (G_u141q:qcr) (v:qeU):Option (Nat × qeU):=qaC (qah (fun v=>(qnP G_u141q v).ev) v)
theorem qtK (G_u141q v):qmZ G_u141q v = qah (fun v=>(qnP G_u141q v).ev) v:=qaa _
def qHx (G_u141q:qcr):qbi:=LE (τ:=qeU) (hD qGl) (qmZ G_u141q) q1J
theorem q0E (G_u141q:qcr) (hG:qpZ G_u141q):Go.Eng.Told IP (qab qWY 0).1 (qab qWY 0).2 (qHx G_u141q):=qaj (inferInstance:Inhabited qeU) (hs:=qGl) (st:=qnP G_u141q) (L:=[]) (qlt G_u141q hG) (qae (l:=[]) (by kernel_rfl) trivial) (qtK G_u141q) (fun v=>by kernel_rfl) (fun v=>by kernel_rfl)
def qrJ (G_u141q:qcr) (x0 x1:Int) (x2:List UInt8) (x3:List AV):DT qv9:=
 .bi (qsV x0) (fun y0=>
 .br ((x3.length:Int) != y0)
 (.at (false))
 (.br (decide (x1 < 0))
 (.at (false))
 (.bi (qmc x0) (fun y1=>
 .br (decide (x1 > y1))
 (.at (false))
 (.br (x0 != 4)
 (.br (!x2 == [])
 (.at (false))
 (.bi (pj 0 (qmZ G_u141q (0,x0,x1,x2,x3))) (fun y2=>
 .at (false))
 (.bi (pj 1 (qmZ G_u141q (0,x0,x1,x2,x3))) (fun y2=>
 .at (true))
 (.no))))
 (.bi (pj 0 (qmZ G_u141q (0,x0,x1,x2,x3))) (fun y2=>
 .at (false))
 (.bi (pj 1 (qmZ G_u141q (0,x0,x1,x2,x3))) (fun y2=>
 .at (true))
 (.no)))))
 (.no))))
 (.no)
def qdv:Nat -> qcr
 | 0=>fun _ _ _ _=>none
 | n + 1=>fun x0 x1 x2 x3=>(qrJ ((qdv n)) x0 x1 x2 x3).ev
def qqn (x0 x1:Int) (x2:List UInt8) (x3:List AV):Option qv9:=qMR fun n=>(qdv n) x0 x1 x2 x3
theorem qon:∀ n,qpZ ((qdv n))
 | 0=>(fun v y h=>nomatch h)
 | n + 1=>have hG:=qon n
 qam (F:=qWY) (L:=[(1011500,qHx ((qdv n)))]) (t:=(k4 (qrJ ((qdv n))))) (qlt ((qdv n)) hG) (qae (l:=[qab qWY 0]) (by kernel_rfl) ⟨qal (by kernel_rfl) (q0E ((qdv n)) hG),trivial⟩) (by kernel_rfl) (fun v=>by kernel_rfl) (fun v=>rfl)
theorem qT0:FH IP 115 qni qnq (k4 qqn):=quB (p:=qni) (rs:=qnq) (s:=fun n=>(k4 ((qdv n)))) fun n=>(qon n)
def T30:Tab:=(115,FE qni qnq (k4 qqn)) :: T29
theorem qEb:qau IP T30:=⟨qay qT0,qRc⟩
abbrev qeG:Type:=List AV × List UInt8 × Int
def qF2:List PSt:=[⟨[(1012200,.junk),(0,.view 1),(1,.str),(5,.int .i64)],[],0,0⟩]
def qOU (x0:List AV) (x1:List UInt8) (x2:Int):X × St:=(.exit 0,⟨[(0,.view 1 x0),(1,.str x1),(5,.int .i64 x2)],[],0,0⟩)
def q1q:List (qeG -> X × St):=[(k3 qOU)]
def qij (x0:List AV) (x1:List UInt8) (x2:Int):DT (Rd qeG):=
 .bi (br (decide (x2 < (x0.length:Int))) (br (qaw [.str] x0 x2) (some (qba (strOf (cellAt x0 x2 0)) x1)) none) (some false)) (fun y0=>
 .br (y0) (.at (.next ((x0,x1,IntKind.i64.wrap (x2 + 1))))) (.at (.done 0)))
 (.no)
def qji:qeG -> DT (Rd qeG):=(fun v=>qij v.1 v.2.1 v.2.2)
def qy3 (v:qeG):Option (Nat × qeG):=qaC (qah (fun v=>(qji v).ev) v)
theorem qto (v):qy3 v = qah (fun v=>(qji v).ev) v:=qaa _
def qHe:qbi:=LE (τ:=qeG) (hD qF2) (qy3) q1q
theorem q0l:Go.Eng.Told IP (qab qW0 0).1 (qab qW0 0).2 (qHe):=lp (inferInstance:Inhabited qeG) (hs:=qF2) qji qEb qto
end
end Go.Proofs.H53z
namespace Go.Proofs.H53z
open Go Go.Eng
set_option maxRecDepth 100000
noncomputable section
abbrev qCP:Type:=List AV
def qID:PArgs:=⟨[.view 1,.str],[]⟩
def qJY:List PRes:=[⟨false,.view 1,[]⟩]
def qj8 (x0:List AV) (x1:List UInt8):DT qCP:=
 .bi (pj 0 (qy3 (x0,x1,0))) (fun y0=>
 .bi (br (decide (y0.2.2 < (y0.1.length:Int))) (br (qaw [.str] y0.1 y0.2.2) (some (strOf (cellAt y0.1 y0.2.2 0) == y0.2.1)) none) (some false)) (fun y1=>
 .br (y1)
 (.at (y0.1))
 (.br (leB y0.2.2 y0.1.length && true)
 (.br (decide ((List.take y0.2.2.toNat y0.1).length = 0) && decide (1 = 1))
 (.br (leB y0.2.2 y0.1.length)
 (.br (decide ((List.drop y0.2.2.toNat y0.1).length = 0) && decide (1 = 1))
 (.at ([AV.str y0.2.1]))
 (.br (decide ((List.drop y0.2.2.toNat y0.1).length ≠ 0) && room (1 + (List.drop y0.2.2.toNat y0.1).length) 16)
 (.at (AV.str y0.2.1 :: List.drop y0.2.2.toNat y0.1))
 (.no)))
 (.no))
 (.br (decide ((List.take y0.2.2.toNat y0.1).length ≠ 0) && room (List.take y0.2.2.toNat y0.1).length 16)
 (.br (room ((List.take y0.2.2.toNat y0.1).length + 1) 16)
 (.br (leB y0.2.2 y0.1.length)
 (.br (decide ((List.drop y0.2.2.toNat y0.1).length = 0) && decide (1 = 1))
 (.at (List.take y0.2.2.toNat y0.1 ++ [AV.str y0.2.1]))
 (.br (decide ((List.drop y0.2.2.toNat y0.1).length ≠ 0) && room ((List.take y0.2.2.toNat y0.1 ++ [AV.str y0.2.1]).length + (List.drop y0.2.2.toNat y0.1).length) 16)
 (.at (List.take y0.2.2.toNat y0.1 ++ [AV.str y0.2.1] ++ List.drop y0.2.2.toNat y0.1))
 (.no)))
 (.no))
 (.no))
 (.no)))
 (.no)))
 (.no))
 (.no)
def qfX (x0:List AV) (x1:List UInt8):Option qCP:=qaC (qj8 x0 x1).ev
theorem qAt (x0 x1):qfX x0 x1 = (qj8 x0 x1).ev:=qaa _
theorem qTC:FH IP 122 qID qJY (k2 qfX):=qam (F:=qW0) (L:=[(1012200,qHe)]) (t:=(k2 qj8)) qEb (qae (l:=[qab qW0 0]) (by kernel_rfl) ⟨qal (by kernel_rfl) q0l,trivial⟩) (by kernel_rfl) (fun v=>by kernel_rfl) (fun _=>qaa _)
def T31:Tab:=(122,FE qID qJY (k2 qfX)) :: T30
theorem qEc:qau IP T31:=⟨qay qTC,qEb⟩
abbrev qc6:Type:=(Int × List AV × Int × Int × Int × List UInt8 × List AV × List AV) ⊕ (Int × List AV × Int × Int × Int × List UInt8 × List AV) ⊕ (List AV × Int × List AV × Int × Int × Int × List UInt8 × List AV)
def qGj:List PSt:=[⟨[(1011601,.junk),(1,.ref 0 0 0),(3,.own 1 0),(4,.int .i64),(5,.view 1),(6,.int .i64)],[(0,.box [.int .i64,.int .i64,.str,.view 4] false),(1,.arr 1 false)],2,0⟩,⟨[(1011601,.junk),(1,.ref 0 0 0),(3,.nils 1),(4,.int .i64),(5,.view 1),(6,.int .i64)],[(0,.box [.int .i64,.int .i64,.str,.view 4] false)],1,0⟩,⟨[(1011601,.junk),(1,.ref 0 0 0),(3,.view 1),(4,.int .i64),(5,.view 1),(6,.int .i64)],[(0,.box [.int .i64,.int .i64,.str,.view 4] false)],1,0⟩]
def qPq (x0:Int) (x1:List AV) (x2 x3 x4:Int) (x5:List UInt8) (x6 x7:List AV):X × St:=(.exit 2,
 ⟨[(1,.ref 0 0 0),(3,.own 1 0 none),(4,.int .i64 x0)],[(0,.box [.int .i64 x3,.int .i64 x4,.str x5,.view 4 x6] false),(1,.arr 1 x7 false)],2,0⟩)
def qPr (x0:Int) (x1:List AV) (x2 x3 x4:Int) (x5:List UInt8) (x6:List AV):X × St:=(.exit 2,
 ⟨[(1,.ref 0 0 0),(3,.nils ⟨1,.nil⟩),(4,.int .i64 x0)],[(0,.box [.int .i64 x3,.int .i64 x4,.str x5,.view 4 x6] false)],1,0⟩)
def qPs (x0:List AV) (x1:Int) (x2:List AV) (x3 x4 x5:Int) (x6:List UInt8) (x7:List AV):X × St:=(.exit 2,
 ⟨[(1,.ref 0 0 0),(3,.view 1 x0),(4,.int .i64 x1)],[(0,.box [.int .i64 x4,.int .i64 x5,.str x6,.view 4 x7] false)],1,0⟩)
def q1H:List (qc6 -> X × St):=[fun w=>(k8 qPq) ((sl w)),fun w=>(k7 qPr) ((sl (sr w))),fun w=>(k8 qPs) ((sr (sr w)))]
def qnM (x0:Int) (x1:List AV) (x2 x3 x4:Int) (x5:List UInt8) (x6 x7:List AV):DT (Rd qc6):=
 .br (decide (x2 < (x1.length:Int)))
 (.br (qaw [.str] x1 x2)
 (.bi (qfX x7 (strOf (cellAt x1 x2 0))) (fun y0=>
 .at (.next ((.inr (.inr (y0,x0,x1,IntKind.i64.wrap (x2 + 1),x3,x4,x5,x6))))))
 (.no))
 (.no))
 (.at (.done 0))
def qnN (x0:Int) (x1:List AV) (x2 x3 x4:Int) (x5:List UInt8) (x6:List AV):DT (Rd qc6):=
 .br (decide (x2 < (x1.length:Int)))
 (.br (qaw [.str] x1 x2)
 (.bi (qfX [] (strOf (cellAt x1 x2 0))) (fun y0=>
 .at (.next ((.inr (.inr (y0,x0,x1,IntKind.i64.wrap (x2 + 1),x3,x4,x5,x6))))))
 (.no))
 (.no))
 (.at (.done 1))
def qnO (x0:List AV) (x1:Int) (x2:List AV) (x3 x4 x5:Int) (x6:List UInt8) (x7:List AV):DT (Rd qc6):=
 .br (decide (x3 < (x2.length:Int)))
 (.br (qaw [.str] x2 x3)
 (.bi (qfX x0 (strOf (cellAt x2 x3 0))) (fun y0=>
 .at (.next ((.inr (.inr (y0,x1,x2,IntKind.i64.wrap (x3 + 1),x4,x5,x6,x7))))))
 (.no))
 (.no))
 (.at (.done 2))
def qeb:qc6 -> DT (Rd qc6):=(Sum.elim (fun v=>qnM v.1 v.2.1 v.2.2.1 v.2.2.2.1 v.2.2.2.2.1 v.2.2.2.2.2.1 v.2.2.2.2.2.2.1 v.2.2.2.2.2.2.2) (Sum.elim (fun v=>qnN v.1 v.2.1 v.2.2.1 v.2.2.2.1 v.2.2.2.2.1 v.2.2.2.2.2.1 v.2.2.2.2.2.2) (fun v=>qnO v.1 v.2.1 v.2.2.1 v.2.2.2.1 v.2.2.2.2.1 v.2.2.2.2.2.1 v.2.2.2.2.2.2.1 v.2.2.2.2.2.2.2)))
def qek (v:qc6):Option (Nat × qc6):=qaC (qah (fun v=>(qeb v).ev) v)
theorem qmY (v):qek v = qah (fun v=>(qeb v).ev) v:=qaa _
def qHv:qbi:=LE (τ:=qc6) (hD qGj) (qek) q1H
theorem q0C:Go.Eng.Told IP (qab qMN 1).1 (qab qMN 1).2 (qHv):=qaj (inferInstance:Inhabited qc6) (hs:=qGj) (st:=qeb) (L:=[]) qEc (qae (l:=[]) (by kernel_rfl) trivial) (qmY) (fun v=>match v with | (.inl v)=>by kernel_rfl | (.inr (.inl v))=>by kernel_rfl | (.inr (.inr v))=>by kernel_rfl) (fun v=>match v with | (.inl v)=>by kernel_rfl | (.inr (.inl v))=>by kernel_rfl | (.inr (.inr v))=>by kernel_rfl)
abbrev qll:Type:=List AV
def qng:PArgs:=⟨[.agg [.int .i64,.int .i64,.str,.view 4]],[]⟩
def qno:List PRes:=[⟨false,.view 1,[]⟩]
abbrev qbQ:Type:=Int -> Int -> (List UInt8) -> (List AV) -> Option qll
def qpX (G_u139q:qbQ):Prop:=FH IP 116 qng qno (k4 G_u139q)
def qM3 (G_u139q:qbQ):Tab:=(116,FE qng qno (k4 G_u139q)) :: T31
theorem qlr (G_u139q:qbQ) (hG:qpX G_u139q):qau IP (qM3 G_u139q):=⟨qay (hG),qEc⟩
abbrev qcJ:Type:=(Int × Int × Int × List UInt8 × List AV × List AV) ⊕ (Int × Int × Int × List UInt8 × List AV) ⊕ (List AV × Int × Int × Int × List UInt8 × List AV)
def qGi:List PSt:=[⟨[(1011600,.junk),(1,.ref 0 0 0),(3,.own 1 0),(4,.int .i64)],[(0,.box [.int .i64,.int .i64,.str,.view 4] false),(1,.arr 1 false)],2,0⟩,⟨[(1011600,.junk),(1,.ref 0 0 0),(3,.nils 1),(4,.int .i64)],[(0,.box [.int .i64,.int .i64,.str,.view 4] false)],1,0⟩,⟨[(1011600,.junk),(1,.ref 0 0 0),(3,.view 1),(4,.int .i64)],[(0,.box [.int .i64,.int .i64,.str,.view 4] false)],1,0⟩]
def qPn (x0 x1 x2:Int) (x3:List UInt8) (x4 x5:List AV):X × St:=(.exit 0,⟨[(3,.own 0 0 none)],[(0,.arr 1 x5 false)],1,0⟩)
def qPo (x0 x1 x2:Int) (x3:List UInt8) (x4:List AV):X × St:=(.exit 0,⟨[(3,.nils ⟨1,.nil⟩)],[],0,0⟩)
def qPp (x0:List AV) (x1 x2 x3:Int) (x4:List UInt8) (x5:List AV):X × St:=(.exit 0,⟨[(3,.view 1 x0)],[],0,0⟩)
def q1G:List (qcJ -> X × St):=[fun w=>(k6 qPn) ((sl w)),fun w=>(k5 qPo) ((sl (sr w))),fun w=>(k6 qPp) ((sr (sr w)))]
def qgs (G_u139q:qbQ) (x0 x1 x2:Int) (x3:List UInt8) (x4 x5:List AV):DT (Rd qcJ):=
 .br (decide (x0 < (x4.length:Int)))
 (.br (qaw [.int .i64,.int .i64,.str,.slice 4] x4 x0)
 (.bi (G_u139q (intOf (cellAt x4 x0 0)) (intOf (cellAt x4 x0 1)) (strOf (cellAt x4 x0 2)) (qat (cellAt x4 x0 3))) (fun y0=>
 .bi (pj 0 (qek (Sum.inl (x0,y0,0,x1,x2,x3,x4,x5)))) (fun y1=>
 .at (.next ((.inl (IntKind.i64.wrap ((sl y1).1 + 1),(sl y1).2.2.2.1,(sl y1).2.2.2.2.1,(sl y1).2.2.2.2.2.1,(sl y1).2.2.2.2.2.2.1,(sl y1).2.2.2.2.2.2.2)))))
 (.bi (pj 1 (qek (Sum.inl (x0,y0,0,x1,x2,x3,x4,x5)))) (fun y1=>
 .at (.next ((.inr (.inl (IntKind.i64.wrap ((sl (sr y1)).1 + 1),(sl (sr y1)).2.2.2.1,(sl (sr y1)).2.2.2.2.1,(sl (sr y1)).2.2.2.2.2.1,(sl (sr y1)).2.2.2.2.2.2))))))
 (.bi (pj 2 (qek (Sum.inl (x0,y0,0,x1,x2,x3,x4,x5)))) (fun y1=>
 .at (.next ((.inr (.inr ((sr (sr y1)).1,IntKind.i64.wrap ((sr (sr y1)).2.1 + 1),(sr (sr y1)).2.2.2.2.1,(sr (sr y1)).2.2.2.2.2.1,(sr (sr y1)).2.2.2.2.2.2.1,(sr (sr y1)).2.2.2.2.2.2.2))))))
 (.no))))
 (.no))
 (.no))
 (.at (.done 0))
def qgt (G_u139q:qbQ) (x0 x1 x2:Int) (x3:List UInt8) (x4:List AV):DT (Rd qcJ):=
 .br (decide (x0 < (x4.length:Int)))
 (.br (qaw [.int .i64,.int .i64,.str,.slice 4] x4 x0)
 (.bi (G_u139q (intOf (cellAt x4 x0 0)) (intOf (cellAt x4 x0 1)) (strOf (cellAt x4 x0 2)) (qat (cellAt x4 x0 3))) (fun y0=>
 .bi (pj 0 (qek (Sum.inr (Sum.inl (x0,y0,0,x1,x2,x3,x4))))) (fun y1=>
 .at (.next ((.inl (IntKind.i64.wrap ((sl y1).1 + 1),(sl y1).2.2.2.1,(sl y1).2.2.2.2.1,(sl y1).2.2.2.2.2.1,(sl y1).2.2.2.2.2.2.1,(sl y1).2.2.2.2.2.2.2)))))
 (.bi (pj 1 (qek (Sum.inr (Sum.inl (x0,y0,0,x1,x2,x3,x4))))) (fun y1=>
 .at (.next ((.inr (.inl (IntKind.i64.wrap ((sl (sr y1)).1 + 1),(sl (sr y1)).2.2.2.1,(sl (sr y1)).2.2.2.2.1,(sl (sr y1)).2.2.2.2.2.1,(sl (sr y1)).2.2.2.2.2.2))))))
 (.bi (pj 2 (qek (Sum.inr (Sum.inl (x0,y0,0,x1,x2,x3,x4))))) (fun y1=>
 .at (.next ((.inr (.inr ((sr (sr y1)).1,IntKind.i64.wrap ((sr (sr y1)).2.1 + 1),(sr (sr y1)).2.2.2.2.1,(sr (sr y1)).2.2.2.2.2.1,(sr (sr y1)).2.2.2.2.2.2.1,(sr (sr y1)).2.2.2.2.2.2.2))))))
 (.no))))
 (.no))
 (.no))
 (.at (.done 1))
def qgu (G_u139q:qbQ) (x0:List AV) (x1 x2 x3:Int) (x4:List UInt8) (x5:List AV):DT (Rd qcJ):=
 .br (decide (x1 < (x5.length:Int)))
 (.br (qaw [.int .i64,.int .i64,.str,.slice 4] x5 x1)
 (.bi (G_u139q (intOf (cellAt x5 x1 0)) (intOf (cellAt x5 x1 1)) (strOf (cellAt x5 x1 2)) (qat (cellAt x5 x1 3))) (fun y0=>
 .bi (pj 0 (qek (Sum.inr (Sum.inr (x0,x1,y0,0,x2,x3,x4,x5))))) (fun y1=>
 .at (.next ((.inl (IntKind.i64.wrap ((sl y1).1 + 1),(sl y1).2.2.2.1,(sl y1).2.2.2.2.1,(sl y1).2.2.2.2.2.1,(sl y1).2.2.2.2.2.2.1,(sl y1).2.2.2.2.2.2.2)))))
 (.bi (pj 1 (qek (Sum.inr (Sum.inr (x0,x1,y0,0,x2,x3,x4,x5))))) (fun y1=>
 .at (.next ((.inr (.inl (IntKind.i64.wrap ((sl (sr y1)).1 + 1),(sl (sr y1)).2.2.2.1,(sl (sr y1)).2.2.2.2.1,(sl (sr y1)).2.2.2.2.2.1,(sl (sr y1)).2.2.2.2.2.2))))))
 (.bi (pj 2 (qek (Sum.inr (Sum.inr (x0,x1,y0,0,x2,x3,x4,x5))))) (fun y1=>
 .at (.next ((.inr (.inr ((sr (sr y1)).1,IntKind.i64.wrap ((sr (sr y1)).2.1 + 1),(sr (sr y1)).2.2.2.2.1,(sr (sr y1)).2.2.2.2.2.1,(sr (sr y1)).2.2.2.2.2.2.1,(sr (sr y1)).2.2.2.2.2.2.2))))))
 (.no))))
 (.no))
 (.no))
 (.at (.done 2))
def qb3 (G_u139q:qbQ):qcJ -> DT (Rd qcJ):=(Sum.elim (fun v=>qgs G_u139q v.1 v.2.1 v.2.2.1 v.2.2.2.1 v.2.2.2.2.1 v.2.2.2.2.2) (Sum.elim (fun v=>qgt G_u139q v.1 v.2.1 v.2.2.1 v.2.2.2.1 v.2.2.2.2) (fun v=>qgu G_u139q v.1 v.2.1 v.2.2.1 v.2.2.2.1 v.2.2.2.2.1 v.2.2.2.2.2)))
def qgh (G_u139q:qbQ) (v:qcJ):Option (Nat × qcJ):=qaC (qah (fun v=>(qb3 G_u139q v).ev) v)
theorem qmX (G_u139q v):qgh G_u139q v = qah (fun v=>(qb3 G_u139q v).ev) v:=qaa _
def qHu (G_u139q:qbQ):qbi:=LE (τ:=qcJ) (hD qGi) (qgh G_u139q) q1G
theorem q0B (G_u139q:qbQ) (hG:qpX G_u139q):Go.Eng.Told IP (qab qMN 0).1 (qab qMN 0).2 (qHu G_u139q):=qaj (inferInstance:Inhabited qcJ) (hs:=qGi) (st:=qb3 G_u139q) (L:=[(1011601,qHv)]) (qlr G_u139q hG) (qae (l:=[qab qMN 1]) (by kernel_rfl) ⟨qal (by kernel_rfl) q0C,trivial⟩) (qmX G_u139q) (fun v=>match v with | (.inl v)=>by kernel_rfl | (.inr (.inl v))=>by kernel_rfl | (.inr (.inr v))=>by kernel_rfl) (fun v=>match v with | (.inl v)=>by kernel_rfl | (.inr (.inl v))=>by kernel_rfl | (.inr (.inr v))=>by kernel_rfl)
def qrG (G_u139q:qbQ) (x0 x1:Int) (x2:List UInt8) (x3:List AV):DT qll:=
 .br (x0 == 4)
 (.bi (pj 0 (qgh G_u139q (Sum.inl (0,x0,x1,x2,x3,[AV.str x2])))) (fun y0=>
 .at ((sl y0).2.2.2.2.2))
 (.bi (pj 1 (qgh G_u139q (Sum.inl (0,x0,x1,x2,x3,[AV.str x2])))) (fun y0=>
 .at ([]))
 (.bi (pj 2 (qgh G_u139q (Sum.inl (0,x0,x1,x2,x3,[AV.str x2])))) (fun y0=>
 .at ((sr (sr y0)).1))
 (.no))))
 (.bi (pj 0 (qgh G_u139q (Sum.inr (Sum.inl (0,x0,x1,x2,x3))))) (fun y0=>
 .at ((sl y0).2.2.2.2.2))
 (.bi (pj 1 (qgh G_u139q (Sum.inr (Sum.inl (0,x0,x1,x2,x3))))) (fun y0=>
 .at ([]))
 (.bi (pj 2 (qgh G_u139q (Sum.inr (Sum.inl (0,x0,x1,x2,x3))))) (fun y0=>
 .at ((sr (sr y0)).1))
 (.no))))
def qcE:Nat -> qbQ
 | 0=>fun _ _ _ _=>none
 | n + 1=>fun x0 x1 x2 x3=>(qrG ((qcE n)) x0 x1 x2 x3).ev
def qql (x0 x1:Int) (x2:List UInt8) (x3:List AV):Option qll:=qMR fun n=>(qcE n) x0 x1 x2 x3
theorem qol:∀ n,qpX ((qcE n))
 | 0=>(fun v y h=>nomatch h)
 | n + 1=>have hG:=qol n
 qam (F:=qMN) (L:=[(1011600,qHu ((qcE n)))]) (t:=(k4 (qrG ((qcE n))))) (qlr ((qcE n)) hG) (qae (l:=[qab qMN 0,qab qMN 1]) (by kernel_rfl) ⟨qal (by kernel_rfl) (q0B ((qcE n)) hG),qu9 (by kernel_rfl),trivial⟩) (by kernel_rfl) (fun v=>by kernel_rfl) (fun v=>rfl)
theorem qTY:FH IP 116 qng qno (k4 qql):=quB (p:=qng) (rs:=qno) (s:=fun n=>(k4 ((qcE n)))) fun n=>(qol n)
def T32:Tab:=(116,FE qng qno (k4 qql)) :: T31
theorem qEd:qau IP T32:=⟨qay qTY,qEc⟩
abbrev qde:Type:=List UInt8 × Int
def qyA:List PSt:=[⟨[(1012300,.junk),(0,.str),(3,.int .i64)],[],0,0⟩]
def qMa (x0:List UInt8) (x1:Int):X × St:=(.ret,⟨[(2,.bool false)],[],0,0⟩)
def qMb (x0:List UInt8) (x1:Int):X × St:=(.exit 0,⟨[(2,.junk)],[],0,0⟩)
def qWp:List (qde -> X × St):=[(k2 qMa),(k2 qMb)]
def qjd (x0:List UInt8) (x1:Int):DT (Rd qde):=
 .br (decide (x1 < (x0.length:Int)))
 (.br (inB x0.length x1)
 (.bi (br (decide (qaK x0 x1 < 97)) (some true) (br (inB x0.length x1) (some (decide (qaK x0 x1 > 122))) none)) (fun y0=>
 .bi (br y0 (br (inB x0.length x1) (br (decide (qaK x0 x1 < 48)) (some true) (br (inB x0.length x1) (some (decide (qaK x0 x1 > 57))) none)) none) (some false)) (fun y1=>
 .bi (br y1 (br (inB x0.length x1) (some (qaK x0 x1 != 95)) none) (some false)) (fun y2=>
 .br (y2) (.at (.done 0)) (.at (.next ((x0,IntKind.i64.wrap (x1 + 1))))))
 (.no))
 (.no))
 (.no))
 (.no))
 (.at (.done 1))
def qic:qde -> DT (Rd qde):=(fun v=>qjd v.1 v.2)
def qmG (v:qde):Option (Nat × qde):=qaC (qah (fun v=>(qic v).ev) v)
theorem qoX (v):qmG v = qah (fun v=>(qic v).ev) v:=qaa _
def qzh:qbi:=LE (τ:=qde) (hD qyA) (qmG) qWp
theorem qVU:Go.Eng.Told IP (qab qW1 0).1 (qab qW1 0).2 (qzh):=lp (inferInstance:Inhabited qde) (hs:=qyA) qic qEd qoX
abbrev qDz:Type:=Bool
def qJo:PArgs:=⟨[.str],[]⟩
def qKI:List PRes:=[⟨false,.bool,[]⟩]
def qkQ (x0:List UInt8):DT qDz:=
 .bi (br (decide ((x0.length:Int) < 1)) (some true) (some (decide ((x0.length:Int) > 16)))) (fun y0=>
 .bi (br y0 (some true) (br (inB x0.length 0) (some (decide (qaK x0 0 < 97))) none)) (fun y1=>
 .bi (br y1 (some true) (br (inB x0.length 0) (some (decide (qaK x0 0 > 122))) none)) (fun y2=>
 .br (y2)
 (.at (false))
 (.bi (pj 0 (qmG (x0,0))) (fun y3=>
 .at (false))
 (.bi (pj 1 (qmG (x0,0))) (fun y3=>
 .at (true))
 (.no))))
 (.no))
 (.no))
 (.no)
def ql9 (x0:List UInt8):Option qDz:=qaC (qkQ x0).ev
theorem qBg (x0):ql9 x0 = (qkQ x0).ev:=qaa _
theorem qUq:FH IP 123 qJo qKI ql9:=qam (F:=qW1) (L:=[(1012300,qzh)]) (t:=qkQ) qEd (qae (l:=[qab qW1 0]) (by kernel_rfl) ⟨qal (by kernel_rfl) qVU,trivial⟩) (by kernel_rfl) (fun v=>by kernel_rfl) (fun _=>qaa _)
def T33:Tab:=(123,FE qJo qKI ql9) :: T32
theorem qRd:qau IP T33:=⟨qay qUq,qEd⟩
abbrev qC8:Type:=List AV
def qIX:PArgs:=⟨[],[]⟩
def qKh:List PRes:=[⟨false,.view 1,[]⟩]
def qkp:DT qC8:=
 .at ([AV.str [112,114,111,100,117,99,116],AV.str [99,117,114,114,101,110,99,121],AV.str [99,97,108,101,110,100,97,114],AV.str [102,114,111,109],
 AV.str [101,118,101,114,121],AV.str [111,118,101,114,100,114,97,102,116],AV.str [116,97,120],AV.str [99,114,101,100,105,116],
 AV.str [100,101,98,105,116],AV.str [109,97,114,103,105,110,97,108],AV.str [119,104,111,108,101],AV.str [97,99,116,51,54,48],
 AV.str [97,99,116,51,54,53],AV.str [97,99,116,117,97,108],AV.str [116,104,105,114,116,121],AV.str [100,111,119,110],AV.str [117,112],
 AV.str [102,108,111,111,114],AV.str [99,101,105,108],AV.str [104,97,108,102,95,117,112],AV.str [104,97,108,102,95,101,118,101,110],
 AV.str [107,101,101,112],AV.str [100,114,111,112],AV.str [102,101,101],AV.str [108,105,109,105,116],AV.str [119,104,101,110],
 AV.str [97,109,111,117,110,116,95,111,102],AV.str [115,105,110,103,108,101],AV.str [100,97,105,108,121],AV.str [109,111,110,116,104,108,121],
 AV.str [109,111,110,116,104],AV.str [114,101,116,117,114,110],AV.str [99,108,111,115,101],AV.str [101,118,101,110,116],AV.str [105,102],
 AV.str [116,104,101,110],AV.str [101,108,115,101],AV.str [97,110,100],AV.str [111,114],AV.str [110,111,116],AV.str [109,105,110],AV.str [109,97,120]])
def qlS:Option qC8:=qaC (qkp).ev
theorem qAM:qlS = (qkp).ev:=qaa _
theorem qTV:FH IP 126 qIX qKh (fun _=>qlS):=qam (F:=q25) (L:=[]) (t:=(fun _=>qkp)) qRd (qae (l:=[]) (by kernel_rfl) trivial) (by kernel_rfl) (fun v=>by kernel_rfl) (fun _=>qaa _)
def T34:Tab:=(126,FE qIX qKh (fun _=>qlS)) :: T33
theorem qEe:qau IP T34:=⟨qay qTV,qRd⟩
abbrev qdg:Type:=List UInt8 × List AV × Int
def qyC:List PSt:=[⟨[(1012400,.junk),(0,.str),(3,.view 1),(4,.int .i64)],[],0,0⟩]
def qMd (x0:List UInt8) (x1:List AV) (x2:Int):X × St:=(.ret,⟨[(2,.bool true)],[],0,0⟩)
def qMe (x0:List UInt8) (x1:List AV) (x2:Int):X × St:=(.exit 0,⟨[(2,.junk)],[],0,0⟩)
def qWr:List (qdg -> X × St):=[(k3 qMd),(k3 qMe)]
def qje (x0:List UInt8) (x1:List AV) (x2:Int):DT (Rd qdg):=
 .br (decide (x2 < (x1.length:Int)))
 (.br (qaw [.str] x1 x2)
 (.br (strOf (cellAt x1 x2 0) == x0) (.at (.done 0)) (.at (.next ((x0,x1,IntKind.i64.wrap (x2 + 1))))))
 (.no))
 (.at (.done 1))
def qid:qdg -> DT (Rd qdg):=(fun v=>qje v.1 v.2.1 v.2.2)
def qmH (v:qdg):Option (Nat × qdg):=qaC (qah (fun v=>(qid v).ev) v)
theorem qoZ (v):qmH v = qah (fun v=>(qid v).ev) v:=qaa _
def qzj:qbi:=LE (τ:=qdg) (hD qyC) (qmH) qWr
theorem qVW:Go.Eng.Told IP (qab qW2 0).1 (qab qW2 0).2 (qzj):=lp (inferInstance:Inhabited qdg) (hs:=qyC) qid qEe qoZ
abbrev qDC:Type:=Bool
def qJr:PArgs:=⟨[.str],[]⟩
def qKL:List PRes:=[⟨false,.bool,[]⟩]
def qkT (x0:List UInt8):DT qDC:=
 .bi (qlS) (fun y0=>
 .bi (pj 0 (qmH (x0,y0,0))) (fun y1=>
 .at (true))
 (.bi (pj 1 (qmH (x0,y0,0))) (fun y1=>
 .at (false))
 (.no)))
 (.no)
def qiJ (x0:List UInt8):Option qDC:=qaC (qkT x0).ev
theorem qBk (x0):qiJ x0 = (qkT x0).ev:=qaa _
theorem qUt:FH IP 124 qJr qKL qiJ:=qam (F:=qW2) (L:=[(1012400,qzj)]) (t:=qkT) qEe (qae (l:=[qab qW2 0]) (by kernel_rfl) ⟨qal (by kernel_rfl) qVW,trivial⟩) (by kernel_rfl) (fun v=>by kernel_rfl) (fun _=>qaa _)
def T35:Tab:=(124,FE qJr qKL qiJ) :: T34
theorem qRe:qau IP T35:=⟨qay qUt,qEe⟩
abbrev qQS:Type:=Bool
def qSE:PArgs:=⟨[.str],[]⟩
def qS8:List PRes:=[⟨false,.bool,[]⟩]
def qrX (x0:List UInt8):DT qQS:=
 .bi (ql9 x0) (fun y0=>
 .bi (br y0 (br (sm (qiJ x0)) (some !gv (qiJ x0)) none) (some false)) (fun y1=>
 .at (y1))
 (.no))
 (.no)
def qsX (x0:List UInt8):Option qQS:=qaC (qrX x0).ev
theorem qFx (x0):qsX x0 = (qrX x0).ev:=qaa _
theorem qYl:FH IP 117 qSE qS8 qsX:=fh q2Z qrX qRe
def T36:Tab:=(117,FE qSE qS8 qsX) :: T35
theorem qEf:qau IP T36:=⟨qay qYl,qRe⟩
abbrev qeA:Type:=List AV × Int
def qFW:List PSt:=[⟨[(1010900,.junk),(3,.view 1),(4,.int .i64)],[],0,0⟩]
def qOJ (x0:List AV) (x1:Int):X × St:=(.ret,⟨[(2,.int .i64 4)],[],0,0⟩)
def qOK (x0:List AV) (x1:Int):X × St:=(.exit 0,⟨[(2,.junk)],[],0,0⟩)
def q1k:List (qeA -> X × St):=[(k2 qOJ),(k2 qOK)]
def qnF (x0:List AV) (x1:Int):DT (Rd qeA):=
 .br (decide (x1 < (x0.length:Int)))
 (.br (qaw [.str] x0 x1)
 (.bi (qsX (strOf (cellAt x0 x1 0))) (fun y0=>
 .br (!y0) (.at (.done 0)) (.at (.next ((x0,IntKind.i64.wrap (x1 + 1))))))
 (.no))
 (.no))
 (.at (.done 1))
def qnE:qeA -> DT (Rd qeA):=(fun v=>qnF v.1 v.2)
def qtg (v:qeA):Option (Nat × qeA):=qaC (qah (fun v=>(qnE v).ev) v)
theorem qth (v):qtg v = qah (fun v=>(qnE v).ev) v:=qaa _
def qG8:qbi:=LE (τ:=qeA) (hD qFW) (qtg) q1k
theorem q0f:Go.Eng.Told IP (qab qWT 0).1 (qab qWT 0).2 (qG8):=lp (inferInstance:Inhabited qeA) (hs:=qFW) qnE qEf qth
abbrev qQR:Type:=Int
def qSD:PArgs:=⟨[.agg [.int .i64,.int .i64,.str,.view 4]],[]⟩
def qS7:List PRes:=[⟨false,.int .i64,[]⟩]
def qrW (x0 x1:Int) (x2:List UInt8) (x3:List AV):DT qQR:=
 .bi (qcL x0 x1 x2 x3 64) (fun y0=>
 .bi (br y0 (some true) (br (sm (qlT x0 x1 x2 x3)) (some (decide (gv (qlT x0 x1 x2 x3) > 8))) none)) (fun y1=>
 .br (y1)
 (.at (5))
 (.bi (qqn x0 x1 x2 x3) (fun y2=>
 .br (!y2)
 (.at (1))
 (.bi (qql x0 x1 x2 x3) (fun y3=>
 .bi (pj 0 (qtg (y3,0))) (fun y4=>
 .at (4))
 (.bi (pj 1 (qtg (y3,0))) (fun y4=>
 .at (0))
 (.no)))
 (.no)))
 (.no)))
 (.no))
 (.no)
def qsW (x0 x1:Int) (x2:List UInt8) (x3:List AV):Option qQR:=qaC (qrW x0 x1 x2 x3).ev
theorem qFw (x0 x1 x2 x3):qsW x0 x1 x2 x3 = (qrW x0 x1 x2 x3).ev:=qaa _
theorem qYk:FH IP 109 qSD qS7 (k4 qsW):=qam (F:=qWT) (L:=[(1010900,qG8)]) (t:=(k4 qrW)) qEf (qae (l:=[qab qWT 0]) (by kernel_rfl) ⟨qal (by kernel_rfl) q0f,trivial⟩) (by kernel_rfl) (fun v=>by kernel_rfl) (fun _=>qaa _)
def T37:Tab:=(109,FE qSD qS7 (k4 qsW)) :: T36
theorem qRf:qau IP T37:=⟨qay qYk,qEf⟩
abbrev qDE:Type:=Bool
def qJt:PArgs:=⟨[.int .i64],[]⟩
def qKN:List PRes:=[⟨false,.bool,[]⟩]
def qkV (x0:Int):DT qDE:=
 .bi (br (decide (x0 >= 1)) (some (decide (x0 <= 5))) (some false)) (fun y0=>
 .at (y0))
 (.no)
def qiK (x0:Int):Option qDE:=qaC (qkV x0).ev
theorem qBm (x0):qiK x0 = (qkV x0).ev:=qaa _
theorem qUv:FH IP 118 qJt qKN qiK:=fh q21 qkV qRf
def T38:Tab:=(118,FE qJt qKN qiK) :: T37
theorem qxZ:qau IP T38:=⟨qay qUv,qRf⟩
abbrev qcV:Type:=List AV × Int × Int × Int × List UInt8 × List AV
def qyO:List PSt:=[⟨[(1011000,.junk),(1,.view 2),(2,.ref 0 0 0),(6,.int .i64)],[(0,.box [.int .i64,.int .i64,.str,.view 4] false)],1,0⟩]
def qME (x0:List AV) (x1 x2 x3:Int) (x4:List UInt8) (x5:List AV):X × St:=(.ret,⟨[(4,.int .i64 (intOf (cellAt x0 x1 1))),(5,.int .i64 0)],[],0,0⟩)
def qMF (x0:List AV) (x1 x2 x3:Int) (x4:List UInt8) (x5:List AV):X × St:=(.ret,⟨[(4,.int .i64 0),(5,.int .i64 3)],[],0,0⟩)
def qMG (x0:List AV) (x1 x2 x3:Int) (x4:List UInt8) (x5:List AV):X × St:=(.exit 1,⟨[(4,.junk),(5,.junk)],[],0,0⟩)
def qWD:List (qcV -> X × St):=[(k6 qME),(k6 qMF),(k6 qMG)]
def qjh (x0:List AV) (x1 x2 x3:Int) (x4:List UInt8) (x5:List AV):DT (Rd qcV):=
 .br (decide (x1 < (x0.length:Int)))
 (.br (qaw [.str,.int .i64] x0 x1)
 (.br (strOf (cellAt x0 x1 0) == x4)
 (.br (qaw [.str,.int .i64] x0 x1)
 (.bi (qiK (intOf (cellAt x0 x1 1))) (fun y0=>
 .br (y0)
 (.br (qaw [.str,.int .i64] x0 x1) (.at (.done 0)) (.no))
 (.br (qaw [.str,.int .i64] x0 x1)
 (.br (strOf (cellAt x0 x1 0) == x4) (.at (.done 1)) (.at (.next ((x0,IntKind.i64.wrap (x1 + 1),x2,x3,x4,x5)))))
 (.no)))
 (.no))
 (.no))
 (.br (qaw [.str,.int .i64] x0 x1)
 (.br (strOf (cellAt x0 x1 0) == x4) (.at (.done 1)) (.at (.next ((x0,IntKind.i64.wrap (x1 + 1),x2,x3,x4,x5)))))
 (.no)))
 (.no))
 (.at (.done 2))
def qii:qcV -> DT (Rd qcV):=(fun v=>qjh v.1 v.2.1 v.2.2.1 v.2.2.2.1 v.2.2.2.2.1 v.2.2.2.2.2)
def qgf (v:qcV):Option (Nat × qcV):=qaC (qah (fun v=>(qii v).ev) v)
theorem qpa (v):qgf v = qah (fun v=>(qii v).ev) v:=qaa _
def qzv:qbi:=LE (τ:=qcV) (hD qyO) (qgf) qWD
theorem qV8:Go.Eng.Told IP (qab qMW 0).1 (qab qMW 0).2 (qzv):=lp (inferInstance:Inhabited qcV) (hs:=qyO) qii qxZ qpa
abbrev qeH:Type:=Int × List AV × Int
def qF3:List PSt:=[⟨[(1011900,.junk),(0,.int .i64),(1,.view 1),(6,.int .i64)],[],0,0⟩]
def qOV (x0:Int) (x1:List AV) (x2:Int):X × St:=(.ret,⟨[(0,.int .i64 x0),(1,.view 1 x1),(4,.int .i64 0),(5,.bool false)],[],0,0⟩)
def qOW (x0:Int) (x1:List AV) (x2:Int):X × St:=(.exit 0,⟨[(0,.int .i64 x0),(1,.view 1 x1),(4,.junk),(5,.junk)],[],0,0⟩)
def q1r:List (qeH -> X × St):=[(k3 qOV),(k3 qOW)]
def qnH (x0:Int) (x1:List AV) (x2:Int):DT (Rd qeH):=
 .br (decide (x2 < (x1.length:Int)))
 (.br (qaw [.int .i64] x1 x2)
 (.bi (qiK (intOf (cellAt x1 x2 0))) (fun y0=>
 .br (!y0) (.at (.done 0)) (.at (.next ((x0,x1,IntKind.i64.wrap (x2 + 1))))))
 (.no))
 (.no))
 (.at (.done 1))
def qnG:qeH -> DT (Rd qeH):=(fun v=>qnH v.1 v.2.1 v.2.2)
def qtp (v:qeH):Option (Nat × qeH):=qaC (qah (fun v=>(qnG v).ev) v)
theorem qtq (v):qtp v = qah (fun v=>(qnG v).ev) v:=qaa _
def qHf:qbi:=LE (τ:=qeH) (hD qF3) (qtp) q1r
theorem q0m:Go.Eng.Told IP (qab qWZ 0).1 (qab qWZ 0).2 (qHf):=lp (inferInstance:Inhabited qeH) (hs:=qF3) qnG qxZ qtq
abbrev qCS:Type:=Bool
def qIG:PArgs:=⟨[.int .i64],[]⟩
def qJ1:List PRes:=[⟨false,.bool,[]⟩]
def qka (x0:Int):DT qCS:=
 .bi (br (x0 == 1) (some true) (some (x0 == 2))) (fun y0=>
 .bi (br y0 (some true) (some (x0 == 3))) (fun y1=>
 .at (y1))
 (.no))
 (.no)
def qcK (x0:Int):Option qCS:=qaC (qka x0).ev
theorem qAv (x0):qcK x0 = (qka x0).ev:=qaa _
theorem qTF:FH IP 127 qIG qJ1 qcK:=fh q26 qka qxZ
def T39:Tab:=(127,FE qIG qJ1 qcK) :: T38
theorem qRg:qau IP T39:=⟨qay qTF,qxZ⟩
abbrev qQX:Type:=Int × Bool
def qSJ:PArgs:=⟨[.int .i64,.int .i64],[]⟩
def qTd:List PRes:=[⟨false,.tup [.int .i64,.bool],[]⟩]
def qr8 (x0 x1:Int):DT qQX:=
 .bi (qcK x0) (fun y0=>
 .bi (br (!y0) (some true) (br (sm (qcK x1)) (some !gv (qcK x1)) none)) (fun y1=>
 .br (y1)
 (.at ((0,false)))
 (.br (x0 == 1)
 (.at ((x1,true)))
 (.br (x1 == 1) (.at ((x0,true))) (.at ((2,x0 != x1))))))
 (.no))
 (.no)
def qyq (x0 x1:Int):Option qQX:=qaC (qr8 x0 x1).ev
theorem qFC (x0 x1):qyq x0 x1 = (qr8 x0 x1).ev:=qaa _
theorem qYq:FH IP 129 qSJ qTd (k2 qyq):=fh q28 (k2 qr8) qRg
def T40:Tab:=(129,FE qSJ qTd (k2 qyq)) :: T39
theorem qRh:qau IP T40:=⟨qay qYq,qRg⟩
abbrev qDS:Type:=Int × Bool
def qJI:PArgs:=⟨[.int .i64,.int .i64,.int .i64],[]⟩
def qK2:List PRes:=[⟨false,.tup [.int .i64,.bool],[]⟩]
def qld (x0 x1 x2:Int):DT qDS:=
 .br (x0 == 5)
 (.br (x1 == 4)
 (.at ((x1,x2 == 1)))
 (.bi (br (x1 == x2) (br (sm (qcK x1)) (some (gv (qcK x1))) none) (some false)) (fun y0=>
 .at ((x1,y0)))
 (.no)))
 (.br (x0 == 6)
 (.bi (br (x1 == 4) (some (x2 == 4)) (some false)) (fun y0=>
 .br (y0)
 (.at ((1,true)))
 (.br (x1 == 4)
 (.at ((x1,x2 == 1)))
 (.bi (br (x1 == x2) (br (sm (qcK x1)) (some (gv (qcK x1))) none) (some false)) (fun y1=>
 .at ((x1,y1)))
 (.no))))
 (.no))
 (.br (x0 == 7)
 (.bi (qyq x1 x2) (fun y0=>
 .at ((y0.1,y0.2)))
 (.no))
 (.br (x0 == 8)
 (.bi (br (x1 == 2) (some (x2 == 2)) (some false)) (fun y0=>
 .br (y0)
 (.at ((1,true)))
 (.bi (qcK x1) (fun y1=>
 .bi (br y1 (some (x2 == 1)) (some false)) (fun y2=>
 .at ((x1,y2)))
 (.no))
 (.no)))
 (.no))
 (.br (x0 == 10)
 (.br (x0 == 10)
 (.at ((5,x1 == x2)))
 (.br (x0 == 12)
 (.br (x0 == 12)
 (.bi (br (x1 == x2) (some (x1 != 5)) (some false)) (fun y0=>
 .at ((5,y0)))
 (.no))
 (.br (x0 == 14)
 (.br (x0 == 14)
 (.bi (br (x1 == 5) (some (x2 == 5)) (some false)) (fun y0=>
 .at ((5,y0)))
 (.no))
 (.br (x0 == 17)
 (.br (x0 == 17)
 (.bi (br (x1 == x2) (some (x1 != 5)) (some false)) (fun y0=>
 .at ((x1,y0)))
 (.no))
 (.at ((0,false))))
 (.br (x0 == 18)
 (.bi (br (x1 == x2) (some (x1 != 5)) (some false)) (fun y0=>
 .at ((x1,y0)))
 (.no))
 (.at ((0,false))))))
 (.br (x0 == 15)
 (.bi (br (x1 == 5) (some (x2 == 5)) (some false)) (fun y0=>
 .at ((5,y0)))
 (.no))
 (.br (x0 == 17)
 (.br (x0 == 17)
 (.bi (br (x1 == x2) (some (x1 != 5)) (some false)) (fun y0=>
 .at ((x1,y0)))
 (.no))
 (.at ((0,false))))
 (.br (x0 == 18)
 (.bi (br (x1 == x2) (some (x1 != 5)) (some false)) (fun y0=>
 .at ((x1,y0)))
 (.no))
 (.at ((0,false))))))))
 (.br (x0 == 13)
 (.bi (br (x1 == x2) (some (x1 != 5)) (some false)) (fun y0=>
 .at ((5,y0)))
 (.no))
 (.br (x0 == 14)
 (.br (x0 == 14)
 (.bi (br (x1 == 5) (some (x2 == 5)) (some false)) (fun y0=>
 .at ((5,y0)))
 (.no))
 (.br (x0 == 17)
 (.br (x0 == 17)
 (.bi (br (x1 == x2) (some (x1 != 5)) (some false)) (fun y0=>
 .at ((x1,y0)))
 (.no))
 (.at ((0,false))))
 (.br (x0 == 18)
 (.bi (br (x1 == x2) (some (x1 != 5)) (some false)) (fun y0=>
 .at ((x1,y0)))
 (.no))
 (.at ((0,false))))))
 (.br (x0 == 15)
 (.bi (br (x1 == 5) (some (x2 == 5)) (some false)) (fun y0=>
 .at ((5,y0)))
 (.no))
 (.br (x0 == 17)
 (.br (x0 == 17)
 (.bi (br (x1 == x2) (some (x1 != 5)) (some false)) (fun y0=>
 .at ((x1,y0)))
 (.no))
 (.at ((0,false))))
 (.br (x0 == 18)
 (.bi (br (x1 == x2) (some (x1 != 5)) (some false)) (fun y0=>
 .at ((x1,y0)))
 (.no))
 (.at ((0,false))))))))))
 (.br (x0 == 11)
 (.at ((5,x1 == x2)))
 (.br (x0 == 12)
 (.br (x0 == 12)
 (.bi (br (x1 == x2) (some (x1 != 5)) (some false)) (fun y0=>
 .at ((5,y0)))
 (.no))
 (.br (x0 == 14)
 (.br (x0 == 14)
 (.bi (br (x1 == 5) (some (x2 == 5)) (some false)) (fun y0=>
 .at ((5,y0)))
 (.no))
 (.br (x0 == 17)
 (.br (x0 == 17)
 (.bi (br (x1 == x2) (some (x1 != 5)) (some false)) (fun y0=>
 .at ((x1,y0)))
 (.no))
 (.at ((0,false))))
 (.br (x0 == 18)
 (.bi (br (x1 == x2) (some (x1 != 5)) (some false)) (fun y0=>
 .at ((x1,y0)))
 (.no))
 (.at ((0,false))))))
 (.br (x0 == 15)
 (.bi (br (x1 == 5) (some (x2 == 5)) (some false)) (fun y0=>
 .at ((5,y0)))
 (.no))
 (.br (x0 == 17)
 (.br (x0 == 17)
 (.bi (br (x1 == x2) (some (x1 != 5)) (some false)) (fun y0=>
 .at ((x1,y0)))
 (.no))
 (.at ((0,false))))
 (.br (x0 == 18)
 (.bi (br (x1 == x2) (some (x1 != 5)) (some false)) (fun y0=>
 .at ((x1,y0)))
 (.no))
 (.at ((0,false))))))))
 (.br (x0 == 13)
 (.bi (br (x1 == x2) (some (x1 != 5)) (some false)) (fun y0=>
 .at ((5,y0)))
 (.no))
 (.br (x0 == 14)
 (.br (x0 == 14)
 (.bi (br (x1 == 5) (some (x2 == 5)) (some false)) (fun y0=>
 .at ((5,y0)))
 (.no))
 (.br (x0 == 17)
 (.br (x0 == 17)
 (.bi (br (x1 == x2) (some (x1 != 5)) (some false)) (fun y0=>
 .at ((x1,y0)))
 (.no))
 (.at ((0,false))))
 (.br (x0 == 18)
 (.bi (br (x1 == x2) (some (x1 != 5)) (some false)) (fun y0=>
 .at ((x1,y0)))
 (.no))
 (.at ((0,false))))))
 (.br (x0 == 15)
 (.bi (br (x1 == 5) (some (x2 == 5)) (some false)) (fun y0=>
 .at ((5,y0)))
 (.no))
 (.br (x0 == 17)
 (.br (x0 == 17)
 (.bi (br (x1 == x2) (some (x1 != 5)) (some false)) (fun y0=>
 .at ((x1,y0)))
 (.no))
 (.at ((0,false))))
 (.br (x0 == 18)
 (.bi (br (x1 == x2) (some (x1 != 5)) (some false)) (fun y0=>
 .at ((x1,y0)))
 (.no))
 (.at ((0,false))))))))))))))
def qml (x0 x1 x2:Int):Option qDS:=qaC (qld x0 x1 x2).ev
theorem qBB (x0 x1 x2):qml x0 x1 x2 = (qld x0 x1 x2).ev:=qaa _
theorem qUK:FH IP 128 qJI qK2 (k3 qml):=fh q27 (k3 qld) qRh
def T41:Tab:=(128,FE qJI qK2 (k3 qml)) :: T40
theorem qRi:qau IP T41:=⟨qay qUK,qRh⟩
abbrev qCR:Type:=Int × Bool
def qIF:PArgs:=⟨[.int .i64,.view 1],[]⟩
def qJ0:List PRes:=[⟨false,.tup [.int .i64,.bool],[]⟩]
def qfC (x0:Int) (x1:List AV):DT qCR:=
 .bi (br (x0 == 9) (some ((x1.length:Int) == 1)) (some false)) (fun y0=>
 .br (y0)
 (.br (qaw [.int .i64] x1 0)
 (.br (qaw [.int .i64] x1 0)
 (.bi (qcK (intOf (cellAt x1 0 0))) (fun y1=>
 .at ((intOf (cellAt x1 0 0),y1)))
 (.no))
 (.no))
 (.no))
 (.bi (br (x0 == 16) (some ((x1.length:Int) == 1)) (some false)) (fun y1=>
 .br (y1)
 (.br (qaw [.int .i64] x1 0) (.at ((5,intOf (cellAt x1 0 0) == 5))) (.no))
 (.bi (br (x0 == 19) (some ((x1.length:Int) == 3)) (some false)) (fun y2=>
 .br (y2)
 (.br (qaw [.int .i64] x1 1)
 (.br (qaw [.int .i64] x1 0)
 (.br (intOf (cellAt x1 0 0) == 5)
 (.br (qaw [.int .i64] x1 1)
 (.br (qaw [.int .i64] x1 2) (.at ((intOf (cellAt x1 1 0),intOf (cellAt x1 1 0) == intOf (cellAt x1 2 0)))) (.no))
 (.no))
 (.at ((intOf (cellAt x1 1 0),false))))
 (.no))
 (.no))
 (.br ((x1.length:Int) == 2)
 (.br (qaw [.int .i64] x1 0)
 (.br (qaw [.int .i64] x1 1)
 (.bi (qml x0 (intOf (cellAt x1 0 0)) (intOf (cellAt x1 1 0))) (fun y3=>
 .at ((y3.1,y3.2)))
 (.no))
 (.no))
 (.no))
 (.at ((0,false)))))
 (.no)))
 (.no)))
 (.no)
def qfY (x0:Int) (x1:List AV):Option qCR:=qaC (qfC x0 x1).ev
theorem qgz (x0 x1):qfY x0 x1 = (qfC x0 x1).ev:=qaa _
theorem qTE:FH IP 125 qIF qJ0 (k2 qfY):=fh q24 (k2 qfC) qRi
def T42:Tab:=(125,FE qIF qJ0 (k2 qfY)) :: T41
theorem qRj:qau IP T42:=⟨qay qTE,qRi⟩
abbrev qCQ:Type:=Int × Bool
def qIE:PArgs:=⟨[.int .i64,.view 1],[]⟩
def qJZ:List PRes:=[⟨false,.tup [.int .i64,.bool],[]⟩]
def qj9 (x0:Int) (x1:List AV):DT qCQ:=
 .br (decide ((x1.length:Int) > 3))
 (.at ((0,false)))
 (.bi (pj 0 (qtp (x0,x1,0))) (fun y0=>
 .at ((0,false)))
 (.bi (pj 1 (qtp (x0,x1,0))) (fun y0=>
 .bi (qfY y0.1 y0.2.1) (fun y1=>
 .br (!y1.2) (.at ((0,false))) (.at ((y1.1,true))))
 (.no))
 (.no)))
def qfo (x0:Int) (x1:List AV):Option qCQ:=qaC (qj9 x0 x1).ev
theorem qAu (x0 x1):qfo x0 x1 = (qj9 x0 x1).ev:=qaa _
theorem qTD:FH IP 119 qIE qJZ (k2 qfo):=qam (F:=qWZ) (L:=[(1011900,qHf)]) (t:=(k2 qj9)) qRj (qae (l:=[qab qWZ 0]) (by kernel_rfl) ⟨qal (by kernel_rfl) q0m,trivial⟩) (by kernel_rfl) (fun v=>by kernel_rfl) (fun _=>qaa _)
def T43:Tab:=(119,FE qIE qJZ (k2 qfo)) :: T42
theorem qRk:qau IP T43:=⟨qay qTD,qRj⟩
abbrev qgZ:Type:=Int × Int
def qnj:PArgs:=⟨[.agg [.int .i64,.int .i64,.str,.view 4],.view 2],[]⟩
def qnr:List PRes:=[⟨false,.tup [.int .i64,.int .i64],[]⟩]
abbrev qbk:Type:=Int -> Int -> (List UInt8) -> (List AV) -> (List AV) -> Option qgZ
def qp0 (G_u196q:qbk):Prop:=FH IP 110 qnj qnr (k5 G_u196q)
def qM6 (G_u196q:qbk):Tab:=(110,FE qnj qnr (k5 G_u196q)) :: T43
theorem qlu (G_u196q:qbk) (hG:qp0 G_u196q):qau IP (qM6 G_u196q):=⟨qay (hG),qRk⟩
abbrev qb8:Type:=(List AV × Int × Int × Int × List UInt8 × List AV) ⊕ (List AV × Int × Int × Int × List UInt8 × List AV × List AV)
def qyP:List PSt:=[⟨[(1011001,.junk),(1,.view 2),(2,.ref 0 0 0),(7,.nils ⟨1,.any⟩),(8,.int .i64)],[(0,.box [.int .i64,.int .i64,.str,.view 4] false)],1,0⟩,⟨[(1011001,.junk),(1,.view 2),(2,.ref 0 0 0),(7,.own 1 0),(8,.int .i64)],[(0,.box [.int .i64,.int .i64,.str,.view 4] false),(1,.arr 1 false)],2,0⟩]
def qMH (G_u196q:qbk) (x0:List AV) (x1 x2 x3:Int) (x4:List UInt8) (x5:List AV):X × St:=(.ret,
 ⟨[(2,.ref 0 0 0),(4,.int .i64 0),
 (5,.int .i64 (gv (G_u196q (intOf (cellAt x5 x1 0)) (intOf (cellAt x5 x1 1)) (strOf (cellAt x5 x1 2)) (qat (cellAt x5 x1 3)) x0)).2),
 (7,.nils ⟨1,.any⟩)],[(0,.box [.int .i64 x2,.int .i64 x3,.str x4,.view 4 x5] false)],1,0⟩)
def qMI (G_u196q:qbk) (x0:List AV) (x1 x2 x3:Int) (x4:List UInt8) (x5:List AV):X × St:=(.exit 3,
 ⟨[(2,.ref 0 0 0),(4,.junk),(5,.junk),(7,.nils ⟨1,.any⟩)],[(0,.box [.int .i64 x2,.int .i64 x3,.str x4,.view 4 x5] false)],1,0⟩)
def qMJ (G_u196q:qbk) (x0:List AV) (x1 x2 x3:Int) (x4:List UInt8) (x5 x6:List AV):X × St:=(.ret,
 ⟨[(2,.ref 0 0 0),(4,.int .i64 0),
 (5,.int .i64 (gv (G_u196q (intOf (cellAt x5 x1 0)) (intOf (cellAt x5 x1 1)) (strOf (cellAt x5 x1 2)) (qat (cellAt x5 x1 3)) x0)).2),(7,.own 1 0 none)],[(0,.box [.int .i64 x2,.int .i64 x3,.str x4,.view 4 x5] false),(1,.arr 1 x6 false)],2,0⟩)
def qMK (G_u196q:qbk) (x0:List AV) (x1 x2 x3:Int) (x4:List UInt8) (x5 x6:List AV):X × St:=(.exit 3,
 ⟨[(2,.ref 0 0 0),(4,.junk),(5,.junk),(7,.own 1 0 none)],[(0,.box [.int .i64 x2,.int .i64 x3,.str x4,.view 4 x5] false),(1,.arr 1 x6 false)],2,0⟩)
def qWE (G_u196q:qbk):List (qb8 -> X × St):=[fun w=>(k6 (qMH G_u196q)) ((sl w)),fun w=>(k6 (qMI G_u196q)) ((sl w)),fun w=>(k7 (qMJ G_u196q)) ((sr w)),fun w=>(k7 (qMK G_u196q)) ((sr w))]
def qgN (G_u196q:qbk) (x0:List AV) (x1 x2 x3:Int) (x4:List UInt8) (x5:List AV):DT (Rd qb8):=
 .br (decide (x1 < (x5.length:Int)))
 (.br (qaw [.int .i64,.int .i64,.str,.slice 4] x5 x1)
 (.bi (G_u196q (intOf (cellAt x5 x1 0)) (intOf (cellAt x5 x1 1)) (strOf (cellAt x5 x1 2)) (qat (cellAt x5 x1 3)) x0) (fun y0=>
 .br (y0.2 != 0) (.at (.done 0)) (.at (.next ((.inr (x0,IntKind.i64.wrap (x1 + 1),x2,x3,x4,x5,[.int .i64 y0.1]))))))
 (.no))
 (.no))
 (.at (.done 1))
def qgO (G_u196q:qbk) (x0:List AV) (x1 x2 x3:Int) (x4:List UInt8) (x5 x6:List AV):DT (Rd qb8):=
 .br (decide (x1 < (x5.length:Int)))
 (.br (qaw [.int .i64,.int .i64,.str,.slice 4] x5 x1)
 (.bi (G_u196q (intOf (cellAt x5 x1 0)) (intOf (cellAt x5 x1 1)) (strOf (cellAt x5 x1 2)) (qat (cellAt x5 x1 3)) x0) (fun y0=>
 .br (y0.2 != 0)
 (.at (.done 2))
 (.br (room (x6.length + 1) 8) (.at (.next ((.inr (x0,IntKind.i64.wrap (x1 + 1),x2,x3,x4,x5,x6 ++ [AV.int IntKind.i64 y0.1]))))) (.no)))
 (.no))
 (.no))
 (.at (.done 3))
def qcW (G_u196q:qbk):qb8 -> DT (Rd qb8):=(Sum.elim (fun v=>qgN G_u196q v.1 v.2.1 v.2.2.1 v.2.2.2.1 v.2.2.2.2.1 v.2.2.2.2.2) (fun v=>qgO G_u196q v.1 v.2.1 v.2.2.1 v.2.2.2.1 v.2.2.2.2.1 v.2.2.2.2.2.1 v.2.2.2.2.2.2))
def qgg (G_u196q:qbk) (v:qb8):Option (Nat × qb8):=qaC (qah (fun v=>(qcW G_u196q v).ev) v)
theorem qgB (G_u196q v):qgg G_u196q v = qah (fun v=>(qcW G_u196q v).ev) v:=qaa _
def qzw (G_u196q:qbk):qbi:=LE (τ:=qb8) (hD qyP) (qgg G_u196q) (qWE G_u196q)
theorem qV9 (G_u196q:qbk) (hG:qp0 G_u196q):Go.Eng.Told IP (qab qMW 1).1 (qab qMW 1).2 (qzw G_u196q):=qaj (inferInstance:Inhabited qb8) (hs:=qyP) (st:=qcW G_u196q) (L:=[]) (qlu G_u196q hG) (qae (l:=[]) (by kernel_rfl) trivial) (qgB G_u196q) (fun v=>match v with | (.inl v)=>by kernel_rfl | (.inr v)=>by kernel_rfl) (fun v=>match v with | (.inl v)=>by kernel_rfl | (.inr v)=>by kernel_rfl)
def qrM (G_u196q:qbk) (x0 x1:Int) (x2:List UInt8) (x3 x4:List AV):DT qgZ:=
 .br (x0 == 1)
 (.at ((1,0)))
 (.br (x0 == 2)
 (.at ((2,0)))
 (.br (x0 == 3)
 (.at ((3,0)))
 (.br (x0 == 4)
 (.bi (pj 0 (qgf (x4,0,x0,x1,x2,x3))) (fun y0=>
 .at ((intOf (cellAt y0.1 y0.2.1 1),0)))
 (.bi (pj 1 (qgf (x4,0,x0,x1,x2,x3))) (fun y0=>
 .at ((0,3)))
 (.bi (pj 2 (qgf (x4,0,x0,x1,x2,x3))) (fun y0=>
 .at ((0,4)))
 (.no))))
 (.bi (pj 0 (qgg G_u196q (Sum.inl (x4,0,x0,x1,x2,x3)))) (fun y0=>
 .at ((0,(gv
 (G_u196q (intOf (cellAt (sl y0).2.2.2.2.2 (sl y0).2.1 0)) (intOf (cellAt (sl y0).2.2.2.2.2 (sl y0).2.1 1))
 (strOf (cellAt (sl y0).2.2.2.2.2 (sl y0).2.1 2)) (qat (cellAt (sl y0).2.2.2.2.2 (sl y0).2.1 3)) (sl y0).1)).2)))
 (.bi (pj 1 (qgg G_u196q (Sum.inl (x4,0,x0,x1,x2,x3)))) (fun y0=>
 .bi (qfo (sl y0).2.2.1 []) (fun y1=>
 .br (!y1.2) (.at ((0,3))) (.at ((y1.1,0))))
 (.no))
 (.bi (pj 2 (qgg G_u196q (Sum.inl (x4,0,x0,x1,x2,x3)))) (fun y0=>
 .at ((0,(gv
 (G_u196q (intOf (cellAt (sr y0).2.2.2.2.2.1 (sr y0).2.1 0)) (intOf (cellAt (sr y0).2.2.2.2.2.1 (sr y0).2.1 1))
 (strOf (cellAt (sr y0).2.2.2.2.2.1 (sr y0).2.1 2)) (qat (cellAt (sr y0).2.2.2.2.2.1 (sr y0).2.1 3)) (sr y0).1)).2)))
 (.bi (pj 3 (qgg G_u196q (Sum.inl (x4,0,x0,x1,x2,x3)))) (fun y0=>
 .bi (qfo (sr y0).2.2.1 (sr y0).2.2.2.2.2.2) (fun y1=>
 .br (!y1.2) (.at ((0,3))) (.at ((y1.1,0))))
 (.no))
 (.no))))))))
def qcs:Nat -> qbk
 | 0=>fun _ _ _ _ _=>none
 | n + 1=>fun x0 x1 x2 x3 x4=>(qrM ((qcs n)) x0 x1 x2 x3 x4).ev
def qqo (x0 x1:Int) (x2:List UInt8) (x3 x4:List AV):Option qgZ:=qMR fun n=>(qcs n) x0 x1 x2 x3 x4
theorem qoo:∀ n,qp0 ((qcs n))
 | 0=>(fun v y h=>nomatch h)
 | n + 1=>have hG:=qoo n
 qam (F:=qMW) (L:=[(1011000,qzv),(1011001,qzw ((qcs n)))]) (t:=(k5 (qrM ((qcs n))))) (qlu ((qcs n)) hG) (qae (l:=[qab qMW 0,qab qMW 1]) (by kernel_rfl) ⟨qal (by kernel_rfl) qV8,qal (by kernel_rfl) (qV9 ((qcs n)) hG),trivial⟩) (by kernel_rfl) (fun v=>by kernel_rfl) (fun v=>rfl)
theorem qUP:FH IP 110 qnj qnr (k5 qqo):=quB (p:=qnj) (rs:=qnr) (s:=fun n=>(k5 ((qcs n)))) fun n=>(qoo n)
def T44:Tab:=(110,FE qnj qnr (k5 qqo)) :: T43
theorem qRl:qau IP T44:=⟨qay qUP,qRk⟩
abbrev qDW:Type:=Int × Int
def qJM:PArgs:=⟨[.agg [.int .i64,.int .i64,.str,.view 4],.view 2],[]⟩
def qK6:List PRes:=[⟨false,.tup [.int .i64,.int .i64],[]⟩]
def qlh (x0 x1:Int) (x2:List UInt8) (x3 x4:List AV):DT qDW:=
 .bi (qsW x0 x1 x2 x3) (fun y0=>
 .br (y0 != 0)
 (.at ((0,y0)))
 (.bi (qqo x0 x1 x2 x3 x4) (fun y1=>
 .at ((y1.1,y1.2)))
 (.no)))
 (.no)
def qmn (x0 x1:Int) (x2:List UInt8) (x3 x4:List AV):Option qDW:=qaC (qlh x0 x1 x2 x3 x4).ev
theorem qBF (x0 x1 x2 x3 x4):qmn x0 x1 x2 x3 x4 = (qlh x0 x1 x2 x3 x4).ev:=qaa _
theorem qUO:FH IP 102 qJM qK6 (k5 qmn):=fh q2W (k5 qlh) qRl
def T45:Tab:=(102,FE qJM qK6 (k5 qmn)) :: T44
theorem qRm:qau IP T45:=⟨qay qUO,qRl⟩
abbrev qDa:Type:=Int
def qIZ:PArgs:=⟨[.agg [.int .i64,.int .i64,.str,.view 4],.view 2,.int .i64],[]⟩
def qKj:List PRes:=[⟨false,.int .i64,[]⟩]
def qkr (x0 x1:Int) (x2:List UInt8) (x3 x4:List AV) (x5:Int):DT qDa:=
 .bi (qmn x0 x1 x2 x3 x4) (fun y0=>
 .br (y0.2 != 0)
 (.at (y0.2))
 (.br (y0.1 != x5) (.at (3)) (.at (0))))
 (.no)
def qha (x0 x1:Int) (x2:List UInt8) (x3 x4:List AV) (x5:Int):Option qDa:=qaC (qkr x0 x1 x2 x3 x4 x5).ev
theorem qAP (x0 x1 x2 x3 x4 x5):qha x0 x1 x2 x3 x4 x5 = (qkr x0 x1 x2 x3 x4 x5).ev:=qaa _
theorem qT1:FH IP 81 qIZ qKj (k6 qha):=fh F81 (k6 qkr) qRm
def T46:Tab:=(81,FE qIZ qKj (k6 qha)) :: T45
theorem qRn:qau IP T46:=⟨qay qT1,qRm⟩
end
end Go.Proofs.H53z

/- Functions over plain data. Printed by a program of mine. -/
import Derived.Test.YthljpgljbpdmjaaGreatDoorD15p_2
import Derived.KernelRfl
set_option linter.unusedVariables false
set_option linter.unusedSimpArgs false
set_option linter.unnecessarySimpa false
namespace Go.Proofs.H15p
open Go Go.Eng
set_option maxRecDepth 100000
noncomputable section
abbrev qGb:Type:=List AV
def qMj:PArgs:=⟨[],[]⟩
def qNZ:List PRes:=[⟨false,.view 1,[]⟩]
def qlZ:DT qGb:=
 .at ([AV.str ([] ++ [112] ++ [114] ++ [111] ++ [100] ++ [117] ++ [99] ++ [116]),AV.str ([] ++ [99] ++ [117] ++ [114] ++ [114] ++ [101] ++ [110] ++ [99] ++ [121]),
 AV.str ([] ++ [99] ++ [97] ++ [108] ++ [101] ++ [110] ++ [100] ++ [97] ++ [114]),AV.str ([] ++ [102] ++ [114] ++ [111] ++ [109]),
 AV.str ([] ++ [101] ++ [118] ++ [101] ++ [114] ++ [121]),AV.str ([] ++ [111] ++ [118] ++ [101] ++ [114] ++ [100] ++ [114] ++ [97] ++ [102] ++ [116]),
 AV.str ([] ++ [116] ++ [97] ++ [120]),AV.str ([] ++ [99] ++ [114] ++ [101] ++ [100] ++ [105] ++ [116]),AV.str ([] ++ [100] ++ [101] ++ [98] ++ [105] ++ [116]),
 AV.str ([] ++ [109] ++ [97] ++ [114] ++ [103] ++ [105] ++ [110] ++ [97] ++ [108]),AV.str ([] ++ [119] ++ [104] ++ [111] ++ [108] ++ [101]),
 AV.str ([] ++ [97] ++ [99] ++ [116] ++ [51] ++ [54] ++ [48]),AV.str ([] ++ [97] ++ [99] ++ [116] ++ [51] ++ [54] ++ [53]),
 AV.str ([] ++ [97] ++ [99] ++ [116] ++ [117] ++ [97] ++ [108]),AV.str ([] ++ [116] ++ [104] ++ [105] ++ [114] ++ [116] ++ [121]),
 AV.str ([] ++ [100] ++ [111] ++ [119] ++ [110]),AV.str ([] ++ [117] ++ [112]),AV.str ([] ++ [102] ++ [108] ++ [111] ++ [111] ++ [114]),
 AV.str ([] ++ [99] ++ [101] ++ [105] ++ [108]),AV.str ([] ++ [104] ++ [97] ++ [108] ++ [102] ++ [95] ++ [117] ++ [112]),
 AV.str ([] ++ [104] ++ [97] ++ [108] ++ [102] ++ [95] ++ [101] ++ [118] ++ [101] ++ [110]),AV.str ([] ++ [107] ++ [101] ++ [101] ++ [112]),
 AV.str ([] ++ [100] ++ [114] ++ [111] ++ [112]),AV.str ([] ++ [102] ++ [101] ++ [101]),AV.str ([] ++ [108] ++ [105] ++ [109] ++ [105] ++ [116]),
 AV.str ([] ++ [119] ++ [104] ++ [101] ++ [110]),AV.str ([] ++ [97] ++ [109] ++ [111] ++ [117] ++ [110] ++ [116] ++ [95] ++ [111] ++ [102]),
 AV.str ([] ++ [115] ++ [105] ++ [110] ++ [103] ++ [108] ++ [101]),AV.str ([] ++ [100] ++ [97] ++ [105] ++ [108] ++ [121]),
 AV.str ([] ++ [109] ++ [111] ++ [110] ++ [116] ++ [104] ++ [108] ++ [121]),AV.str ([] ++ [109] ++ [111] ++ [110] ++ [116] ++ [104]),
 AV.str ([] ++ [114] ++ [101] ++ [116] ++ [117] ++ [114] ++ [110]),AV.str ([] ++ [99] ++ [108] ++ [111] ++ [115] ++ [101]),
 AV.str ([] ++ [101] ++ [118] ++ [101] ++ [110] ++ [116]),AV.str ([] ++ [105] ++ [102]),AV.str ([] ++ [116] ++ [104] ++ [101] ++ [110]),
 AV.str ([] ++ [101] ++ [108] ++ [115] ++ [101]),AV.str ([] ++ [97] ++ [110] ++ [100]),AV.str ([] ++ [111] ++ [114]),AV.str ([] ++ [110] ++ [111] ++ [116]),
 AV.str ([] ++ [109] ++ [105] ++ [110]),AV.str ([] ++ [109] ++ [97] ++ [120])])
def qnR:Option qGb:=qay (qlZ).ev
theorem qDo:qnR = (qlZ).ev:=qaa _
theorem qX3:FH IP 184 qMj qNZ (fun _=>qnR):=qag (F:=q6E) (L:=[]) (t:=(fun _=>qlZ)) qUq (qab (l:=[]) (by kernel_rfl) trivial) (by kernel_rfl) (fun v=>by kernel_rfl) (fun _=>qaa _)
def T31:Tab:=(184,FE qMj qNZ (fun _=>qnR)) :: T30
theorem qIp:qai IP T31:=⟨qaj qX3,qUq⟩
abbrev qe0:Type:=List AV × List UInt8 × Int × Int
def qJ9:List PSt:=[⟨[(1019500,.junk),(0,.view 1),(1,.str),(7,.int .i64),(8,.int .i64)],[],0,0⟩]
def qSn (x0:List AV) (x1:List UInt8) (x2 x3:Int):X × St:=(.ret,⟨[(4,.int .i64 x3)],[],0,0⟩)
def qSo (x0:List AV) (x1:List UInt8) (x2 x3:Int):X × St:=(.exit 0,⟨[(4,.junk)],[],0,0⟩)
def q4I:List (qe0 -> X × St):=[(k4 qSn),(k4 qSo)]
def qp8 (x0:List AV) (x1:List UInt8) (x2 x3:Int):DT (Rd qe0):=
 .br (decide (x3 < x2))
 (.br (qaD [.str] x0 x3)
 (.br (x1 == strOf (cellAt x0 x3 0)) (.at (.done 0)) (.at (.next ((x0,x1,x2,IntKind.i64.wrap (x3 + 1))))))
 (.no))
 (.at (.done 1))
def qp7:qe0 -> DT (Rd qe0):=(fun v=>qp8 v.1 v.2.1 v.2.2.1 v.2.2.2)
def qwA (v:qe0):Option (Nat × qe0):=qay (qap (fun v=>(qp7 v).ev) v)
theorem qwB (v):qwA v = qap (fun v=>(qp7 v).ev) v:=qaa _
def qKT:qbz:=LE (τ:=qe0) (hD qJ9) (qwA) q4I
theorem q34:Go.Eng.Told IP (qae q1q 0).1 (qae q1q 0).2 (qKT):=lp (inferInstance:Inhabited qe0) (hs:=qJ9) qp7 qIp qwB
abbrev qTz:Type:=Int
def qVP:PArgs:=⟨[.view 1,.str],[]⟩
def qWA:List PRes:=[⟨false,.int .i64,[]⟩]
def quT (x0:List AV) (x1:List UInt8):DT qTz:=
 .bi (pj 0 (qwA (x0,x1,(x0.length:Int),0))) (fun y0=>
 .at (y0.2.2.2))
 (.bi (pj 1 (qwA (x0,x1,(x0.length:Int),0))) (fun y0=>
 .at (-1))
 (.no))
def qAW (x0:List AV) (x1:List UInt8):Option qTz:=qay (quT x0 x1).ev
theorem qJg (x0 x1):qAW x0 x1 = (quT x0 x1).ev:=qaa _
theorem q2h:FH IP 195 qVP qWA (k2 qAW):=qag (F:=q1q) (L:=[(1019500,qKT)]) (t:=(k2 quT)) qIp (qab (l:=[qae q1q 0]) (by kernel_rfl) ⟨qas (by kernel_rfl) q34,trivial⟩) (by kernel_rfl) (fun v=>by kernel_rfl) (fun _=>qaa _)
def T32:Tab:=(195,FE qVP qWA (k2 qAW)) :: T31
theorem qUr:qai IP T32:=⟨qaj q2h,qIp⟩
abbrev qTx:Type:=Bool
def qVN:PArgs:=⟨[.view 1,.str],[]⟩
def qWy:List PRes:=[⟨false,.bool,[]⟩]
def quM (x0:List AV) (x1:List UInt8):DT qTx:=
 .bi (qAW x0 x1) (fun y0=>
 .at (decide (y0 >= 0)))
 (.no)
def qv4 (x0:List AV) (x1:List UInt8):Option qTx:=qay (quM x0 x1).ev
theorem qJe (x0 x1):qv4 x0 x1 = (quM x0 x1).ev:=qaa _
theorem q2f:FH IP 183 qVN qWy (k2 qv4):=fh q6D (k2 quM) qUr
def T33:Tab:=(183,FE qVN qWy (k2 qv4)) :: T32
theorem qUs:qai IP T33:=⟨qaj q2f,qUr⟩
abbrev qGv:Type:=Bool
def qMD:PArgs:=⟨[.str],[]⟩
def qOj:List PRes:=[⟨false,.bool,[]⟩]
def qmi (x0:List UInt8):DT qGv:=
 .bi (qnR) (fun y0=>
 .bi (qv4 y0 x0) (fun y1=>
 .at (y1))
 (.no))
 (.no)
def qn2 (x0:List UInt8):Option qGv:=qay (qmi x0).ev
theorem qDF (x0):qn2 x0 = (qmi x0).ev:=qaa _
theorem qYq:FH IP 171 qMD qOj qn2:=fh q6s qmi qUs
def T34:Tab:=(171,FE qMD qOj qn2) :: T33
theorem qUt:qai IP T34:=⟨qaj qYq,qUs⟩
abbrev qTU:Type:=Bool
def qWa:PArgs:=⟨[.int .i32],[]⟩
def qWW:List PRes:=[⟨false,.bool,[]⟩]
def qvd (x0:Int):DT qTU:=
 .bi (qhM x0) (fun y0=>
 .bi (br y0 (some true) (some (x0 == 46))) (fun y1=>
 .bi (br y1 (some true) (some (x0 == 37))) (fun y2=>
 .at (y2))
 (.no))
 (.no))
 (.no)
def qrU (x0:Int):Option qTU:=qay (qvd x0).ev
theorem qJB (x0):qrU x0 = (qvd x0).ev:=qaa _
theorem q2D:FH IP 174 qWa qWW qrU:=fh q6v qvd qUt
def T35:Tab:=(174,FE qWa qWW qrU) :: T34
theorem qIq:qai IP T35:=⟨qaj q2D,qUt⟩
abbrev qfa:Type:=List UInt8 × Int
def qKn:List PSt:=[⟨[(1016400,.junk),(0,.str),(1,.fn (.func 174) []),(5,.int .i64)],[],0,0⟩]
def qSS (x0:List UInt8) (x1:Int):X × St:=(.exit 0,⟨[(0,.str x0),(5,.int .i64 x1)],[],0,0⟩)
def q4W:List (qfa -> X × St):=[(k2 qSS)]
def qqo (x0:List UInt8) (x1:Int):DT (Rd qfa):=
 .bi (br (decide (x1 < (x0.length:Int)))
 (br (inB x0.length x1) (br (sm (qrU (IntKind.i32.wrap (qaO x0 x1)))) (some (gv (qrU (IntKind.i32.wrap (qaO x0 x1))))) none) none) (some false)) (fun y0=>
 .br (y0) (.at (.next ((x0,IntKind.i64.wrap (x1 + 1))))) (.at (.done 0)))
 (.no)
def qqn:qfa -> DT (Rd qfa):=(fun v=>qqo v.1 v.2)
def qBy (v:qfa):Option (Nat × qfa):=qay (qap (fun v=>(qqn v).ev) v)
theorem qwS (v):qBy v = qap (fun v=>(qqn v).ev) v:=qaa _
def qK7:qbz:=LE (τ:=qfa) (hD qKn) (qBy) q4W
theorem q4i:Go.Eng.Told IP (qae qvD 0).1 (qae qvD 0).2 (qK7):=lp (inferInstance:Inhabited qfa) (hs:=qKn) qqn qIq qwS
abbrev qT4:Type:=List UInt8
def qWk:PArgs:=⟨[.str,.fn (.func 174) []],[]⟩
def qW6:List PRes:=[⟨false,.str,[]⟩]
def qvn (x0:List UInt8):DT qT4:=
 .bi (pj 0 (qBy (x0,0))) (fun y0=>
 .br (leB y0.2 y0.1.length && true) (.at (List.take y0.2.toNat y0.1)) (.no))
 (.no)
def qwl (x0:List UInt8):Option qT4:=qay (qvn x0).ev
theorem qJL (x0):qwl x0 = (qvn x0).ev:=qaa _
theorem q2O:FH IP 164 qWk qW6 qwl:=qag (F:=qvD) (L:=[(1016400,qK7)]) (t:=qvn) qIq (qab (l:=[qae qvD 0]) (by kernel_rfl) ⟨qas (by kernel_rfl) q4i,trivial⟩) (by kernel_rfl) (fun v=>by kernel_rfl) (fun _=>qaa _)
def T36:Tab:=(164,FE qWk qW6 qwl) :: T35
theorem qIr:qai IP T36:=⟨qaj q2O,qIq⟩
abbrev qfb:Type:=List UInt8 × Int
def qKo:List PSt:=[⟨[(1016400,.junk),(0,.str),(1,.fn (.func 172) []),(5,.int .i64)],[],0,0⟩]
def qST (x0:List UInt8) (x1:Int):X × St:=(.exit 0,⟨[(0,.str x0),(5,.int .i64 x1)],[],0,0⟩)
def q4X:List (qfb -> X × St):=[(k2 qST)]
def qqq (x0:List UInt8) (x1:Int):DT (Rd qfb):=
 .bi (br (decide (x1 < (x0.length:Int)))
 (br (inB x0.length x1) (br (sm (qfC (IntKind.i32.wrap (qaO x0 x1)))) (some (gv (qfC (IntKind.i32.wrap (qaO x0 x1))))) none) none) (some false)) (fun y0=>
 .br (y0) (.at (.next ((x0,IntKind.i64.wrap (x1 + 1))))) (.at (.done 0)))
 (.no)
def qqp:qfb -> DT (Rd qfb):=(fun v=>qqq v.1 v.2)
def qBz (v:qfb):Option (Nat × qfb):=qay (qap (fun v=>(qqp v).ev) v)
theorem qwT (v):qBz v = qap (fun v=>(qqp v).ev) v:=qaa _
def qK8:qbz:=LE (τ:=qfb) (hD qKo) (qBz) q4X
theorem q4j:Go.Eng.Told IP (qae qvD 0).1 (qae qvD 0).2 (qK8):=lp (inferInstance:Inhabited qfb) (hs:=qKo) qqp qIr qwT
abbrev qT5:Type:=List UInt8
def qWl:PArgs:=⟨[.str,.fn (.func 172) []],[]⟩
def qW7:List PRes:=[⟨false,.str,[]⟩]
def qvo (x0:List UInt8):DT qT5:=
 .bi (pj 0 (qBz (x0,0))) (fun y0=>
 .br (leB y0.2 y0.1.length && true) (.at (List.take y0.2.toNat y0.1)) (.no))
 (.no)
def qhx (x0:List UInt8):Option qT5:=qay (qvo x0).ev
theorem qJM (x0):qhx x0 = (qvo x0).ev:=qaa _
theorem q2P:FH IP 164 qWl qW7 qhx:=qag (F:=qvD) (L:=[(1016400,qK8)]) (t:=qvo) qIr (qab (l:=[qae qvD 0]) (by kernel_rfl) ⟨qas (by kernel_rfl) q4j,trivial⟩) (by kernel_rfl) (fun v=>by kernel_rfl) (fun _=>qaa _)
def T37:Tab:=(164,FE qWl qW7 qhx) :: T36
theorem qUu:qai IP T37:=⟨qaj q2P,qIr⟩
abbrev qT2:Type:=Bool
def qWi:PArgs:=⟨[.str],[]⟩
def qW4:List PRes:=[⟨false,.bool,[]⟩]
def qvl (x0:List UInt8):DT qT2:=
 .bi (br (!x0 == []) (br (sm (qhx x0)) (some (gv (qhx x0) == x0)) none) (some false)) (fun y0=>
 .bi (br y0 (br ((x0.length:Int) == 1) (some true) (br (inB x0.length 0) (some (qaO x0 0 != 48)) none)) (some false)) (fun y1=>
 .at (y1))
 (.no))
 (.no)
def qoB (x0:List UInt8):Option qT2:=qay (qvl x0).ev
theorem qJJ (x0):qoB x0 = (qvl x0).ev:=qaa _
theorem q2M:FH IP 185 qWi qW4 qoB:=fh q6F qvl qUu
def T38:Tab:=(185,FE qWi qW4 qoB) :: T37
theorem qUv:qai IP T38:=⟨qaj q2M,qUu⟩
abbrev qTw:Type:=Bool
def qVM:PArgs:=⟨[.str,.str],[]⟩
def qWx:List PRes:=[⟨false,.bool,[]⟩]
def quL (x0 x1:List UInt8):DT qTw:=
 .bi (br (decide ((x0.length:Int) >= (x1.length:Int)))
 (br (leB (IntKind.i64.wrap ((x0.length:Int) - (x1.length:Int))) x0.length) (some (List.drop (IntKind.i64.wrap ((x0.length:Int) - (x1.length:Int))).toNat x0 == x1))
 none)
 (some false)) (fun y0=>
 .at (y0))
 (.no)
def qAV (x0 x1:List UInt8):Option qTw:=qay (quL x0 x1).ev
theorem qJd (x0 x1):qAV x0 x1 = (quL x0 x1).ev:=qaa _
theorem q2e:FH IP 221 qVM qWx (k2 qAV):=fh q6L (k2 quL) qUv
def T39:Tab:=(221,FE qVM qWx (k2 qAV)) :: T38
theorem qUw:qai IP T39:=⟨qaj q2e,qUv⟩
abbrev qTu:Type:=List UInt8 × Bool
def qVK:PArgs:=⟨[.str,.str],[]⟩
def qWv:List PRes:=[⟨false,.tup [.str,.bool],[]⟩]
def quG (x0 x1:List UInt8):DT qTu:=
 .bi (qAV x0 x1) (fun y0=>
 .br (!y0)
 (.at ((x0,false)))
 (.br (leB (IntKind.i64.wrap ((x0.length:Int) - (x1.length:Int))) x0.length && true)
 (.at ((List.take (IntKind.i64.wrap ((x0.length:Int) - (x1.length:Int))).toNat x0,true)))
 (.no)))
 (.no)
def qAT (x0 x1:List UInt8):Option qTu:=qay (quG x0 x1).ev
theorem qJb (x0 x1):qAT x0 x1 = (quG x0 x1).ev:=qaa _
theorem q2c:FH IP 211 qVK qWv (k2 qAT):=fh q6J (k2 quG) qUw
def T40:Tab:=(211,FE qVK qWv (k2 qAT)) :: T39
theorem qUx:qai IP T40:=⟨qaj q2c,qUw⟩
abbrev qTD:Type:=List UInt8 × Bool
def qVT:PArgs:=⟨[.str,.str],[]⟩
def qWE:List PRes:=[⟨false,.tup [.str,.bool],[]⟩]
def quY (x0 x1:List UInt8):DT qTD:=
 .bi (qAT x0 x1) (fun y0=>
 .at ((y0.1,y0.2)))
 (.no)
def qv7 (x0 x1:List UInt8):Option qTD:=qay (quY x0 x1).ev
theorem qJk (x0 x1):qv7 x0 x1 = (quY x0 x1).ev:=qaa _
theorem q2l:FH IP 198 qVT qWE (k2 qv7):=fh q6H (k2 quY) qUx
def T41:Tab:=(198,FE qVT qWE (k2 qv7)) :: T40
theorem qUy:qai IP T41:=⟨qaj q2l,qUx⟩
abbrev qTy:Type:=Int
def qVO:PArgs:=⟨[.str,.str],[]⟩
def qWz:List PRes:=[⟨false,.int .i64,[]⟩]
def quS (x0 x1:List UInt8):DT qTy:=
 .bi (br ((x1.length:Int) == 0) (some true) (some (x1 == x0))) (fun y0=>
 .br (y0)
 (.at (0))
 (.br ((x1.length:Int) == 1)
 (.br (inB x1.length 0) (.at (Lib.indexByte x0 (qaO x1 0).toNat.toUInt8)) (.no))
 (.br (decide ((x1.length:Int) >= (x0.length:Int))) (.at (-1)) (.no))))
 (.no)
def qv5 (x0 x1:List UInt8):Option qTy:=qay (quS x0 x1).ev
theorem qJf (x0 x1):qv5 x0 x1 = (quS x0 x1).ev:=qaa _
theorem q2g:FH IP 182 qVO qWz (k2 qv5):=qag (F:=q5j) (L:=[]) (t:=(k2 quS)) qUy (qab (l:=[qae q5j 0]) (by kernel_rfl) ⟨qCr (by kernel_rfl),trivial⟩) (by kernel_rfl) (fun v=>by kernel_rfl) (fun _=>qaa _)
def T42:Tab:=(182,FE qVO qWz (k2 qv5)) :: T41
theorem qUz:qai IP T42:=⟨qaj q2g,qUy⟩
abbrev qTA:Type:=List UInt8 × List UInt8 × Bool
def qVQ:PArgs:=⟨[.str,.str],[]⟩
def qWB:List PRes:=[⟨false,.tup [.str,.str,.bool],[]⟩]
def quU (x0 x1:List UInt8):DT qTA:=
 .bi (qv5 x0 x1) (fun y0=>
 .br (decide (y0 >= 0))
 (.br (leB y0 x0.length && true)
 (.br (leB (IntKind.i64.wrap (y0 + (x1.length:Int))) x0.length)
 (.at ((List.take y0.toNat x0,List.drop (IntKind.i64.wrap (y0 + (x1.length:Int))).toNat x0,true)))
 (.no))
 (.no))
 (.at ((x0,[],false))))
 (.no)
def qAX (x0 x1:List UInt8):Option qTA:=qay (quU x0 x1).ev
theorem qJh (x0 x1):qAX x0 x1 = (quU x0 x1).ev:=qaa _
theorem q2i:FH IP 212 qVQ qWB (k2 qAX):=fh q6K (k2 quU) qUz
def T43:Tab:=(212,FE qVQ qWB (k2 qAX)) :: T42
theorem qUA:qai IP T43:=⟨qaj q2i,qUz⟩
abbrev qF7:Type:=List UInt8 × List UInt8 × Bool
def qMg:PArgs:=⟨[.str,.str],[]⟩
def qNW:List PRes:=[⟨false,.tup [.str,.str,.bool],[]⟩]
def qlW (x0 x1:List UInt8):DT qF7:=
 .bi (qAX x0 x1) (fun y0=>
 .at ((y0.1,y0.2.1,y0.2.2)))
 (.no)
def qnO (x0 x1:List UInt8):Option qF7:=qay (qlW x0 x1).ev
theorem qDl (x0 x1):qnO x0 x1 = (qlW x0 x1).ev:=qaa _
theorem qX0:FH IP 199 qMg qNW (k2 qnO):=fh q6I (k2 qlW) qUA
def T44:Tab:=(199,FE qMg qNW (k2 qnO)) :: T43
theorem qIs:qai IP T44:=⟨qaj qX0,qUA⟩
abbrev qdi:Type:=List UInt8 × List UInt8
def qA4:List PSt:=[⟨[(1018700,.junk),(6,.str),(7,.str)],[],0,0⟩]
def qPP (x0 x1:List UInt8):X × St:=(.exit 0,⟨[(6,.str x0),(7,.str x1)],[],0,0⟩)
def q0N:List (qdi -> X × St):=[(k2 qPP)]
def qkn (x0 x1:List UInt8):DT (Rd qdi):=
 .br (decide ((x1.length:Int) < 4))
 (.br (decide (x1.length + 1 <= 4611686018427387904)) (.at (.next ((x0,x1 ++ [48])))) (.no))
 (.at (.done 0))
def qg7:qdi -> DT (Rd qdi):=(fun v=>qkn v.1 v.2)
def qtZ (v:qdi):Option (Nat × qdi):=qay (qap (fun v=>(qg7 v).ev) v)
theorem qsk (v):qtZ v = qap (fun v=>(qg7 v).ev) v:=qaa _
def qBK:qbz:=LE (τ:=qdi) (hD qA4) (qtZ) q0N
theorem q0g:Go.Eng.Told IP (qae q1p 0).1 (qae q1p 0).2 (qBK):=lp (inferInstance:Inhabited qdi) (hs:=qA4) qg7 qIs qsk
abbrev qGu:Type:=Int × Int
def qMC:PArgs:=⟨[.str],[]⟩
def qOi:List PRes:=[⟨false,.tup [.int .i64,.int .i64],[]⟩]
def qmh (x0:List UInt8):DT qGu:=
 .bi (qv7 x0 [37]) (fun y0=>
 .bi (qnO y0.1 [46]) (fun y1=>
 .bi (br (!y0.2) (some true) (br (sm (qoB y1.1)) (some !gv (qoB y1.1)) none)) (fun y2=>
 .bi (br y2 (some true)
 (br y1.2.2
 (br (y1.2.1 == []) (some true)
 (br (decide ((y1.2.1.length:Int) > 4)) (some true)
 (br (sm (qhx y1.2.1))
 (br (!gv (qhx y1.2.1) == y1.2.1) (some true)
 (br (inB y1.2.1.length (IntKind.i64.wrap ((y1.2.1.length:Int) - 1))) (some (qaO y1.2.1 (IntKind.i64.wrap ((y1.2.1.length:Int) - 1)) == 48))
 none))
 none)))
 (some false))) (fun y3=>
 .br (y3)
 (.at ((0,2)))
 (.br (decide ((y1.1.length:Int) > 3))
 (.at ((0,1)))
 (.bi (pj 0 (qtZ (y1.1,y1.2.1))) (fun y4=>
 .br (decide (y4.1.length + y4.2.length <= 4611686018427387904))
 (.br (pOk (y4.1 ++ y4.2) && nOk (Lib.atoiAll (y4.1 ++ y4.2)))
 (.br (decide (q3w (Lib.atoiAll (y4.1 ++ y4.2)) > 1000000)) (.at ((0,1))) (.at ((q3w (Lib.atoiAll (y4.1 ++ y4.2)),0))))
 (.br (pOk (y4.1 ++ y4.2) && qhB (Lib.atoiAll (y4.1 ++ y4.2)))
 (.br (decide (Lib.atoiSat (y4.1 ++ y4.2) > 1000000)) (.at ((0,1))) (.at ((Lib.atoiSat (y4.1 ++ y4.2),0))))
 (.br (pOk (y4.1 ++ y4.2) && qda (Lib.atoiAll (y4.1 ++ y4.2))) (.at ((0,0))) (.no))))
 (.no))
 (.no))))
 (.no))
 (.no))
 (.no))
 (.no)
def qn1 (x0:List UInt8):Option qGu:=qay (qmh x0).ev
theorem qDE (x0):qn1 x0 = (qmh x0).ev:=qaa _
theorem qYp:FH IP 187 qMC qOi qn1:=qag (F:=q1p) (L:=[(1018700,qBK)]) (t:=qmh) qIs (qab (l:=[qae q1p 0]) (by kernel_rfl) ⟨qas (by kernel_rfl) q0g,trivial⟩) (by kernel_rfl) (fun v=>by kernel_rfl) (fun _=>qaa _)
def T45:Tab:=(187,FE qMC qOi qn1) :: T44
theorem qUB:qai IP T45:=⟨qaj qYp,qIs⟩
abbrev qFU:Type:=Int × Int × List UInt8 × Int
def qL4:PArgs:=⟨[.str],[]⟩
def qNK:List PRes:=[⟨false,.tup [.agg [.int .i64,.int .i64,.str],.int .i64],[]⟩]
def qlM (x0:List UInt8):DT qFU:=
 .bi (qoB x0) (fun y0=>
 .br (y0)
 (.br (pOk x0 && nOk (Lib.parseIntB 64 x0))
 (.at ((2,0,x0,0)))
 (.br (pOk x0 && qhB (Lib.parseIntB 64 x0))
 (.at ((0,0,[],6)))
 (.br (pOk x0 && qda (Lib.parseIntB 64 x0)) (.at ((0,0,[],6))) (.no))))
 (.bi (qn1 x0) (fun y1=>
 .br (y1.2 == 0)
 (.at ((3,0,x0,0)))
 (.br (y1.2 == 1) (.at ((0,0,[],6))) (.at ((0,0,[],2)))))
 (.no)))
 (.no)
def qnK (x0:List UInt8):Option qFU:=qay (qlM x0).ev
theorem qDb (x0):qnK x0 = (qlM x0).ev:=qaa _
theorem qXN:FH IP 173 qL4 qNK qnK:=fh q6u qlM qUB
def T46:Tab:=(173,FE qL4 qNK qnK) :: T45
theorem qUC:qai IP T46:=⟨qaj qXN,qUB⟩
abbrev qGa:Type:=List AV
def qMi:PArgs:=⟨[],[]⟩
def qNY:List PRes:=[⟨false,.view 1,[]⟩]
def qlY:DT qGa:=
 .at ([AV.str ([] ++ [61] ++ [61]),AV.str ([] ++ [33] ++ [61]),AV.str ([] ++ [60] ++ [61]),AV.str ([] ++ [123]),AV.str ([] ++ [125]),AV.str ([] ++ [40]),AV.str ([] ++ [41]),
 AV.str ([] ++ [44]),AV.str ([] ++ [59]),AV.str ([] ++ [58]),AV.str ([] ++ [36]),AV.str ([] ++ [43]),AV.str ([] ++ [45]),AV.str ([] ++ [42]),AV.str ([] ++ [47]),
 AV.str ([] ++ [60])])
def qnQ:Option qGa:=qay (qlY).ev
theorem qDn:qnQ = (qlY).ev:=qaa _
theorem qX2:FH IP 175 qMi qNY (fun _=>qnQ):=qag (F:=q6w) (L:=[]) (t:=(fun _=>qlY)) qUC (qab (l:=[]) (by kernel_rfl) trivial) (by kernel_rfl) (fun v=>by kernel_rfl) (fun _=>qaa _)
def T47:Tab:=(175,FE qMi qNY (fun _=>qnQ)) :: T46
theorem qUD:qai IP T47:=⟨qaj qX2,qUC⟩
abbrev qTv:Type:=Bool
def qVL:PArgs:=⟨[.str,.str],[]⟩
def qWw:List PRes:=[⟨false,.bool,[]⟩]
def quH (x0 x1:List UInt8):DT qTv:=
 .bi (br (decide ((x0.length:Int) >= (x1.length:Int))) (br (leB (x1.length:Int) x0.length && true) (some (List.take (x1.length:Int).toNat x0 == x1)) none) (some false)) (fun y0=>
 .at (y0))
 (.no)
def qAU (x0 x1:List UInt8):Option qTv:=qay (quH x0 x1).ev
theorem qJc (x0 x1):qAU x0 x1 = (quH x0 x1).ev:=qaa _
theorem q2d:FH IP 189 qVL qWw (k2 qAU):=fh q6G (k2 quH) qUD
def T48:Tab:=(189,FE qVL qWw (k2 qAU)) :: T47
theorem qUE:qai IP T48:=⟨qaj q2d,qUD⟩
abbrev qTE:Type:=Bool
def qVU:PArgs:=⟨[.str,.str],[]⟩
def qWF:List PRes:=[⟨false,.bool,[]⟩]
def quZ (x0 x1:List UInt8):DT qTE:=
 .bi (qAU x0 x1) (fun y0=>
 .at (y0))
 (.no)
def qv8 (x0 x1:List UInt8):Option qTE:=qay (quZ x0 x1).ev
theorem qJl (x0 x1):qv8 x0 x1 = (quZ x0 x1).ev:=qaa _
theorem q2m:FH IP 176 qVU qWF (k2 qv8):=fh q6x (k2 quZ) qUE
def T49:Tab:=(176,FE qVU qWF (k2 qv8)) :: T48
theorem qIt:qai IP T49:=⟨qaj q2m,qUE⟩
abbrev qdj:Type:=List UInt8 × List AV × Int × Int × Int × Int × List UInt8
def qA5:List PSt:=[⟨[(1015300,.junk),(0,.str),(2,.ref 0 0 0),(34,.view 1),(35,.int .i64),(36,.int .i64)],[(0,.box [.int .i64,.int .i64,.str] false)],1,0⟩]
def qPQ (x0:List UInt8) (x1:List AV) (x2 x3:Int) (x4 x5:Int) (x6:List UInt8):X × St:=(.ret,
 ⟨[(2,.ref 0 0 0),(3,.int .i64 0)],[(0,.box [.int .i64 4,.int .i64 0,.str (strOf (cellAt x1 x3 0))] false)],1,0⟩)
def qPR (x0:List UInt8) (x1:List AV) (x2 x3:Int) (x4 x5:Int) (x6:List UInt8):X × St:=(.exit 1,⟨[(2,.ref 0 0 0),(3,.junk)],[(0,.box [.int .i64 x4,.int .i64 x5,.str x6] false)],1,0⟩)
def q0O:List (qdj -> X × St):=[(k7 qPQ),(k7 qPR)]
def qko (x0:List UInt8) (x1:List AV) (x2 x3:Int) (x4 x5:Int) (x6:List UInt8):DT (Rd qdj):=
 .br (decide (x3 < x2))
 (.br (qaD [.str] x1 x3)
 (.bi (qv8 x0 (strOf (cellAt x1 x3 0))) (fun y0=>
 .br (y0) (.at (.done 0)) (.at (.next ((x0,x1,x2,IntKind.i64.wrap (x3 + 1),x4,x5,x6)))))
 (.no))
 (.no))
 (.at (.done 1))
def qi2:qdj -> DT (Rd qdj):=(fun v=>qko v.1 v.2.1 v.2.2.1 v.2.2.2.1 v.2.2.2.2.1 v.2.2.2.2.2.1 v.2.2.2.2.2.2)
def qoT (v:qdj):Option (Nat × qdj):=qay (qap (fun v=>(qi2 v).ev) v)
theorem qsl (v):qoT v = qap (fun v=>(qi2 v).ev) v:=qaa _
def qBL:qbz:=LE (τ:=qdj) (hD qA5) (qoT) q0O
theorem q0h:Go.Eng.Told IP (qae q1m 0).1 (qae q1m 0).2 (qBL):=lp (inferInstance:Inhabited qdj) (hs:=qA5) qi2 qIt qsl
abbrev qGw:Type:=Int × Int × List UInt8 × Int
def qME:PArgs:=⟨[.str],[]⟩
def qOk:List PRes:=[⟨false,.tup [.agg [.int .i64,.int .i64,.str],.int .i64],[]⟩]
def qmj (x0:List UInt8):DT qGw:=
 .br (inB x0.length 0)
 (.bi (qjH (IntKind.i32.wrap (qaO x0 0))) (fun y0=>
 .br (y0)
 (.bi (qwk x0) (fun y1=>
 .bi (qn2 y1) (fun y2=>
 .br (y2)
 (.at ((5,0,y1,0)))
 (.br (decide ((y1.length:Int) > 16)) (.at ((0,0,[],4))) (.at ((1,0,y1,0)))))
 (.no))
 (.no))
 (.bi (qfC (IntKind.i32.wrap (qaO x0 0))) (fun y1=>
 .br (y1)
 (.bi (qwl x0) (fun y2=>
 .bi (qnK y2) (fun y3=>
 .at ((y3.1,y3.2.1,y3.2.2.1,y3.2.2.2)))
 (.no))
 (.no))
 (.bi (qnQ) (fun y2=>
 .bi (pj 0 (qoT (x0,y2,(y2.length:Int),0,0,0,[]))) (fun y3=>
 .at ((4,0,strOf (cellAt y3.2.1 y3.2.2.2.1 0),0)))
 (.bi (pj 1 (qoT (x0,y2,(y2.length:Int),0,0,0,[]))) (fun y3=>
 .at ((0,0,[],2)))
 (.no)))
 (.no)))
 (.no)))
 (.no))
 (.no)
def qc9 (x0:List UInt8):Option qGw:=qay (qmj x0).ev
theorem qDG (x0):qc9 x0 = (qmj x0).ev:=qaa _
theorem qYr:FH IP 153 qME qOk qc9:=qag (F:=q1m) (L:=[(1015300,qBL)]) (t:=qmj) qIt (qab (l:=[qae q1m 0]) (by kernel_rfl) ⟨qas (by kernel_rfl) q0h,trivial⟩) (by kernel_rfl) (fun v=>by kernel_rfl) (fun _=>qaa _)
def T50:Tab:=(153,FE qME qOk qc9) :: T49
theorem qIu:qai IP T50:=⟨qaj qYr,qIt⟩
abbrev qc6:Type:=(List UInt8 × Int) ⊕ (List UInt8 × Int × List AV)
def qKi:List PSt:=[⟨[(1013400,.junk),(0,.str),(5,.nils 3),(6,.int .i64)],[],0,0⟩,⟨[(1013400,.junk),(0,.str),(5,.own 0 0),(6,.int .i64)],[(0,.arr 3 false)],1,0⟩]
def qSG (x0:List UInt8) (x1:Int):X × St:=(.ret,⟨[(2,.nils ⟨3,.nil⟩),(3,.int .i64 0),(4,.int .i64 0)],[],0,0⟩)
def qSH (x0:List UInt8) (x1:Int):X × St:=(.ret,
 ⟨[(2,.nils ⟨3,.nil⟩),(3,.int .i64 (IntKind.i64.wrap (x1 + ((Lib.countByte (List.take (gv (qbv x0)).toNat x0) 10):Int)))),
 (4,.int .i64 (gv (qc9 (List.drop (gv (qbv x0)).toNat x0))).2.2.2)],[],0,0⟩)
def qSI (x0:List UInt8) (x1:Int) (x2:List AV):X × St:=(.ret,⟨[(2,.own 0 0 none),(3,.int .i64 0),(4,.int .i64 0)],[(0,.arr 3 x2 false)],1,0⟩)
def qSJ (x0:List UInt8) (x1:Int) (x2:List AV):X × St:=(.ret,
 ⟨[(2,.nils ⟨3,.nil⟩),(3,.int .i64 (IntKind.i64.wrap (x1 + ((Lib.countByte (List.take (gv (qbv x0)).toNat x0) 10):Int)))),
 (4,.int .i64 (gv (qc9 (List.drop (gv (qbv x0)).toNat x0))).2.2.2)],[],0,0⟩)
def q4R:List (qc6 -> X × St):=[fun w=>(k2 qSG) ((sl w)),fun w=>(k2 qSH) ((sl w)),fun w=>(k3 qSI) ((sr w)),fun w=>(k3 qSJ) ((sr w))]
def qjf (x0:List UInt8) (x1:Int):DT (Rd qc6):=
 .bi (qbv x0) (fun y0=>
 .br (leB y0 x0.length && true)
 (.br (leB y0 x0.length)
 (.br (List.drop y0.toNat x0 == [])
 (.at (.done 0))
 (.bi (qc9 (List.drop y0.toNat x0)) (fun y1=>
 .br (y1.2.2.2 != 0)
 (.at (.done 1))
 (.br (leB (y1.2.2.1.length:Int) (List.drop y0.toNat x0).length)
 (.at (.next ((.inr (List.drop (y1.2.2.1.length:Int).toNat (List.drop y0.toNat x0),IntKind.i64.wrap (x1 + ((Lib.countByte (List.take y0.toNat x0) 10):Int)),[AV.agg [.int .i64 y1.1,.int .i64 (IntKind.i64.wrap (x1 + ((Lib.countByte (List.take y0.toNat x0) 10):Int))),AV.str y1.2.2.1]])))))
 (.no)))
 (.no)))
 (.no))
 (.no))
 (.no)
def qjg (x0:List UInt8) (x1:Int) (x2:List AV):DT (Rd qc6):=
 .bi (qbv x0) (fun y0=>
 .br (leB y0 x0.length && true)
 (.br (leB y0 x0.length)
 (.br (List.drop y0.toNat x0 == [])
 (.at (.done 2))
 (.bi (qc9 (List.drop y0.toNat x0)) (fun y1=>
 .br (y1.2.2.2 != 0)
 (.at (.done 3))
 (.br (room (x2.length + 1) 32)
 (.br (leB (y1.2.2.1.length:Int) (List.drop y0.toNat x0).length)
 (.at (.next ((.inr (List.drop (y1.2.2.1.length:Int).toNat (List.drop y0.toNat x0),IntKind.i64.wrap (x1 + ((Lib.countByte (List.take y0.toNat x0) 10):Int)),x2 ++ [AV.agg [.int .i64 y1.1,.int .i64 (IntKind.i64.wrap (x1 + ((Lib.countByte (List.take y0.toNat x0) 10):Int))),AV.str y1.2.2.1]])))))
 (.no))
 (.no)))
 (.no)))
 (.no))
 (.no))
 (.no)
def qez:qc6 -> DT (Rd qc6):=(Sum.elim (fun v=>qjf v.1 v.2) (fun v=>qjg v.1 v.2.1 v.2.2))
def qk8 (v:qc6):Option (Nat × qc6):=qay (qap (fun v=>(qez v).ev) v)
theorem qo7 (v):qk8 v = qap (fun v=>(qez v).ev) v:=qaa _
def qK2:qbz:=LE (τ:=qc6) (hD qKi) (qk8) q4R
theorem q4d:Go.Eng.Told IP (qae q1k 0).1 (qae q1k 0).2 (qK2):=qar (inferInstance:Inhabited qc6) (hs:=qKi) (st:=qez) (L:=[]) qIu (qab (l:=[]) (by kernel_rfl) trivial) (qo7) (fun v=>match v with | (.inl v)=>by kernel_rfl | (.inr v)=>by kernel_rfl) (fun v=>match v with | (.inl v)=>by kernel_rfl | (.inr v)=>by kernel_rfl)
abbrev qHl:Type:=List AV × Int × Int
def qV8:PArgs:=⟨[.str],[]⟩
def qWU:List PRes:=[⟨false,.tup [.view 3,.int .i64,.int .i64],[]⟩]
def qvb (x0:List UInt8):DT qHl:=
 .br (decide ((x0.length:Int) > 2048))
 (.at (([],0,5)))
 (.bi (pj 0 (qk8 (Sum.inl (x0,1)))) (fun y0=>
 .at (([],0,0)))
 (.bi (pj 1 (qk8 (Sum.inl (x0,1)))) (fun y0=>
 .at (([],IntKind.i64.wrap ((sl y0).2 + ((Lib.countByte (List.take (gv (qbv (sl y0).1)).toNat (sl y0).1) 10):Int)),(gv (qc9 (List.drop (gv (qbv (sl y0).1)).toNat (sl y0).1))).2.2.2)))
 (.bi (pj 2 (qk8 (Sum.inl (x0,1)))) (fun y0=>
 .at (((sr y0).2.2,0,0)))
 (.bi (pj 3 (qk8 (Sum.inl (x0,1)))) (fun y0=>
 .at (([],IntKind.i64.wrap ((sr y0).2.1 + ((Lib.countByte (List.take (gv (qbv (sr y0).1)).toNat (sr y0).1) 10):Int)),(gv (qc9 (List.drop (gv (qbv (sr y0).1)).toNat (sr y0).1))).2.2.2)))
 (.no)))))
def qwg (x0:List UInt8):Option qHl:=qay (qvb x0).ev
theorem qJz (x0):qwg x0 = (qvb x0).ev:=qaa _
theorem q2B:FH IP 134 qV8 qWU qwg:=qag (F:=q1k) (L:=[(1013400,qK2)]) (t:=qvb) qIu (qab (l:=[qae q1k 0]) (by kernel_rfl) ⟨qas (by kernel_rfl) q4d,trivial⟩) (by kernel_rfl) (fun v=>by kernel_rfl) (fun _=>qaa _)
def T51:Tab:=(134,FE qV8 qWU qwg) :: T50
theorem qUF:qai IP T51:=⟨qaj q2B,qIu⟩
abbrev qTZ:Type:=Bool
def qWf:PArgs:=⟨[.str],[]⟩
def qW1:List PRes:=[⟨false,.bool,[]⟩]
def qvi (x0:List UInt8):DT qTZ:=
 .bi (qwg x0) (fun y0=>
 .bi (br (y0.2.2 == 0) (some ((y0.1.length:Int) == 1)) (some false)) (fun y1=>
 .bi (br y1 (br (qaD [.int .i64,.int .i64,.str] y0.1 0) (some (intOf (cellAt y0.1 0 0) == 1)) none) (some false)) (fun y2=>
 .bi (br y2 (br (qaD [.int .i64,.int .i64,.str] y0.1 0) (some (strOf (cellAt y0.1 0 2) == x0)) none) (some false)) (fun y3=>
 .at (y3))
 (.no))
 (.no))
 (.no))
 (.no)
def qrW (x0:List UInt8):Option qTZ:=qay (qvi x0).ev
theorem qJG (x0):qrW x0 = (qvi x0).ev:=qaa _
theorem q2J:FH IP 111 qWf qW1 qrW:=fh q5L qvi qUF
def T52:Tab:=(111,FE qWf qW1 qrW) :: T51
theorem qUG:qai IP T52:=⟨qaj q2J,qUF⟩
abbrev qGr:Type:=Bool
def qMz:PArgs:=⟨[.agg [.int .i64,.int .i64,.str,.view 4]],[]⟩
def qOf:List PRes:=[⟨false,.bool,[]⟩]
def qme (x0 x1:Int) (x2:List UInt8) (x3:List AV):DT qGr:=
 .bi (br (x0 != 4) (some true) (br (sm (qrW x2)) (some (gv (qrW x2))) none)) (fun y0=>
 .at (y0))
 (.no)
def qnY (x0 x1:Int) (x2:List UInt8) (x3:List AV):Option qGr:=qay (qme x0 x1 x2 x3).ev
theorem qDB (x0 x1 x2 x3):qnY x0 x1 x2 x3 = (qme x0 x1 x2 x3).ev:=qaa _
theorem qYm:FH IP 88 qMz qOf (k4 qnY):=fh F88 (k4 qme) qUG
def T53:Tab:=(88,FE qMz qOf (k4 qnY)) :: T52
theorem qUH:qai IP T53:=⟨qaj qYm,qUG⟩
abbrev qyk:Type:=Bool
def qpm:PArgs:=⟨[.agg [.int .i64,.int .i64,.str,.view 4],.fn (.func 88) []],[]⟩
def qpC:List PRes:=[⟨false,.bool,[]⟩]
abbrev qbw:Type:=Int -> Int -> (List UInt8) -> (List AV) -> Option qyk
abbrev qXn:Type:=Bool
def qNv:PArgs:=⟨[.view 4,.fn (.func 109) [.ptr [.fn (.func 88) []]]],[]⟩
def qPb:List PRes:=[⟨false,.bool,[]⟩]
abbrev qd8:Type:=(List AV) -> Option qXn
abbrev qF2:Type:=Int
def qxy:PArgs:=⟨[.view 4,.fn (.func 109) [.ptr [.fn (.func 88) []]]],[]⟩
def qxD:List PRes:=[⟨false,.int .i64,[]⟩]
abbrev qca:Type:=(List AV) -> Option qF2
abbrev qHm:Type:=Bool
def qxB:PArgs:=⟨[.agg [.int .i64,.int .i64,.str,.view 4],.ptr [.fn (.func 88) []]],[]⟩
def qxG:List PRes:=[⟨false,.bool,[]⟩]
abbrev qci:Type:=Int -> Int -> (List UInt8) -> (List AV) -> Option qHm
def qs7 (G_u135q:qbw) (G_u8q:qd8) (G_u12q:qca) (G_u71q:qci):Prop:=FH IP 86 qpm qpC (k4 G_u135q) /\ FH IP 108 qNv qPb G_u8q /\ FH IP 133 qxy qxD G_u12q /\ FH IP 109 qxB qxG (k4 G_u71q)
def qQV (G_u135q:qbw) (G_u8q:qd8) (G_u12q:qca) (G_u71q:qci):Tab:=(86,FE qpm qpC (k4 G_u135q)) :: (108,FE qNv qPb G_u8q) :: (133,FE qxy qxD G_u12q) :: (109,FE qxB qxG (k4 G_u71q)) :: T53
theorem qdC (G_u135q:qbw) (G_u8q:qd8) (G_u12q:qca) (G_u71q:qci) (hG:qs7 G_u135q G_u8q G_u12q G_u71q):qai IP (qQV G_u135q G_u8q G_u12q G_u71q):=⟨qaj (hG.1),qaj (hG.2.1),qaj (hG.2.2.1),qaj (hG.2.2.2),qUH⟩
abbrev qeY:Type:=List AV × Int × Int
def qJ7:List PSt:=[⟨[(1013300,.junk),(0,.view 4),(1,.fn (.func 109) [.ptr [.fn (.func 88) []]]),(7,.int .i64),(8,.int .i64)],[],0,0⟩]
def qSj (x0:List AV) (x1 x2:Int):X × St:=(.ret,⟨[(4,.int .i64 x2)],[],0,0⟩)
def qSk (x0:List AV) (x1 x2:Int):X × St:=(.exit 0,⟨[(4,.junk)],[],0,0⟩)
def q4G:List (qeY -> X × St):=[(k3 qSj),(k3 qSk)]
def qp4 (G_u135q:qbw) (G_u8q:qd8) (G_u12q:qca) (G_u71q:qci) (x0:List AV) (x1 x2:Int):DT (Rd qeY):=
 .br (decide (x2 < x1))
 (.br (qaD [.int .i64,.int .i64,.str,.slice 4] x0 x2)
 (.bi (G_u71q (intOf (cellAt x0 x2 0)) (intOf (cellAt x0 x2 1)) (strOf (cellAt x0 x2 2)) (qaq (cellAt x0 x2 3))) (fun y0=>
 .br (y0) (.at (.done 0)) (.at (.next ((x0,x1,IntKind.i64.wrap (x2 + 1))))))
 (.no))
 (.no))
 (.at (.done 1))
def qp3 (G_u135q:qbw) (G_u8q:qd8) (G_u12q:qca) (G_u71q:qci):qeY -> DT (Rd qeY):=(fun v=>qp4 G_u135q G_u8q G_u12q G_u71q v.1 v.2.1 v.2.2)
def qww (G_u135q:qbw) (G_u8q:qd8) (G_u12q:qca) (G_u71q:qci) (v:qeY):Option (Nat × qeY):=qay (qap (fun v=>(qp3 G_u135q G_u8q G_u12q G_u71q v).ev) v)
theorem qwx (G_u135q G_u8q G_u12q G_u71q v):qww G_u135q G_u8q G_u12q G_u71q v = qap (fun v=>(qp3 G_u135q G_u8q G_u12q G_u71q v).ev) v:=qaa _
def qKR (G_u135q:qbw) (G_u8q:qd8) (G_u12q:qca) (G_u71q:qci):qbz:=LE (τ:=qeY) (hD qJ7) (qww G_u135q G_u8q G_u12q G_u71q) q4G
theorem q32 (G_u135q:qbw) (G_u8q:qd8) (G_u12q:qca) (G_u71q:qci) (hG:qs7 G_u135q G_u8q G_u12q G_u71q):Go.Eng.Told IP (qae qQM 0).1 (qae qQM 0).2 (qKR G_u135q G_u8q G_u12q G_u71q):=qar (inferInstance:Inhabited qeY) (hs:=qJ7) (st:=qp3 G_u135q G_u8q G_u12q G_u71q) (L:=[]) (qdC G_u135q G_u8q G_u12q G_u71q hG) (qab (l:=[]) (by kernel_rfl) trivial) (qwx G_u135q G_u8q G_u12q G_u71q) (fun v=>by kernel_rfl) (fun v=>by kernel_rfl)
def quF (G_u135q:qbw) (G_u8q:qd8) (G_u12q:qca) (G_u71q:qci) (x0 x1:Int) (x2:List UInt8) (x3:List AV):DT qyk:=
 .bi (qnY x0 x1 x2 x3) (fun y0=>
 .bi (br y0 (br (sm (G_u8q x3)) (some !gv (G_u8q x3)) none) (some false)) (fun y1=>
 .at (y1))
 (.no))
 (.no)
def qPD (G_u135q:qbw) (G_u8q:qd8) (G_u12q:qca) (G_u71q:qci) (x0:List AV):DT qXn:=
 .bi (G_u12q x0) (fun y0=>
 .at (decide (y0 >= 0)))
 (.no)
def qAx (G_u135q:qbw) (G_u8q:qd8) (G_u12q:qca) (G_u71q:qci) (x0:List AV):DT qF2:=
 .bi (pj 0
 (qww G_u135q G_u8q G_u12q G_u71q
 (x0,(x0.length:Int),0))) (fun y0=>
 .at (y0.2.2))
 (.bi (pj 1
 (qww G_u135q G_u8q G_u12q G_u71q
 (x0,(x0.length:Int),0))) (fun y0=>
 .at (-1))
 (.no))
def qAA (G_u135q:qbw) (G_u8q:qd8) (G_u12q:qca) (G_u71q:qci) (x0 x1:Int) (x2:List UInt8) (x3:List AV):DT qHm:=
 .bi (G_u135q x0 x1 x2 x3) (fun y0=>
 .at (!y0))
 (.no)
end
end Go.Proofs.H15p

/- Functions over plain data. Printed by a program of mine. -/
import Derived.Test.YtjhhnkemeegahaaGreatDoorD16_5
import Derived.KernelRfl
set_option linter.all false
namespace Go.Proofs.H16
open Go Go.Eng
set_option maxRecDepth 100000
noncomputable section
abbrev qfw:Type:=Int×List AV×Int×Int
def qJ7:List PSt:=[⟨[(1018500,.junk),(0,.int .i64),(7,.view 1),(8,.int .i64),(9,.int .i64)],[],0,0⟩]
def q3F(x0:Int)(x1:List AV)(x2 x3:Int):X×St:=(.ret,
 ⟨[(2,
 .str
 (strOf
 (cellAt (gv (pj 0 (qgB (x0,x1,x2,x3,qaq (cellAt x1 x3 0),((qaq (cellAt x1 x3 0)).length:Int),0)))).f.1
 (gv (pj 0 (qgB (x0,x1,x2,x3,qaq (cellAt x1 x3 0),((qaq (cellAt x1 x3 0)).length:Int),0)))).f.2.2 0)))],[],0,0⟩)
def q3G(x0:Int)(x1:List AV)(x2 x3:Int):X×St:=(.exit 0,⟨[(2,.junk)],[],0,0⟩)
def zhU:List (qfw->X×St):=[(k4 q3F),(k4 q3G)]
def qpn(x0:Int)(x1:List AV)(x2 x3:Int):DT (Rd qfw):=
 .br (decide (x3<x2))
 (.br (qaH [.slice 2] x1 x3)
 (.bi (pj 0 (qgB (x0,x1,x2,x3,qaq (cellAt x1 x3 0),((qaq (cellAt x1 x3 0)).length:Int),0))) (fun y0=>
 .at (.done 0))
 (.bi (pj 1 (qgB (x0,x1,x2,x3,qaq (cellAt x1 x3 0),((qaq (cellAt x1 x3 0)).length:Int),0))) (fun y0=>
 .at (.next ((y0.1,y0.2.1,y0.2.2.1,IntKind.i64.wrap (y0.2.2.2.1+1)))))
 (.no)))
 (.no))
 (.at (.done 1))
def qnA:qfw->DT (Rd qfw):=(fun v=>qpn v.1 v.2.1 v.2.2.1 v.2.2.2)
def quh(v:qfw):Option (Nat×qfw):=qaz (qaf (fun v=>(qnA v).ev) v)
theorem qxJ(v):quh v=qaf (fun v=>(qnA v).ev) v:=qaa _
def qLl:qbQ:=LE (τ:=qfw) (hD qJ7) (quh) zhU
theorem zgM:Go.Eng.Told IP (qad q4d 0).1 (qad q4d 0).2 (qLl):=qav (inferInstance:Inhabited qfw) (hs:=qJ7) (st:=qnA) (L:=[(1018501,qzX)]) qIP (qac (l:=[qad q4d 1]) (by kernel_rfl) ⟨qau (by kernel_rfl) q1Q,trivial⟩) (qxJ) (fun v=>by kernel_rfl) (fun v=>by kernel_rfl)
abbrev qRa:Type:=List UInt8
def qYw:PArgs:=⟨[.int .i64],[]⟩
def q0R:List PRes:=[⟨false,.str,[]⟩]
def qrV(x0:Int):DT qRa:=
 .bi (ql6) (fun y0=>
 .bi (pj 0 (quh (x0,y0,(y0.length:Int),0))) (fun y1=>
 .at (strOf
 (cellAt
 (gv
 (pj 0
 (qgB
 (y1.1,y1.2.1,y1.2.2.1,y1.2.2.2,qaq (cellAt y1.2.1 y1.2.2.2 0),((qaq (cellAt y1.2.1 y1.2.2.2 0)).length:Int),
 0)))).f.1
 (gv
 (pj 0
 (qgB
 (y1.1,y1.2.1,y1.2.2.1,y1.2.2.2,qaq (cellAt y1.2.1 y1.2.2.2 0),
 ((qaq (cellAt y1.2.1 y1.2.2.2 0)).length:Int),0)))).f.2.2
 0)))
 (.bi (pj 1 (quh (x0,y0,(y0.length:Int),0))) (fun y1=>
 .at ([]))
 (.no)))
 (.no)
def qch(x0:Int):Option qRa:=qaz (qrV x0).ev
theorem qOg(x0):qch x0=(qrV x0).ev:=qaa _
theorem zd3:FH IP 185 qYw q0R qch:=qah (F:=q4d) (L:=[(1018500,qLl),(1018501,qzX)]) (t:=qrV) qIP (qac (l:=[qad q4d 0,qad q4d 1]) (by kernel_rfl) ⟨qau (by kernel_rfl) zgM,qau (by kernel_rfl) q1Q,trivial⟩) (by kernel_rfl) (fun v=>by kernel_rfl) (fun _=>qaa _)
def T92:Tab:=(185,FE qYw q0R qch)::T91
theorem q82:qan IP T92:=⟨qam zd3,qIP⟩
abbrev qRH:Type:=List AV
def qDX:PArgs:=⟨[.ref 0 0 0,.agg [.int .i64,.int .i64,.str,.view 4],.int .i64],[(0,.box [.own 1 0] false),(1,.arr 3 false)]⟩
def qEc:List PRes:=[⟨false,.tup [],[(0,.box [.own 2 0] false),(2,.arr 3 false)]⟩]
abbrev qlQ:Type:=Int->Int->(List UInt8)->(List AV)->Int->(List AV)->Option qRH
abbrev qIL:Type:=List AV
def qD1:PArgs:=⟨[.ref 0 0 0,.agg [.int .i64,.int .i64,.str,.view 4]],[(0,.box [.own 1 0] false),(1,.arr 3 false)]⟩
def qEg:List PRes:=[⟨false,.tup [],[(0,.box [.own 2 0] false),(2,.arr 3 false)]⟩]
abbrev qlR:Type:=Int->Int->(List UInt8)->(List AV)->(List AV)->Option qIL
abbrev qRG:Type:=List AV
def qDW:PArgs:=⟨[.ref 0 0 0,.agg [.int .i64,.int .i64,.str,.view 4]],[(0,.box [.own 1 0] false),(1,.arr 3 false)]⟩
def qEb:List PRes:=[⟨false,.tup [],[(0,.box [.own 2 0] false),(2,.arr 3 false)]⟩]
abbrev qlP:Type:=Int->Int->(List UInt8)->(List AV)->(List AV)->Option qRG
def qRS(G_u44q:qlQ)(G_u67q:qlR)(G_u36q:qlP):Prop:=FH IP 182 qDX qEc (k6 G_u44q)/\FH IP 124 qD1 qEg (k5 G_u67q)/\FH IP 184 qDW qEb (k5 G_u36q)
def zb9(G_u44q:qlQ)(G_u67q:qlR)(G_u36q:qlP):Tab:=(182,FE qDX qEc (k6 G_u44q))::(124,FE qD1 qEg (k5 G_u67q))::(184,FE qDW qEb (k5 G_u36q))::T92
theorem qn1(G_u44q:qlQ)(G_u67q:qlR)(G_u36q:qlP)(hG:qRS G_u44q G_u67q G_u36q):qan IP (zb9 G_u44q G_u67q G_u36q):=⟨qam (hG.1),qam (hG.2.1),qam (hG.2.2),q82⟩
def qpG(G_u44q:qlQ)(G_u67q:qlR)(G_u36q:qlP)(x0 x1:Int)(x2:List UInt8)(x3:List AV)(x4:Int)(x5:List AV):DT qRH:=
 .bi (qa5 x0) (fun y0=>
 .br (decide (y0>=x4))
 (.bi (G_u67q x0 x1 x2 x3 x5) (fun y1=>
 .at (y1))
 (.no))
 (.bi (qbi [40] x5) (fun y1=>
 .bi (G_u67q x0 x1 x2 x3 y1) (fun y2=>
 .bi (qbi [41] y2) (fun y3=>
 .at (y3))
 (.no))
 (.no))
 (.no)))
 (.no)
def qBQ(G_u44q:qlQ)(G_u67q:qlR)(G_u36q:qlP)(x0 x1:Int)(x2:List UInt8)(x3 x4:List AV):DT qIL:=
 .br (x0==1)
 (.br (decide (-9223372036854775808<=x1)&&decide (x1<=9223372036854775807))
 (.bi (qjV 2 (Lib.itoa x1) x4) (fun y0=>
 .at (y0))
 (.no))
 (.no))
 (.br (x0==2)
 (.bi (qbi [36] x4) (fun y0=>
 .br (decide (-9223372036854775808<=x1)&&decide (x1<=9223372036854775807))
 (.bi (qjV 2 (Lib.itoa x1) y0) (fun y1=>
 .at (y1))
 (.no))
 (.no))
 (.no))
 (.br (x0==3)
 (.bi (qlZ x1) (fun y0=>
 .bi (qjV 3 y0.1 x4) (fun y1=>
 .at (y1))
 (.no))
 (.no))
 (.br (x0==4)
 (.bi (qjV 1 x2 x4) (fun y0=>
 .at (y0))
 (.no))
 (.br (x0==9)
 (.bi (qbi [45] x4) (fun y0=>
 .br (qaH [.int .i64,.int .i64,.str,.slice 4] x3 0)
 (.bi (qa5 x0) (fun y1=>
 .bi (G_u44q (intOf (cellAt x3 0 0)) (intOf (cellAt x3 0 1)) (strOf (cellAt x3 0 2)) (qaq (cellAt x3 0 3)) y1 y0) (fun y2=>
 .at (y2))
 (.no))
 (.no))
 (.no))
 (.no))
 (.br (x0==16)
 (.bi (qbi [110,111,116] x4) (fun y0=>
 .br (qaH [.int .i64,.int .i64,.str,.slice 4] x3 0)
 (.bi (qa5 x0) (fun y1=>
 .bi (G_u44q (intOf (cellAt x3 0 0)) (intOf (cellAt x3 0 1)) (strOf (cellAt x3 0 2)) (qaq (cellAt x3 0 3)) y1 y0) (fun y2=>
 .at (y2))
 (.no))
 (.no))
 (.no))
 (.no))
 (.br (x0==17)
 (.br (x0==17)
 (.bi (G_u36q x0 x1 x2 x3 x4) (fun y0=>
 .at (y0))
 (.no))
 (.bi (qa5 x0) (fun y0=>
 .bi (qa5 10) (fun y1=>
 .br (y0==y1)
 (.br (qaH [.int .i64,.int .i64,.str,.slice 4] x3 0)
 (.bi (G_u44q (intOf (cellAt x3 0 0)) (intOf (cellAt x3 0 1)) (strOf (cellAt x3 0 2)) (qaq (cellAt x3 0 3)) (IntKind.i64.wrap (y0+1)) x4) (fun y2=>
 .bi (qch x0) (fun y3=>
 .bi (qbi y3 y2) (fun y4=>
 .br (qaH [.int .i64,.int .i64,.str,.slice 4] x3 1)
 (.bi (qa5 x0) (fun y5=>
 .bi (G_u44q (intOf (cellAt x3 1 0)) (intOf (cellAt x3 1 1)) (strOf (cellAt x3 1 2)) (qaq (cellAt x3 1 3)) (IntKind.i64.wrap (y5+1)) y4) (fun y6=>
 .at (y6))
 (.no))
 (.no))
 (.no))
 (.no))
 (.no))
 (.no))
 (.no))
 (.br (qaH [.int .i64,.int .i64,.str,.slice 4] x3 0)
 (.bi (G_u44q (intOf (cellAt x3 0 0)) (intOf (cellAt x3 0 1)) (strOf (cellAt x3 0 2)) (qaq (cellAt x3 0 3)) y0 x4) (fun y2=>
 .bi (qch x0) (fun y3=>
 .bi (qbi y3 y2) (fun y4=>
 .br (qaH [.int .i64,.int .i64,.str,.slice 4] x3 1)
 (.bi (qa5 x0) (fun y5=>
 .bi (G_u44q (intOf (cellAt x3 1 0)) (intOf (cellAt x3 1 1)) (strOf (cellAt x3 1 2)) (qaq (cellAt x3 1 3)) (IntKind.i64.wrap (y5+1)) y4) (fun y6=>
 .at (y6))
 (.no))
 (.no))
 (.no))
 (.no))
 (.no))
 (.no))
 (.no)))
 (.no))
 (.no)))
 (.br (x0==18)
 (.br (x0==18)
 (.bi (G_u36q x0 x1 x2 x3 x4) (fun y0=>
 .at (y0))
 (.no))
 (.bi (qa5 x0) (fun y0=>
 .bi (qa5 10) (fun y1=>
 .br (y0==y1)
 (.br (qaH [.int .i64,.int .i64,.str,.slice 4] x3 0)
 (.bi (G_u44q (intOf (cellAt x3 0 0)) (intOf (cellAt x3 0 1)) (strOf (cellAt x3 0 2)) (qaq (cellAt x3 0 3)) (IntKind.i64.wrap (y0+1)) x4) (fun y2=>
 .bi (qch x0) (fun y3=>
 .bi (qbi y3 y2) (fun y4=>
 .br (qaH [.int .i64,.int .i64,.str,.slice 4] x3 1)
 (.bi (qa5 x0) (fun y5=>
 .bi (G_u44q (intOf (cellAt x3 1 0)) (intOf (cellAt x3 1 1)) (strOf (cellAt x3 1 2)) (qaq (cellAt x3 1 3)) (IntKind.i64.wrap (y5+1)) y4) (fun y6=>
 .at (y6))
 (.no))
 (.no))
 (.no))
 (.no))
 (.no))
 (.no))
 (.no))
 (.br (qaH [.int .i64,.int .i64,.str,.slice 4] x3 0)
 (.bi (G_u44q (intOf (cellAt x3 0 0)) (intOf (cellAt x3 0 1)) (strOf (cellAt x3 0 2)) (qaq (cellAt x3 0 3)) y0 x4) (fun y2=>
 .bi (qch x0) (fun y3=>
 .bi (qbi y3 y2) (fun y4=>
 .br (qaH [.int .i64,.int .i64,.str,.slice 4] x3 1)
 (.bi (qa5 x0) (fun y5=>
 .bi (G_u44q (intOf (cellAt x3 1 0)) (intOf (cellAt x3 1 1)) (strOf (cellAt x3 1 2)) (qaq (cellAt x3 1 3)) (IntKind.i64.wrap (y5+1)) y4) (fun y6=>
 .at (y6))
 (.no))
 (.no))
 (.no))
 (.no))
 (.no))
 (.no))
 (.no)))
 (.no))
 (.no)))
 (.br (x0==19)
 (.bi (G_u36q x0 x1 x2 x3 x4) (fun y0=>
 .at (y0))
 (.no))
 (.bi (qa5 x0) (fun y0=>
 .bi (qa5 10) (fun y1=>
 .br (y0==y1)
 (.br (qaH [.int .i64,.int .i64,.str,.slice 4] x3 0)
 (.bi (G_u44q (intOf (cellAt x3 0 0)) (intOf (cellAt x3 0 1)) (strOf (cellAt x3 0 2)) (qaq (cellAt x3 0 3)) (IntKind.i64.wrap (y0+1)) x4) (fun y2=>
 .bi (qch x0) (fun y3=>
 .bi (qbi y3 y2) (fun y4=>
 .br (qaH [.int .i64,.int .i64,.str,.slice 4] x3 1)
 (.bi (qa5 x0) (fun y5=>
 .bi (G_u44q (intOf (cellAt x3 1 0)) (intOf (cellAt x3 1 1)) (strOf (cellAt x3 1 2)) (qaq (cellAt x3 1 3)) (IntKind.i64.wrap (y5+1)) y4) (fun y6=>
 .at (y6))
 (.no))
 (.no))
 (.no))
 (.no))
 (.no))
 (.no))
 (.no))
 (.br (qaH [.int .i64,.int .i64,.str,.slice 4] x3 0)
 (.bi (G_u44q (intOf (cellAt x3 0 0)) (intOf (cellAt x3 0 1)) (strOf (cellAt x3 0 2)) (qaq (cellAt x3 0 3)) y0 x4) (fun y2=>
 .bi (qch x0) (fun y3=>
 .bi (qbi y3 y2) (fun y4=>
 .br (qaH [.int .i64,.int .i64,.str,.slice 4] x3 1)
 (.bi (qa5 x0) (fun y5=>
 .bi (G_u44q (intOf (cellAt x3 1 0)) (intOf (cellAt x3 1 1)) (strOf (cellAt x3 1 2)) (qaq (cellAt x3 1 3)) (IntKind.i64.wrap (y5+1)) y4) (fun y6=>
 .at (y6))
 (.no))
 (.no))
 (.no))
 (.no))
 (.no))
 (.no))
 (.no)))
 (.no))
 (.no))))))))))
def qkD(G_u44q:qlQ)(G_u67q:qlR)(G_u36q:qlP)(x0 x1:Int)(x2:List UInt8)(x3 x4:List AV):DT qRG:=
 .br (x0==18)
 (.bi (qbi [109,97,120] x4) (fun y0=>
 .bi (qbi [40] y0) (fun y1=>
 .br (qaH [.int .i64,.int .i64,.str,.slice 4] x3 0)
 (.bi (G_u44q (intOf (cellAt x3 0 0)) (intOf (cellAt x3 0 1)) (strOf (cellAt x3 0 2)) (qaq (cellAt x3 0 3)) 0 y1) (fun y2=>
 .bi (qbi [44] y2) (fun y3=>
 .br (qaH [.int .i64,.int .i64,.str,.slice 4] x3 1)
 (.bi (G_u44q (intOf (cellAt x3 1 0)) (intOf (cellAt x3 1 1)) (strOf (cellAt x3 1 2)) (qaq (cellAt x3 1 3)) 0 y3) (fun y4=>
 .bi (qbi [41] y4) (fun y5=>
 .br (x0==19)
 (.br (qaH [.int .i64,.int .i64,.str,.slice 4] x3 2)
 (.bi (G_u44q (intOf (cellAt x3 2 0)) (intOf (cellAt x3 2 1)) (strOf (cellAt x3 2 2)) (qaq (cellAt x3 2 3)) 0 y5) (fun y6=>
 .at (y6))
 (.no))
 (.no))
 (.at (y5)))
 (.no))
 (.no))
 (.no))
 (.no))
 (.no))
 (.no))
 (.no))
 (.no))
 (.br (x0==19)
 (.bi (qbi [105,102] x4) (fun y0=>
 .br (qaH [.int .i64,.int .i64,.str,.slice 4] x3 0)
 (.bi (G_u44q (intOf (cellAt x3 0 0)) (intOf (cellAt x3 0 1)) (strOf (cellAt x3 0 2)) (qaq (cellAt x3 0 3)) 0 y0) (fun y1=>
 .bi (qbi [116,104,101,110] y1) (fun y2=>
 .br (qaH [.int .i64,.int .i64,.str,.slice 4] x3 1)
 (.bi (G_u44q (intOf (cellAt x3 1 0)) (intOf (cellAt x3 1 1)) (strOf (cellAt x3 1 2)) (qaq (cellAt x3 1 3)) 0 y2) (fun y3=>
 .bi (qbi [101,108,115,101] y3) (fun y4=>
 .br (x0==19)
 (.br (qaH [.int .i64,.int .i64,.str,.slice 4] x3 2)
 (.bi (G_u44q (intOf (cellAt x3 2 0)) (intOf (cellAt x3 2 1)) (strOf (cellAt x3 2 2)) (qaq (cellAt x3 2 3)) 0 y4) (fun y5=>
 .at (y5))
 (.no))
 (.no))
 (.at (y4)))
 (.no))
 (.no))
 (.no))
 (.no))
 (.no))
 (.no))
 (.no))
 (.bi (qbi [109,105,110] x4) (fun y0=>
 .bi (qbi [40] y0) (fun y1=>
 .br (qaH [.int .i64,.int .i64,.str,.slice 4] x3 0)
 (.bi (G_u44q (intOf (cellAt x3 0 0)) (intOf (cellAt x3 0 1)) (strOf (cellAt x3 0 2)) (qaq (cellAt x3 0 3)) 0 y1) (fun y2=>
 .bi (qbi [44] y2) (fun y3=>
 .br (qaH [.int .i64,.int .i64,.str,.slice 4] x3 1)
 (.bi (G_u44q (intOf (cellAt x3 1 0)) (intOf (cellAt x3 1 1)) (strOf (cellAt x3 1 2)) (qaq (cellAt x3 1 3)) 0 y3) (fun y4=>
 .bi (qbi [41] y4) (fun y5=>
 .br (x0==19)
 (.br (qaH [.int .i64,.int .i64,.str,.slice 4] x3 2)
 (.bi (G_u44q (intOf (cellAt x3 2 0)) (intOf (cellAt x3 2 1)) (strOf (cellAt x3 2 2)) (qaq (cellAt x3 2 3)) 0 y5) (fun y6=>
 .at (y6))
 (.no))
 (.no))
 (.at (y5)))
 (.no))
 (.no))
 (.no))
 (.no))
 (.no))
 (.no))
 (.no))
 (.no)))
def qaM:Nat->qlQ×qlR×qlP
 |0=>(fun _ _ _ _ _ _=>none,fun _ _ _ _ _=>none,fun _ _ _ _ _=>none)
 |n+1=>(fun x0 x1 x2 x3 x4 x5=>(qpG ((qaM n).1) ((qaM n).2.1) ((qaM n).2.2) x0 x1 x2 x3 x4 x5).ev,fun x0 x1 x2 x3 x4=>(qBQ ((qaM n).1) ((qaM n).2.1) ((qaM n).2.2) x0 x1 x2 x3 x4).ev,fun x0 x1 x2 x3 x4=>(qkD ((qaM n).1) ((qaM n).2.1) ((qaM n).2.2) x0 x1 x2 x3 x4).ev)
def qb5(x0 x1:Int)(x2:List UInt8)(x3:List AV)(x4:Int)(x5:List AV):Option qRH:=qjC fun n=>(qaM n).1 x0 x1 x2 x3 x4 x5
def qJm(x0 x1:Int)(x2:List UInt8)(x3 x4:List AV):Option qIL:=qjC fun n=>(qaM n).2.1 x0 x1 x2 x3 x4
def q9v(x0 x1:Int)(x2:List UInt8)(x3 x4:List AV):Option qRG:=qjC fun n=>(qaM n).2.2 x0 x1 x2 x3 x4
theorem qmL:∀n,qRS ((qaM n).1) ((qaM n).2.1) ((qaM n).2.2)
 |0=>⟨(fun v y h=>nomatch h),(fun v y h=>nomatch h),(fun v y h=>nomatch h)⟩
 |n+1=>have hG:=qmL n
 ⟨qah (F:=znB) (L:=[]) (t:=(k6 (qpG ((qaM n).1) ((qaM n).2.1) ((qaM n).2.2)))) (qn1 ((qaM n).1) ((qaM n).2.1) ((qaM n).2.2) hG) (qac (l:=[]) (by kernel_rfl) trivial) (by kernel_rfl) (fun v=>by kernel_rfl) (fun v=>rfl),qah (F:=znw) (L:=[]) (t:=(k5 (qBQ ((qaM n).1) ((qaM n).2.1) ((qaM n).2.2)))) (qn1 ((qaM n).1) ((qaM n).2.1) ((qaM n).2.2) hG) (qac (l:=[]) (by kernel_rfl) trivial) (by kernel_rfl) (fun v=>by kernel_rfl) (fun v=>rfl),qah (F:=znC) (L:=[]) (t:=(k5 (qkD ((qaM n).1) ((qaM n).2.1) ((qaM n).2.2)))) (qn1 ((qaM n).1) ((qaM n).2.1) ((qaM n).2.2) hG) (qac (l:=[]) (by kernel_rfl) trivial) (by kernel_rfl) (fun v=>by kernel_rfl) (fun v=>rfl)⟩
theorem zj8:FH IP 182 qDX qEc (k6 qb5):=qbL (p:=qDX) (rs:=qEc) (s:=fun n=>(k6 ((qaM n).1))) fun n=>(qmL n).1
theorem zkm:FH IP 124 qD1 qEg (k5 qJm):=qbL (p:=qD1) (rs:=qEg) (s:=fun n=>(k5 ((qaM n).2.1))) fun n=>(qmL n).2.1
theorem zj2:FH IP 184 qDW qEb (k5 q9v):=qbL (p:=qDW) (rs:=qEb) (s:=fun n=>(k5 ((qaM n).2.2))) fun n=>(qmL n).2.2
def T93:Tab:=(182,FE qDX qEc (k6 qb5))::T92
theorem zjy:qan IP T93:=⟨qam zj8,q82⟩
def T94:Tab:=(124,FE qD1 qEg (k5 qJm))::T93
theorem zjz:qan IP T94:=⟨qam zkm,zjy⟩
def T95:Tab:=(184,FE qDW qEb (k5 q9v))::T94
theorem q83:qan IP T95:=⟨qam zj2,zjz⟩
abbrev q7I:Type:=List AV
def zam:PArgs:=⟨[.ref 0 0 0,.agg [.int .i64,.int .i64,.str,.view 4]],[(0,.box [.nils 3] false)]⟩
def zbe:List PRes:=[⟨false,.tup [],[(0,.box [.own 1 0] false),(1,.arr 3 false)]⟩]
def qpH(x0 x1:Int)(x2:List UInt8)(x3:List AV):DT q7I:=
 .br (x0==18)
 (.bi (qjW [109,97,120]) (fun y0=>
 .bi (qbi [40] y0) (fun y1=>
 .br (qaH [.int .i64,.int .i64,.str,.slice 4] x3 0)
 (.bi (qb5 (intOf (cellAt x3 0 0)) (intOf (cellAt x3 0 1)) (strOf (cellAt x3 0 2)) (qaq (cellAt x3 0 3)) 0 y1) (fun y2=>
 .bi (qbi [44] y2) (fun y3=>
 .br (qaH [.int .i64,.int .i64,.str,.slice 4] x3 1)
 (.bi (qb5 (intOf (cellAt x3 1 0)) (intOf (cellAt x3 1 1)) (strOf (cellAt x3 1 2)) (qaq (cellAt x3 1 3)) 0 y3) (fun y4=>
 .bi (qbi [41] y4) (fun y5=>
 .br (x0==19)
 (.br (qaH [.int .i64,.int .i64,.str,.slice 4] x3 2)
 (.bi (qb5 (intOf (cellAt x3 2 0)) (intOf (cellAt x3 2 1)) (strOf (cellAt x3 2 2)) (qaq (cellAt x3 2 3)) 0 y5) (fun y6=>
 .at (y6))
 (.no))
 (.no))
 (.at (y5)))
 (.no))
 (.no))
 (.no))
 (.no))
 (.no))
 (.no))
 (.no))
 (.no))
 (.br (x0==19)
 (.bi (qjW [105,102]) (fun y0=>
 .br (qaH [.int .i64,.int .i64,.str,.slice 4] x3 0)
 (.bi (qb5 (intOf (cellAt x3 0 0)) (intOf (cellAt x3 0 1)) (strOf (cellAt x3 0 2)) (qaq (cellAt x3 0 3)) 0 y0) (fun y1=>
 .bi (qbi [116,104,101,110] y1) (fun y2=>
 .br (qaH [.int .i64,.int .i64,.str,.slice 4] x3 1)
 (.bi (qb5 (intOf (cellAt x3 1 0)) (intOf (cellAt x3 1 1)) (strOf (cellAt x3 1 2)) (qaq (cellAt x3 1 3)) 0 y2) (fun y3=>
 .bi (qbi [101,108,115,101] y3) (fun y4=>
 .br (x0==19)
 (.br (qaH [.int .i64,.int .i64,.str,.slice 4] x3 2)
 (.bi (qb5 (intOf (cellAt x3 2 0)) (intOf (cellAt x3 2 1)) (strOf (cellAt x3 2 2)) (qaq (cellAt x3 2 3)) 0 y4) (fun y5=>
 .at (y5))
 (.no))
 (.no))
 (.at (y4)))
 (.no))
 (.no))
 (.no))
 (.no))
 (.no))
 (.no))
 (.no))
 (.bi (qjW [109,105,110]) (fun y0=>
 .bi (qbi [40] y0) (fun y1=>
 .br (qaH [.int .i64,.int .i64,.str,.slice 4] x3 0)
 (.bi (qb5 (intOf (cellAt x3 0 0)) (intOf (cellAt x3 0 1)) (strOf (cellAt x3 0 2)) (qaq (cellAt x3 0 3)) 0 y1) (fun y2=>
 .bi (qbi [44] y2) (fun y3=>
 .br (qaH [.int .i64,.int .i64,.str,.slice 4] x3 1)
 (.bi (qb5 (intOf (cellAt x3 1 0)) (intOf (cellAt x3 1 1)) (strOf (cellAt x3 1 2)) (qaq (cellAt x3 1 3)) 0 y3) (fun y4=>
 .bi (qbi [41] y4) (fun y5=>
 .br (x0==19)
 (.br (qaH [.int .i64,.int .i64,.str,.slice 4] x3 2)
 (.bi (qb5 (intOf (cellAt x3 2 0)) (intOf (cellAt x3 2 1)) (strOf (cellAt x3 2 2)) (qaq (cellAt x3 2 3)) 0 y5) (fun y6=>
 .at (y6))
 (.no))
 (.no))
 (.at (y5)))
 (.no))
 (.no))
 (.no))
 (.no))
 (.no))
 (.no))
 (.no))
 (.no)))
def qxa(x0 x1:Int)(x2:List UInt8)(x3:List AV):Option q7I:=qaz (qpH x0 x1 x2 x3).ev
theorem qtG(x0 x1 x2 x3):qxa x0 x1 x2 x3=(qpH x0 x1 x2 x3).ev:=qaa _
theorem zj9:FH IP 184 zam zbe (k4 qxa):=fh znC (k4 qpH) q83
def T96:Tab:=(184,FE zam zbe (k4 qxa))::T95
theorem q84:qan IP T96:=⟨qam zj9,q83⟩
abbrev qIM:Type:=List AV
def qD2:PArgs:=⟨[.ref 0 0 0,.agg [.int .i64,.int .i64,.str,.view 4]],[(0,.box [.nils 3] false)]⟩
def qEh:List PRes:=[⟨false,.tup [],[(0,.box [.own 1 0] false),(1,.arr 3 false)]⟩]
abbrev qnZ:Type:=Int->Int->(List UInt8)->(List AV)->Option qIM
abbrev qRF:Type:=List AV
def qDV:PArgs:=⟨[.ref 0 0 0,.agg [.int .i64,.int .i64,.str,.view 4],.int .i64],[(0,.box [.nils 3] false)]⟩
def qEa:List PRes:=[⟨false,.tup [],[(0,.box [.own 1 0] false),(1,.arr 3 false)]⟩]
abbrev qnY:Type:=Int->Int->(List UInt8)->(List AV)->Int->Option qRF
def qRT(G_u72q:qnZ)(G_u35q:qnY):Prop:=FH IP 124 qD2 qEh (k4 G_u72q)/\FH IP 182 qDV qEa (k5 G_u35q)
def zca(G_u72q:qnZ)(G_u35q:qnY):Tab:=(124,FE qD2 qEh (k4 G_u72q))::(182,FE qDV qEa (k5 G_u35q))::T96
theorem qwP(G_u72q:qnZ)(G_u35q:qnY)(hG:qRT G_u72q G_u35q):qan IP (zca G_u72q G_u35q):=⟨qam (hG.1),qam (hG.2),q84⟩
def qBT(G_u72q:qnZ)(G_u35q:qnY)(x0 x1:Int)(x2:List UInt8)(x3:List AV):DT qIM:=
 .br (x0==1)
 (.br (decide (-9223372036854775808<=x1)&&decide (x1<=9223372036854775807))
 (.bi (qmW 2 (Lib.itoa x1)) (fun y0=>
 .at (y0))
 (.no))
 (.no))
 (.br (x0==2)
 (.bi (qjW [36]) (fun y0=>
 .br (decide (-9223372036854775808<=x1)&&decide (x1<=9223372036854775807))
 (.bi (qjV 2 (Lib.itoa x1) y0) (fun y1=>
 .at (y1))
 (.no))
 (.no))
 (.no))
 (.br (x0==3)
 (.bi (qlZ x1) (fun y0=>
 .bi (qmW 3 y0.1) (fun y1=>
 .at (y1))
 (.no))
 (.no))
 (.br (x0==4)
 (.bi (qmW 1 x2) (fun y0=>
 .at (y0))
 (.no))
 (.br (x0==9)
 (.bi (qjW [45]) (fun y0=>
 .br (qaH [.int .i64,.int .i64,.str,.slice 4] x3 0)
 (.bi (qa5 x0) (fun y1=>
 .bi (qb5 (intOf (cellAt x3 0 0)) (intOf (cellAt x3 0 1)) (strOf (cellAt x3 0 2)) (qaq (cellAt x3 0 3)) y1 y0) (fun y2=>
 .at (y2))
 (.no))
 (.no))
 (.no))
 (.no))
 (.br (x0==16)
 (.bi (qjW [110,111,116]) (fun y0=>
 .br (qaH [.int .i64,.int .i64,.str,.slice 4] x3 0)
 (.bi (qa5 x0) (fun y1=>
 .bi (qb5 (intOf (cellAt x3 0 0)) (intOf (cellAt x3 0 1)) (strOf (cellAt x3 0 2)) (qaq (cellAt x3 0 3)) y1 y0) (fun y2=>
 .at (y2))
 (.no))
 (.no))
 (.no))
 (.no))
 (.br (x0==17)
 (.br (x0==17)
 (.bi (qxa x0 x1 x2 x3) (fun y0=>
 .at (y0))
 (.no))
 (.bi (qa5 x0) (fun y0=>
 .bi (qa5 10) (fun y1=>
 .br (y0==y1)
 (.br (qaH [.int .i64,.int .i64,.str,.slice 4] x3 0)
 (.bi (G_u35q (intOf (cellAt x3 0 0)) (intOf (cellAt x3 0 1)) (strOf (cellAt x3 0 2)) (qaq (cellAt x3 0 3)) (IntKind.i64.wrap (y0+1))) (fun y2=>
 .bi (qch x0) (fun y3=>
 .bi (qbi y3 y2) (fun y4=>
 .br (qaH [.int .i64,.int .i64,.str,.slice 4] x3 1)
 (.bi (qa5 x0) (fun y5=>
 .bi (qb5 (intOf (cellAt x3 1 0)) (intOf (cellAt x3 1 1)) (strOf (cellAt x3 1 2)) (qaq (cellAt x3 1 3)) (IntKind.i64.wrap (y5+1)) y4) (fun y6=>
 .at (y6))
 (.no))
 (.no))
 (.no))
 (.no))
 (.no))
 (.no))
 (.no))
 (.br (qaH [.int .i64,.int .i64,.str,.slice 4] x3 0)
 (.bi (G_u35q (intOf (cellAt x3 0 0)) (intOf (cellAt x3 0 1)) (strOf (cellAt x3 0 2)) (qaq (cellAt x3 0 3)) y0) (fun y2=>
 .bi (qch x0) (fun y3=>
 .bi (qbi y3 y2) (fun y4=>
 .br (qaH [.int .i64,.int .i64,.str,.slice 4] x3 1)
 (.bi (qa5 x0) (fun y5=>
 .bi (qb5 (intOf (cellAt x3 1 0)) (intOf (cellAt x3 1 1)) (strOf (cellAt x3 1 2)) (qaq (cellAt x3 1 3)) (IntKind.i64.wrap (y5+1)) y4) (fun y6=>
 .at (y6))
 (.no))
 (.no))
 (.no))
 (.no))
 (.no))
 (.no))
 (.no)))
 (.no))
 (.no)))
 (.br (x0==18)
 (.br (x0==18)
 (.bi (qxa x0 x1 x2 x3) (fun y0=>
 .at (y0))
 (.no))
 (.bi (qa5 x0) (fun y0=>
 .bi (qa5 10) (fun y1=>
 .br (y0==y1)
 (.br (qaH [.int .i64,.int .i64,.str,.slice 4] x3 0)
 (.bi (G_u35q (intOf (cellAt x3 0 0)) (intOf (cellAt x3 0 1)) (strOf (cellAt x3 0 2)) (qaq (cellAt x3 0 3)) (IntKind.i64.wrap (y0+1))) (fun y2=>
 .bi (qch x0) (fun y3=>
 .bi (qbi y3 y2) (fun y4=>
 .br (qaH [.int .i64,.int .i64,.str,.slice 4] x3 1)
 (.bi (qa5 x0) (fun y5=>
 .bi (qb5 (intOf (cellAt x3 1 0)) (intOf (cellAt x3 1 1)) (strOf (cellAt x3 1 2)) (qaq (cellAt x3 1 3)) (IntKind.i64.wrap (y5+1)) y4) (fun y6=>
 .at (y6))
 (.no))
 (.no))
 (.no))
 (.no))
 (.no))
 (.no))
 (.no))
 (.br (qaH [.int .i64,.int .i64,.str,.slice 4] x3 0)
 (.bi (G_u35q (intOf (cellAt x3 0 0)) (intOf (cellAt x3 0 1)) (strOf (cellAt x3 0 2)) (qaq (cellAt x3 0 3)) y0) (fun y2=>
 .bi (qch x0) (fun y3=>
 .bi (qbi y3 y2) (fun y4=>
 .br (qaH [.int .i64,.int .i64,.str,.slice 4] x3 1)
 (.bi (qa5 x0) (fun y5=>
 .bi (qb5 (intOf (cellAt x3 1 0)) (intOf (cellAt x3 1 1)) (strOf (cellAt x3 1 2)) (qaq (cellAt x3 1 3)) (IntKind.i64.wrap (y5+1)) y4) (fun y6=>
 .at (y6))
 (.no))
 (.no))
 (.no))
 (.no))
 (.no))
 (.no))
 (.no)))
 (.no))
 (.no)))
 (.br (x0==19)
 (.bi (qxa x0 x1 x2 x3) (fun y0=>
 .at (y0))
 (.no))
 (.bi (qa5 x0) (fun y0=>
 .bi (qa5 10) (fun y1=>
 .br (y0==y1)
 (.br (qaH [.int .i64,.int .i64,.str,.slice 4] x3 0)
 (.bi (G_u35q (intOf (cellAt x3 0 0)) (intOf (cellAt x3 0 1)) (strOf (cellAt x3 0 2)) (qaq (cellAt x3 0 3)) (IntKind.i64.wrap (y0+1))) (fun y2=>
 .bi (qch x0) (fun y3=>
 .bi (qbi y3 y2) (fun y4=>
 .br (qaH [.int .i64,.int .i64,.str,.slice 4] x3 1)
 (.bi (qa5 x0) (fun y5=>
 .bi (qb5 (intOf (cellAt x3 1 0)) (intOf (cellAt x3 1 1)) (strOf (cellAt x3 1 2)) (qaq (cellAt x3 1 3)) (IntKind.i64.wrap (y5+1)) y4) (fun y6=>
 .at (y6))
 (.no))
 (.no))
 (.no))
 (.no))
 (.no))
 (.no))
 (.no))
 (.br (qaH [.int .i64,.int .i64,.str,.slice 4] x3 0)
 (.bi (G_u35q (intOf (cellAt x3 0 0)) (intOf (cellAt x3 0 1)) (strOf (cellAt x3 0 2)) (qaq (cellAt x3 0 3)) y0) (fun y2=>
 .bi (qch x0) (fun y3=>
 .bi (qbi y3 y2) (fun y4=>
 .br (qaH [.int .i64,.int .i64,.str,.slice 4] x3 1)
 (.bi (qa5 x0) (fun y5=>
 .bi (qb5 (intOf (cellAt x3 1 0)) (intOf (cellAt x3 1 1)) (strOf (cellAt x3 1 2)) (qaq (cellAt x3 1 3)) (IntKind.i64.wrap (y5+1)) y4) (fun y6=>
 .at (y6))
 (.no))
 (.no))
 (.no))
 (.no))
 (.no))
 (.no))
 (.no)))
 (.no))
 (.no))))))))))
def qBA(G_u72q:qnZ)(G_u35q:qnY)(x0 x1:Int)(x2:List UInt8)(x3:List AV)(x4:Int):DT qRF:=
 .bi (qa5 x0) (fun y0=>
 .br (decide (y0>=x4))
 (.bi (G_u72q x0 x1 x2 x3) (fun y1=>
 .at (y1))
 (.no))
 (.bi (qjW [40]) (fun y1=>
 .bi (qJm x0 x1 x2 x3 y1) (fun y2=>
 .bi (qbi [41] y2) (fun y3=>
 .at (y3))
 (.no))
 (.no))
 (.no)))
 (.no)
def qb3:Nat->qnZ×qnY
 |0=>(fun _ _ _ _=>none,fun _ _ _ _ _=>none)
 |n+1=>(fun x0 x1 x2 x3=>(qBT ((qb3 n).1) ((qb3 n).2) x0 x1 x2 x3).ev,fun x0 x1 x2 x3 x4=>(qBA ((qb3 n).1) ((qb3 n).2) x0 x1 x2 x3 x4).ev)
def qUU(x0 x1:Int)(x2:List UInt8)(x3:List AV):Option qIM:=qjC fun n=>(qb3 n).1 x0 x1 x2 x3
def q9u(x0 x1:Int)(x2:List UInt8)(x3:List AV)(x4:Int):Option qRF:=qjC fun n=>(qb3 n).2 x0 x1 x2 x3 x4
theorem qss:∀n,qRT ((qb3 n).1) ((qb3 n).2)
 |0=>⟨(fun v y h=>nomatch h),(fun v y h=>nomatch h)⟩
 |n+1=>have hG:=qss n
 ⟨qah (F:=znw) (L:=[]) (t:=(k4 (qBT ((qb3 n).1) ((qb3 n).2)))) (qwP ((qb3 n).1) ((qb3 n).2) hG) (qac (l:=[]) (by kernel_rfl) trivial) (by kernel_rfl) (fun v=>by kernel_rfl) (fun v=>rfl),qah (F:=znB) (L:=[]) (t:=(k5 (qBA ((qb3 n).1) ((qb3 n).2)))) (qwP ((qb3 n).1) ((qb3 n).2) hG) (qac (l:=[]) (by kernel_rfl) trivial) (by kernel_rfl) (fun v=>by kernel_rfl) (fun v=>rfl)⟩
theorem zkp:FH IP 124 qD2 qEh (k4 qUU):=qbL (p:=qD2) (rs:=qEh) (s:=fun n=>(k4 ((qb3 n).1))) fun n=>(qss n).1
theorem zj1:FH IP 182 qDV qEa (k5 q9u):=qbL (p:=qDV) (rs:=qEa) (s:=fun n=>(k5 ((qb3 n).2))) fun n=>(qss n).2
def T97:Tab:=(124,FE qD2 qEh (k4 qUU))::T96
theorem zjA:qan IP T97:=⟨qam zkp,q84⟩
def T98:Tab:=(182,FE qDV qEa (k5 q9u))::T97
theorem q85:qan IP T98:=⟨qam zj1,zjA⟩
abbrev qQq:Type:=List AV×Int
def qXM:PArgs:=⟨[.agg [.int .i64,.int .i64,.str,.view 4]],[]⟩
def qZ7:List PRes:=[⟨false,.tup [.view 3,.int .i64],[]⟩]
def qrm(x0 x1:Int)(x2:List UInt8)(x3:List AV):DT qQq:=
 .bi (qiM x0 x1 x2 x3) (fun y0=>
 .br (y0 != 0)
 (.at (([],y0)))
 (.bi (qUU x0 x1 x2 x3) (fun y1=>
 .at ((y1,0)))
 (.no)))
 (.no)
def qta(x0 x1:Int)(x2:List UInt8)(x3:List AV):Option qQq:=qaz (qrm x0 x1 x2 x3).ev
theorem qNH(x0 x1 x2 x3):qta x0 x1 x2 x3=(qrm x0 x1 x2 x3).ev:=qaa _
theorem zda:FH IP 63 qXM qZ7 (k4 qta):=fh F63 (k4 qrm) q85
def T99:Tab:=(63,FE qXM qZ7 (k4 qta))::T98
theorem qTd:qan IP T99:=⟨qam zda,q85⟩
abbrev qhl:Type:=(List AV×Int×Int×Int×List AV)⊕(List AV×Int×Int×Int×List AV)
def qVr:List PSt:=[⟨[(1002100,.junk),(0,.ref 0 0 0),(13,.view 3),(14,.int .i64),(15,.int .i64)],[(0,.box [.own 1 0,.int .i64] false),(1,.arr 3 false)],2,2⟩,⟨[(1002100,.junk),(0,.ref 0 0 0),(13,.view 3),(14,.int .i64),(15,.int .i64)],[(0,.box [.own 2 0,.int .i64] false),(2,.arr 3 false)],3,2⟩]
def q6F(x0:List AV)(x1 x2 x3:Int)(x4:List AV):X×St:=(.exit 0,⟨[],[(0,.box [.own 1 0 none,.int .i64 x3] false),(1,.arr 3 x4 false)],2,2⟩)
def q6G(x0:List AV)(x1 x2 x3:Int)(x4:List AV):X×St:=(.exit 0,⟨[],[(0,.box [.own 2 0 none,.int .i64 x3] false),(2,.arr 3 x4 false)],3,2⟩)
def zm9:List (qhl->X×St):=[fun w=>(k5 q6F) ((sl w)),fun w=>(k5 q6G) ((sr w))]
def qvI(x0:List AV)(x1 x2 x3:Int)(x4:List AV):DT (Rd qhl):=
 .br (decide (x2<x1))
 (.br (qaH [.int .i64,.int .i64,.str] x0 x2)
 (.bi (qdX (intOf (cellAt x0 x2 0)) (strOf (cellAt x0 x2 2)) x3 x4) (fun y0=>
 .at (.next ((.inr (x0,x1,IntKind.i64.wrap (x2+1),y0)))))
 (.no))
 (.no))
 (.at (.done 0))
def qks(x0:List AV)(x1 x2 x3:Int)(x4:List AV):DT (Rd qhl):=
 .br (decide (x2<x1))
 (.br (qaH [.int .i64,.int .i64,.str] x0 x2)
 (.bi (qdX (intOf (cellAt x0 x2 0)) (strOf (cellAt x0 x2 2)) x3 x4) (fun y0=>
 .at (.next ((.inr (x0,x1,IntKind.i64.wrap (x2+1),y0)))))
 (.no))
 (.no))
 (.at (.done 1))
def qvH:qhl->DT (Rd qhl):=(Sum.elim (fun v=>qvI v.1 v.2.1 v.2.2.1 v.2.2.2.1 v.f) (fun v=>qks v.1 v.2.1 v.2.2.1 v.2.2.2.1 v.f))
def qum(v:qhl):Option (Nat×qhl):=qaz (qaf (fun v=>(qvH v).ev) v)
theorem qDc(v):qum v=qaf (fun v=>(qvH v).ev) v:=qaa _
def qV6:qbQ:=LE (τ:=qhl) (hD qVr) (qum) zm9
theorem zmq:Go.Eng.Told IP (qad F21 0).1 (qad F21 0).2 (qV6):=qav (inferInstance:Inhabited qhl) (hs:=qVr) (st:=qvH) (L:=[]) qTd (qac (l:=[]) (by kernel_rfl) trivial) (qDc) (fun v=>match v with|(.inl v)=>by kernel_rfl|(.inr v)=>by kernel_rfl) (fun v=>match v with|(.inl v)=>by kernel_rfl|(.inr v)=>by kernel_rfl)
abbrev q7D:Type:=(Int×List AV)⊕(Int×List AV)
def zah:PArgs:=⟨[.ref 0 0 0,.agg [.int .i64,.int .i64,.str,.view 4]],[(0,.box [.own 1 0,.int .i64] false),(1,.arr 3 false)]⟩
def za9:List PRes:=[⟨false,.tup [],[(0,.box [.own 1 0,.int .i64] false),(1,.arr 3 false)]⟩,⟨false,.tup [],[(0,.box [.own 2 0,.int .i64] false),(2,.arr 3 false)]⟩]
def qBC(x0 x1:Int)(x2:List UInt8)(x3:List AV)(x4:Int)(x5:List AV):DT q7D:=
 .bi (qta x0 x1 x2 x3) (fun y0=>
 .bi (pj 0 (qum (Sum.inl (y0.1,(y0.1.length:Int),0,x4,x5)))) (fun y1=>
 .at ((.inl ((sl y1).2.2.2))))
 (.bi (pj 1 (qum (Sum.inl (y0.1,(y0.1.length:Int),0,x4,x5)))) (fun y1=>
 .at ((.inr ((sr y1).2.2.2))))
 (.no)))
 (.no)
def qju(x0 x1:Int)(x2:List UInt8)(x3:List AV)(x4:Int)(x5:List AV):Option q7D:=qaz (qBC x0 x1 x2 x3 x4 x5).ev
theorem qUC(x0 x1 x2 x3 x4 x5):qju x0 x1 x2 x3 x4 x5=(qBC x0 x1 x2 x3 x4 x5).ev:=qaa _
theorem zj4:FH IP 21 zah za9 (k6 qju):=qah (F:=F21) (L:=[(1002100,qV6)]) (t:=(k6 qBC)) qTd (qac (l:=[qad F21 0]) (by kernel_rfl) ⟨qau (by kernel_rfl) zmq,trivial⟩) (by kernel_rfl) (fun v=>by kernel_rfl) (fun _=>qaa _)
def zsW:Tab:=(21,FE zah za9 (k6 qju))::T99
theorem qyV:qan IP zsW:=⟨qam zj4,qTd⟩
abbrev qgg:Type:=List AV×Int×Int×List UInt8×List UInt8×List UInt8×Int×Int×Int×Int×List AV×Bool×Int×Int×Bool×List AV×Bool×Int×Int×Bool×List AV×List AV×Int×List AV
def qVG:List PSt:=[⟨[(1000900,.junk),(1,.ref 0 0 0),(4,.ref 1 0 0),(26,.view 10),(27,.int .i64),(28,.int .i64)],[(0,.box [.str,.str,.str,.int .i64,.int .i64,.int .i64,.int .i64,.view 2,.bool,.int .i64,.int .i64,.bool,.view 2,.bool,.int .i64,.int .i64,.bool,.view 10,.view 6] false),(1,.box [.own 2 0,.int .i64] false),(2,.arr 3 false)],3,0⟩]
def q7d(x0:List AV)(x1 x2:Int)(x3 x4 x5:List UInt8)(x6 x7:Int)(x8 x9:Int)(x10:List AV)(x11:Bool)(x12 x13:Int)(x14:Bool)(x15:List AV)(x16:Bool)(x17 x18:Int)(x19:Bool)(x20 x21:List AV)(x22:Int)(x23:List AV):X×St:=(.exit 0,
 ⟨[(1,.ref 0 0 0),(4,.ref 1 0 0)],[(0,
 .box
 [.str x3,.str x4,.str x5,.int .i64 x6,.int .i64 x7,.int .i64 x8,.int .i64 x9,.view 2 x10,.bool x11,
 .int .i64 x12,.int .i64 x13,.bool x14,.view 2 x15,.bool x16,.int .i64 x17,.int .i64 x18,.bool x19,.view 10 x20,
 .view 6 x21]
 false),
 (1,.box [.own 2 0 none,.int .i64 x22] false),(2,.arr 3 x23 false)],3,0⟩)
def zno:List (qgg->X×St):=[(k24 q7d)]
def qkz(x0:List AV)(x1 x2:Int)(x3 x4 x5:List UInt8)(x6 x7:Int)(x8 x9:Int)(x10:List AV)(x11:Bool)(x12 x13:Int)(x14:Bool)(x15:List AV)(x16:Bool)(x17 x18:Int)(x19:Bool)(x20 x21:List AV)(x22:Int)(x23:List AV):DT (Rd qgg):=
 .br (decide (x2<x1))
 (.br (qaH [.str,.int .i64,.int .i64,.int .i64,.str,.slice 4,.int .i64,.int .i64,.str,.slice 4] x0 x2)
 (.bi (qpT) (fun y0=>
 .br (qaH [.str] y0 (IntKind.i64.wrap (intOf (cellAt x0 x2 1)-1)))
 (.bi (qcH
 [AV.str [102,101,101],AV.str (strOf (cellAt x0 x2 0)),AV.str (strOf (cellAt y0 (IntKind.i64.wrap (intOf (cellAt x0 x2 1)-1)) 0)),AV.str [119,104,101,110]] x22 x23) (fun y1=>
 .bi (pl (qju (intOf (cellAt x0 x2 2)) (intOf (cellAt x0 x2 3)) (strOf (cellAt x0 x2 4)) (qaq (cellAt x0 x2 5)) y1.1 y1.2)) (fun y2=>
 .br (room (y2.2.length+1) 32)
 (.bi (pl
 (qju (intOf (cellAt x0 x2 6)) (intOf (cellAt x0 x2 7)) (strOf (cellAt x0 x2 8)) (qaq (cellAt x0 x2 9)) y2.1
 (y2.2++[AV.agg [.int .i64 (Tk.kindP [97,109,111,117,110,116,95,111,102]),.int .i64 y2.1,AV.str [97,109,111,117,110,116,95,111,102]]]))) (fun y3=>
 .br (room (y3.2.length+1) 32)
 (.at (.next ((x0,x1,IntKind.i64.wrap (x2+1),x3,x4,x5,x6,x7,x8,x9,x10,x11,x12,x13,x14,x15,x16,x17,x18,x19,x20,x21,y3.1,y3.2++[AV.agg [.int .i64 (Tk.kindP [59]),.int .i64 y3.1,AV.str [59]]]))))
 (.no))
 (.bi (pr
 (qju (intOf (cellAt x0 x2 6)) (intOf (cellAt x0 x2 7)) (strOf (cellAt x0 x2 8)) (qaq (cellAt x0 x2 9)) y2.1
 (y2.2++[AV.agg [.int .i64 (Tk.kindP [97,109,111,117,110,116,95,111,102]),.int .i64 y2.1,AV.str [97,109,111,117,110,116,95,111,102]]]))) (fun y3=>
 .br (room (y3.2.length+1) 32)
 (.at (.next ((x0,x1,IntKind.i64.wrap (x2+1),x3,x4,x5,x6,x7,x8,x9,x10,x11,x12,x13,x14,x15,x16,x17,x18,x19,x20,x21,y3.1,y3.2++[AV.agg [.int .i64 (Tk.kindP [59]),.int .i64 y3.1,AV.str [59]]]))))
 (.no))
 (.no)))
 (.no))
 (.bi (pr (qju (intOf (cellAt x0 x2 2)) (intOf (cellAt x0 x2 3)) (strOf (cellAt x0 x2 4)) (qaq (cellAt x0 x2 5)) y1.1 y1.2)) (fun y2=>
 .br (room (y2.2.length+1) 32)
 (.bi (pl
 (qju (intOf (cellAt x0 x2 6)) (intOf (cellAt x0 x2 7)) (strOf (cellAt x0 x2 8)) (qaq (cellAt x0 x2 9)) y2.1
 (y2.2++[AV.agg [.int .i64 (Tk.kindP [97,109,111,117,110,116,95,111,102]),.int .i64 y2.1,AV.str [97,109,111,117,110,116,95,111,102]]]))) (fun y3=>
 .br (room (y3.2.length+1) 32)
 (.at (.next ((x0,x1,IntKind.i64.wrap (x2+1),x3,x4,x5,x6,x7,x8,x9,x10,x11,x12,x13,x14,x15,x16,x17,x18,x19,x20,x21,y3.1,y3.2++[AV.agg [.int .i64 (Tk.kindP [59]),.int .i64 y3.1,AV.str [59]]]))))
 (.no))
 (.bi (pr
 (qju (intOf (cellAt x0 x2 6)) (intOf (cellAt x0 x2 7)) (strOf (cellAt x0 x2 8)) (qaq (cellAt x0 x2 9)) y2.1
 (y2.2++[AV.agg [.int .i64 (Tk.kindP [97,109,111,117,110,116,95,111,102]),.int .i64 y2.1,AV.str [97,109,111,117,110,116,95,111,102]]]))) (fun y3=>
 .br (room (y3.2.length+1) 32)
 (.at (.next ((x0,x1,IntKind.i64.wrap (x2+1),x3,x4,x5,x6,x7,x8,x9,x10,x11,x12,x13,x14,x15,x16,x17,x18,x19,x20,x21,y3.1,y3.2++[AV.agg [.int .i64 (Tk.kindP [59]),.int .i64 y3.1,AV.str [59]]]))))
 (.no))
 (.no)))
 (.no))
 (.no)))
 (.no))
 (.no))
 (.no))
 (.no))
 (.at (.done 0))
def qIq:qgg->DT (Rd qgg):=(fun v=>qkz v.1 v.2.1 v.2.2.1 v.2.2.2.1 v.f.1 v.f.2.1 v.f.2.2.1 v.f.2.2.2.1 v.h.1 v.h.2.1 v.h.2.2.1 v.h.2.2.2.1 v.h.f.1 v.h.f.2.1 v.h.f.2.2.1 v.h.f.2.2.2.1 v.i.1 v.i.2.1 v.i.2.2.1 v.i.2.2.2.1 v.i.f.1 v.i.f.2.1 v.i.f.2.2.1 v.i.f.2.2.2)
def qDs(v:qgg):Option (Nat×qgg):=qaz (qaf (fun v=>(qIq v).ev) v)
theorem qDt(v):qDs v=qaf (fun v=>(qIq v).ev) v:=qaa _
def qWl:qbQ:=LE (τ:=qgg) (hD qVG) (qDs) zno
theorem zmF:Go.Eng.Told IP (qad F9 0).1 (qad F9 0).2 (qWl):=lp (inferInstance:Inhabited qgg) (hs:=qVG) qIq qyV qDt
abbrev qgh:Type:=List AV×Int×Int×Int×List AV
def qVH:List PSt:=[⟨[(1000901,.junk),(4,.ref 0 0 0),(59,.view 6),(60,.int .i64),(61,.int .i64)],[(0,.box [.own 1 0,.int .i64] false),(1,.arr 3 false)],2,0⟩]
def q7e(x0:List AV)(x1 x2 x3:Int)(x4:List AV):X×St:=(.exit 2,⟨[(4,.ref 0 0 0)],[(0,.box [.own 1 0 none,.int .i64 x3] false),(1,.arr 3 x4 false)],2,0⟩)
def znp:List (qgh->X×St):=[(k5 q7e)]
def qkA(x0:List AV)(x1 x2 x3:Int)(x4:List AV):DT (Rd qgh):=
 .br (decide (x2<x1))
 (.br (qaH [.str,.int .i64,.int .i64,.int .i64,.str,.slice 4] x0 x2)
 (.bi (qlI) (fun y0=>
 .br (qaH [.str] y0 (IntKind.i64.wrap (intOf (cellAt x0 x2 1)-1)))
 (.bi (qcH [AV.str [108,105,109,105,116],AV.str (strOf (cellAt x0 x2 0)),AV.str (strOf (cellAt y0 (IntKind.i64.wrap (intOf (cellAt x0 x2 1)-1)) 0))] x3 x4) (fun y1=>
 .bi (pl (qju (intOf (cellAt x0 x2 2)) (intOf (cellAt x0 x2 3)) (strOf (cellAt x0 x2 4)) (qaq (cellAt x0 x2 5)) y1.1 y1.2)) (fun y2=>
 .br (room (y2.2.length+1) 32)
 (.at (.next ((x0,x1,IntKind.i64.wrap (x2+1),y2.1,y2.2++[AV.agg [.int .i64 (Tk.kindP [59]),.int .i64 y2.1,AV.str [59]]]))))
 (.no))
 (.bi (pr (qju (intOf (cellAt x0 x2 2)) (intOf (cellAt x0 x2 3)) (strOf (cellAt x0 x2 4)) (qaq (cellAt x0 x2 5)) y1.1 y1.2)) (fun y2=>
 .br (room (y2.2.length+1) 32)
 (.at (.next ((x0,x1,IntKind.i64.wrap (x2+1),y2.1,y2.2++[AV.agg [.int .i64 (Tk.kindP [59]),.int .i64 y2.1,AV.str [59]]]))))
 (.no))
 (.no)))
 (.no))
 (.no))
 (.no))
 (.no))
 (.at (.done 0))
def qIr:qgh->DT (Rd qgh):=(fun v=>qkA v.1 v.2.1 v.2.2.1 v.2.2.2.1 v.f)
def qxU(v:qgh):Option (Nat×qgh):=qaz (qaf (fun v=>(qIr v).ev) v)
theorem qDu(v):qxU v=qaf (fun v=>(qIr v).ev) v:=qaa _
def qWm:qbQ:=LE (τ:=qgh) (hD qVH) (qxU) znp
theorem zmG:Go.Eng.Told IP (qad F9 1).1 (qad F9 1).2 (qWm):=lp (inferInstance:Inhabited qgh) (hs:=qVH) qIr qyV qDu
end
end Go.Proofs.H16
namespace Go.Proofs.H16
open Go Go.Eng
set_option maxRecDepth 100000
noncomputable section
abbrev qPU:Type:=List UInt8×Int
def qXa:PArgs:=⟨[.agg [.str,.str,.str,.int .i64,.int .i64,.int .i64,.int .i64,.view 2,.bool,.int .i64,.int .i64,.bool,.view 2,.bool,.int .i64,.int .i64,.bool,.view 10,.view 6]],[]⟩
def qZv:List PRes:=[⟨false,.tup [.str,.int .i64],[]⟩]
def qqM(x0 x1 x2:List UInt8)(x3 x4:Int)(x5 x6:Int)(x7:List AV)(x8:Bool)(x9 x10:Int)(x11:Bool)(x12:List AV)(x13:Bool)(x14 x15:Int)(x16:Bool)(x17 x18:List AV):DT qPU:=
 .bi (qCW x0 x1 x2 x3 x4 x5 x6 x7 x8 x9 x10 x11 x12 x13 x14 x15 x16 x17 x18) (fun y0=>
 .br (!y0)
 (.at (([],1)))
 (.bi (qCS x0 x1 x2 x3 x4 x5 x6 x7 x8 x9 x10 x11 x12 x13 x14 x15 x16 x17 x18 0) (fun y1=>
 .bi (qw0 [99,114,101,100,105,116] x7 x8 x9 x10 x11 y1.1 y1.2) (fun y2=>
 .bi (qw0 [100,101,98,105,116] x12 x13 x14 x15 x16 y2.1 y2.2) (fun y3=>
 .bi (pj 0 (qDs (x17,(x17.length:Int),0,x0,x1,x2,x3,x4,x5,x6,x7,x8,x9,x10,x11,x12,x13,x14,x15,x16,x17,x18,y3))) (fun y4=>
 .bi (pj 0
 (qxU
 (y4.i.f.2.1,
 (y4.2.2.2.2.2.2.2.2.2.2.2.2.2.2.2.2.2.2.2.2.2.1.length:Int),0,
 y4.i.f.2.2))) (fun y5=>
 .bi (qcH [AV.str [125]] y5.2.2.2.1 y5.f) (fun y6=>
 .br (Tk.jB IP 24 y6.2) (.at ((Tk.jS IP 24 y6.2,Tk.jN IP 24 y6.2))) (.no))
 (.no))
 (.no))
 (.no))
 (.no))
 (.no))
 (.no)))
 (.no)
def qhr(x0 x1 x2:List UInt8)(x3 x4:Int)(x5 x6:Int)(x7:List AV)(x8:Bool)(x9 x10:Int)(x11:Bool)(x12:List AV)(x13:Bool)(x14 x15:Int)(x16:Bool)(x17 x18:List AV):Option qPU:=qaz (qqM x0 x1 x2 x3 x4 x5 x6 x7 x8 x9 x10 x11 x12 x13 x14 x15 x16 x17 x18).ev
theorem qM6(x0 x1 x2 x3 x4 x5 x6 x7 x8 x9 x10 x11 x12 x13 x14 x15 x16 x17 x18):qhr x0 x1 x2 x3 x4 x5 x6 x7 x8 x9 x10 x11 x12 x13 x14 x15 x16 x17 x18=(qqM x0 x1 x2 x3 x4 x5 x6 x7 x8 x9 x10 x11 x12 x13 x14 x15 x16 x17 x18).ev:=qaa _
theorem zcu:FH IP 9 qXa qZv (k19 qhr):=qah (F:=F9) (L:=[(1000900,qWl),(1000901,qWm)]) (t:=(k19 qqM)) qyV (qac (l:=[qad F9 0,qad F9 1]) (by kernel_rfl) ⟨qau (by kernel_rfl) zmF,qau (by kernel_rfl) zmG,trivial⟩) (by kernel_rfl) (fun v=>by kernel_rfl) (fun _=>qaa _)
def zsX:Tab:=(9,FE qXa qZv (k19 qhr))::zsW
theorem qRX:qan IP zsX:=⟨qam zcu,qyV⟩
abbrev qRb:Type:=Bool
def qYx:PArgs:=⟨[],[]⟩
def q0S:List PRes:=[⟨false,.bool,[]⟩]
def qrW:DT qRb:=
 .bi (qmg) (fun y0=>
 .bi (qgo y0) (fun y1=>
 .bi (qhr y1.1 y1.2.1 y1.2.2.1 y1.2.2.2.1 y1.f.1 y1.f.2.1 y1.f.2.2.1
 y1.f.2.2.2.1 y1.h.1 y1.h.2.1 y1.h.2.2.1
 y1.h.2.2.2.1 y1.h.f.1 y1.h.f.2.1
 y1.h.f.2.2.1 y1.h.f.2.2.2.1
 y1.i.1 y1.i.2.1
 y1.i.2.2.1) (fun y2=>
 .bi (qgo
 (have y:=
 have y:=
 have y:=[111,32,59,10,125];
 32::101::117::114::y;
 have y:=101::110::99::121::y;
 99::117::114::114::y;
 have y:=
 have y:=99::32::123::10::y;
 98::97::115::105::y;
 have y:=117::99::116::32::y;
 112::114::111::100::y)) (fun y3=>
 .bi (qhr y1.1 [69,85,82,79] y1.2.2.1 y1.2.2.2.1 y1.f.1 y1.f.2.1 y1.f.2.2.1
 y1.f.2.2.2.1 y1.h.1 y1.h.2.1 y1.h.2.2.1
 y1.h.2.2.2.1 y1.h.f.1 y1.h.f.2.1
 y1.h.f.2.2.1 y1.h.f.2.2.2.1
 y1.i.1 y1.i.2.1
 y1.i.2.2.1) (fun y4=>
 .bi (br (y1.i.2.2.2.1 != 0) (some true)
 (some (y1.i.f != 0))) (fun y5=>
 .bi (br y5 (some true) (some (y2.2 != 0))) (fun y6=>
 .bi (br y6 (some true) (br (sm qmg) (some !y2.1==y0) none)) (fun y7=>
 .bi (br y7 (some true) (some (y3.i.2.2.2.1 != 2))) (fun y8=>
 .bi (br y8 (some true) (some (y3.i.f != 2))) (fun y9=>
 .bi (br y9 (some true) (some (y4.2 != 1))) (fun y10=>
 .br (y10)
 (.at (false))
 (.bi (br (y1.1== [98,97,115,105,99]) (some (y1.f.1==3)) (some false)) (fun y11=>
 .bi (br y11 (some (y1.f.2.1==500)) (some false)) (fun y12=>
 .bi (br y12 (some (y1.f.2.2.1==250000)) (some false)) (fun y13=>
 .bi (br y13 (some y1.h.1) (some false)) (fun y14=>
 .bi (br y14 (some y1.h.2.2.2.1) (some false)) (fun y15=>
 .bi (br y15 (some ((y1.2.2.2.2.2.2.2.1.length:Int)==1)) (some false)) (fun y16=>
 .bi (br y16 (br (qaH [.int .i64,.int .i64] y1.f.2.2.2.1 0) (some (intOf (cellAt y1.f.2.2.2.1 0 1)==15000)) none)
 (some false)) (fun y17=>
 .bi (br y17 (some (y1.h.f.2.2.2.1==2)) (some false)) (fun y18=>
 .bi (br y18 (some ((y1.2.2.2.2.2.2.2.2.2.2.2.2.2.2.2.2.2.1.length:Int)==1)) (some false)) (fun y19=>
 .bi (br y19
 (br
 (qaH [.str,.int .i64,.int .i64,.int .i64,.str,.slice 4,.int .i64,.int .i64,.str,.slice 4]
 y1.i.2.1 0)
 (some (intOf (cellAt y1.i.2.1 0 1)==3)) none)
 (some false)) (fun y20=>
 .bi (br y20
 (br
 (qaH [.str,.int .i64,.int .i64,.int .i64,.str,.slice 4,.int .i64,.int .i64,.str,.slice 4]
 y1.i.2.1 0)
 (some (intOf (cellAt y1.i.2.1 0 7)==250)) none)
 (some false)) (fun y21=>
 .bi (br y21 (some ((y1.2.2.2.2.2.2.2.2.2.2.2.2.2.2.2.2.2.2.1.length:Int)==1)) (some false)) (fun y22=>
 .bi (br y22
 (br
 (qaH [.str,.int .i64,.int .i64,.int .i64,.str,.slice 4] y1.i.2.2.1 0)
 (some (intOf (cellAt y1.i.2.2.1 0 1)==2)) none)
 (some false)) (fun y23=>
 .at (y23))
 (.no))
 (.no))
 (.no))
 (.no))
 (.no))
 (.no))
 (.no))
 (.no))
 (.no))
 (.no))
 (.no))
 (.no))
 (.no)))
 (.no))
 (.no))
 (.no))
 (.no))
 (.no))
 (.no))
 (.no))
 (.no))
 (.no))
 (.no))
 (.no)
def qbX:Option qRb:=qaz (qrW).ev
theorem qOh:qbX=(qrW).ev:=qaa _
theorem zd4:FH IP 8 qYx q0S (fun _=>qbX):=qah (F:=F8) (L:=[]) (t:=(fun _=>qrW)) qRX (qac (l:=[]) (by kernel_rfl) trivial) (by kernel_rfl) (fun v=>by kernel_rfl) (fun _=>qaa _)
def zsY:Tab:=(8,FE qYx q0S (fun _=>qbX))::zsX
theorem qFq:qan IP zsY:=⟨qam zd4,qRX⟩
end
end Go.Proofs.H16
namespace Go.Proofs.H16
open Go Go.Eng
set_option maxRecDepth 100000
noncomputable section
abbrev qfc:Type:=Int×Int×List UInt8
def qJI:List PSt:=[⟨[(1013800,.junk),(0,.int .i64),(1,.int .i64),(5,.str)],[],0,0⟩]
def q2T(x0 x1:Int)(x2:List UInt8):X×St:=(.exit 0,⟨[(5,.str x2)],[],0,0⟩)
def zhv:List (qfc->X×St):=[(k3 q2T)]
def qpa(x0 x1:Int)(x2:List UInt8):DT (Rd qfc):=
 .bi (br (decide (x0>0)) (some true) (some (decide ((x2.length:Int)<x1)))) (fun y0=>
 .br (y0)
 (.br (leB (IntKind.i64.wrap (x0.tmod 10+1)) 10&&leB (x0.tmod 10) (IntKind.i64.wrap (x0.tmod 10+1)).toNat)
 (.br (decide
 ((List.take ((IntKind.i64.wrap (x0.tmod 10+1)).toNat-(x0.tmod 10).toNat) (List.drop (x0.tmod 10).toNat ([48,49,50,51,52,53,54,55,56,57]:List UInt8))).length+x2.length <=
 4611686018427387904))
 (.at (.next ((IntKind.i64.wrap (x0.tdiv 10),x1,List.take ((IntKind.i64.wrap (x0.tmod 10+1)).toNat-(x0.tmod 10).toNat) (List.drop (x0.tmod 10).toNat ([48,49,50,51,52,53,54,55,56,57]:List UInt8))++x2))))
 (.no))
 (.no))
 (.at (.done 0)))
 (.no)
def qjc:qfc->DT (Rd qfc):=(fun v=>qpa v.1 v.2.1 v.2.2)
def qmt(v:qfc):Option (Nat×qfc):=qaz (qaf (fun v=>(qjc v).ev) v)
theorem qef(v):qmt v=qaf (fun v=>(qjc v).ev) v:=qaa _
def qKW:qbQ:=LE (τ:=qfc) (hD qJI) (qmt) zhv
theorem zgn:Go.Eng.Told IP (qad ziq 0).1 (qad ziq 0).2 (qKW):=lp (inferInstance:Inhabited qfc) (hs:=qJI) qjc qFq qef
abbrev qQy:Type:=List UInt8
def qXV:PArgs:=⟨[.int .i64,.int .i64],[]⟩
def q0g:List PRes:=[⟨false,.str,[]⟩]
def qnO(x0 x1:Int):DT qQy:=
 .bi (pj 0 (qmt (x0,x1,[]))) (fun y0=>
 .at (y0.2.2))
 (.no)
def ql9(x0 x1:Int):Option qQy:=qaz (qnO x0 x1).ev
theorem zdi:FH IP 138 qXV q0g (k2 ql9):=qah (F:=ziq) (L:=[(1013800,qKW)]) (t:=(k2 qnO)) qFq (qac (l:=[qad ziq 0]) (by kernel_rfl) ⟨qau (by kernel_rfl) zgn,trivial⟩) (by kernel_rfl) (fun v=>by kernel_rfl) (fun _=>qaa _)
def ztr:Tab:=(138,FE qXV q0g (k2 ql9))::zsY
theorem qFD:qan IP ztr:=⟨qam zdi,qFq⟩
abbrev qfa:Type:=List UInt8×List UInt8
def qJF:List PSt:=[⟨[(1008100,.junk),(4,.str),(5,.str)],[],0,0⟩]
def q2O(x0 x1:List UInt8):X×St:=(.exit 0,⟨[(4,.str x0),(5,.str x1)],[],0,0⟩)
def zhs:List (qfa->X×St):=[(k2 q2O)]
def qlh(x0 x1:List UInt8):DT (Rd qfa):=
 .bi (br (decide ((x1.length:Int)>0)) (br (inB x1.length (IntKind.i64.wrap ((x1.length:Int)-1))) (some (qak x1 (IntKind.i64.wrap ((x1.length:Int)-1))==48)) none)
 (some false)) (fun y0=>
 .br (y0)
 (.br (leB (IntKind.i64.wrap ((x1.length:Int)-1)) x1.length&&true) (.at (.next ((x0,List.take (IntKind.i64.wrap ((x1.length:Int)-1)).toNat x1)))) (.no))
 (.at (.done 0)))
 (.no)
def qlg:qfa->DT (Rd qfa):=(fun v=>qlh v.1 v.2)
def qzJ(v:qfa):Option (Nat×qfa):=qaz (qaf (fun v=>(qlg v).ev) v)
theorem qkQ(v):qzJ v=qaf (fun v=>(qlg v).ev) v:=qaa _
def qKT:qbQ:=LE (τ:=qfa) (hD qJF) (qzJ) zhs
theorem zgk:Go.Eng.Told IP (qad F81 0).1 (qad F81 0).2 (qKT):=lp (inferInstance:Inhabited qfa) (hs:=qJF) qlg qFD qkQ
abbrev qQm:Type:=List UInt8×Int
def qXH:PArgs:=⟨[.int .i64],[]⟩
def qZ2:List PRes:=[⟨false,.tup [.str,.int .i64],[]⟩]
def qrh(x0:Int):DT qQm:=
 .bi (br (decide (x0<0)) (some true) (some (decide (x0>1000000)))) (fun y0=>
 .br (y0)
 (.at (([],1)))
 (.bi (ql9 (IntKind.i64.wrap (x0.tdiv 10000)) 1) (fun y1=>
 .bi (ql9 (x0.tmod 10000) 4) (fun y2=>
 .bi (pj 0 (qzJ (y1,y2))) (fun y3=>
 .br (!y3.2== [])
 (.br (decide (y3.1.length+1<=4611686018427387904))
 (.br (decide ((y3.1++[46]).length+y3.2.length<=4611686018427387904))
 (.br (decide ((y3.1++[46]++y3.2).length+1<=4611686018427387904)) (.at ((y3.1++[46]++y3.2++[37],0))) (.no))
 (.no))
 (.no))
 (.br (decide (y3.1.length+1<=4611686018427387904)) (.at ((y3.1++[37],0))) (.no)))
 (.no))
 (.no))
 (.no)))
 (.no)
def qog(x0:Int):Option qQm:=qaz (qrh x0).ev
theorem zc3:FH IP 81 qXH qZ2 qog:=qah (F:=F81) (L:=[(1008100,qKT)]) (t:=qrh) qFD (qac (l:=[qad F81 0]) (by kernel_rfl) ⟨qau (by kernel_rfl) zgk,trivial⟩) (by kernel_rfl) (fun v=>by kernel_rfl) (fun _=>qaa _)
def zts:Tab:=(81,FE qXH qZ2 qog)::ztr
theorem qSj:qan IP zts:=⟨qam zc3,qFD⟩
end
end Go.Proofs.H16
namespace Go.Proofs.H16
open Go Go.Eng
set_option maxRecDepth 100000
noncomputable section
abbrev qiC:Type:=Int×List AV×Bool×Int×Int×Bool×List AV×Bool×Int×Int×Bool
def qVB:List PSt:=[⟨[(1004600,.junk),(2,.ref 0 0 0),(3,.ref 1 0 0),(5,.int .i64)],[(0,.box [.view 2,.bool,.int .i64,.int .i64,.bool] false),(1,.box [.view 2,.bool,.int .i64,.int .i64,.bool] false)],2,0⟩]
def q62(x0:Int)(x1:List AV)(x2:Bool)(x3 x4:Int)(x5:Bool)(x6:List AV)(x7:Bool)(x8 x9:Int)(x10:Bool):X×St:=(.ret,⟨[(4,.bool false)],[],0,0⟩)
def q63(x0:Int)(x1:List AV)(x2:Bool)(x3 x4:Int)(x5:Bool)(x6:List AV)(x7:Bool)(x8 x9:Int)(x10:Bool):X×St:=(.exit 0,⟨[(4,.junk)],[],0,0⟩)
def znj:List (qiC->X×St):=[(k11 q62),(k11 q63)]
def qvW(x0:Int)(x1:List AV)(x2:Bool)(x3 x4:Int)(x5:Bool)(x6:List AV)(x7:Bool)(x8 x9:Int)(x10:Bool):DT (Rd qiC):=
 .br (decide (x0<(x1.length:Int)))
 (.br (qaH [.int .i64,.int .i64] x1 x0)
 (.br (qaH [.int .i64,.int .i64] x6 x0)
 (.br (if true=true then !(intOf (cellAt x1 x0 0)==intOf (cellAt x6 x0 0)&&(intOf (cellAt x1 x0 1)==intOf (cellAt x6 x0 1)&&true))
 else intOf (cellAt x1 x0 0)==intOf (cellAt x6 x0 0)&&(intOf (cellAt x1 x0 1)==intOf (cellAt x6 x0 1)&&true))
 (.at (.done 0))
 (.at (.next ((IntKind.i64.wrap (x0+1),x1,x2,x3,x4,x5,x6,x7,x8,x9,x10)))))
 (.no))
 (.no))
 (.at (.done 1))
def qpA:qiC->DT (Rd qiC):=(fun v=>qvW v.1 v.2.1 v.2.2.1 v.2.2.2.1 v.f.1 v.f.2.1 v.f.2.2.1 v.f.2.2.2.1 v.h.1 v.h.2.1 v.h.2.2)
def qDq(v:qiC):Option (Nat×qiC):=qaz (qaf (fun v=>(qpA v).ev) v)
theorem qDr(v):qDq v=qaf (fun v=>(qpA v).ev) v:=qaa _
def qWg:qbQ:=LE (τ:=qiC) (hD qVB) (qDq) znj
theorem zmA:Go.Eng.Told IP (qad F46 0).1 (qad F46 0).2 (qWg):=lp (inferInstance:Inhabited qiC) (hs:=qVB) qpA qSj qDr
abbrev q7Z:Type:=Bool
def zaI:PArgs:=⟨[.agg [.view 2,.bool,.int .i64,.int .i64,.bool],.agg [.view 2,.bool,.int .i64,.int .i64,.bool]],[]⟩
def zbA:List PRes:=[⟨false,.bool,[]⟩]
def qB1(x0:List AV)(x1:Bool)(x2 x3:Int)(x4:Bool)(x5:List AV)(x6:Bool)(x7 x8:Int)(x9:Bool):DT q7Z:=
 .bi (br ((x0.length:Int) != (x5.length:Int)) (some true) (some (if true=true then !x1==x6 else x1==x6))) (fun y0=>
 .bi (br y0 (some true) (some (x2 != x7))) (fun y1=>
 .bi (br y1 (some true) (some (x3 != x8))) (fun y2=>
 .bi (br y2 (some true) (some (if true=true then !x4==x9 else x4==x9))) (fun y3=>
 .br (y3)
 (.at (false))
 (.bi (pj 0 (qDq (0,x0,x1,x2,x3,x4,x5,x6,x7,x8,x9))) (fun y4=>
 .at (false))
 (.bi (pj 1 (qDq (0,x0,x1,x2,x3,x4,x5,x6,x7,x8,x9))) (fun y4=>
 .at (true))
 (.no))))
 (.no))
 (.no))
 (.no))
 (.no)
def qtJ(x0:List AV)(x1:Bool)(x2 x3:Int)(x4:Bool)(x5:List AV)(x6:Bool)(x7 x8:Int)(x9:Bool):Option q7Z:=qaz (qB1 x0 x1 x2 x3 x4 x5 x6 x7 x8 x9).ev
theorem qU2(x0 x1 x2 x3 x4 x5 x6 x7 x8 x9):qtJ x0 x1 x2 x3 x4 x5 x6 x7 x8 x9=(qB1 x0 x1 x2 x3 x4 x5 x6 x7 x8 x9).ev:=qaa _
theorem zkx:FH IP 46 zaI zbA (k10 qtJ):=qah (F:=F46) (L:=[(1004600,qWg)]) (t:=(k10 qB1)) qSj (qac (l:=[qad F46 0]) (by kernel_rfl) ⟨qau (by kernel_rfl) zmA,trivial⟩) (by kernel_rfl) (fun v=>by kernel_rfl) (fun _=>qaa _)
def zpf:Tab:=(46,FE zaI zbA (k10 qtJ))::zts
theorem qSO:qan IP zpf:=⟨qam zkx,qSj⟩
abbrev qFi:Type:=Bool
def quZ:PArgs:=⟨[.agg [.int .i64,.int .i64,.str,.view 4],.agg [.int .i64,.int .i64,.str,.view 4]],[]⟩
def qvr:List PRes:=[⟨false,.bool,[]⟩]
abbrev qdG:Type:=Int->Int->(List UInt8)->(List AV)->Int->Int->(List UInt8)->(List AV)->Option qFi
def qyR(G_u277q:qdG):Prop:=FH IP 48 quZ qvr (k8 G_u277q)
def q4x(G_u277q:qdG):Tab:=(48,FE quZ qvr (k8 G_u277q))::zpf
theorem qsC(G_u277q:qdG)(hG:qyR G_u277q):qan IP (q4x G_u277q):=⟨qam (hG),qSO⟩
abbrev qfH:Type:=Int×Int×Int×List UInt8×List AV×Int×Int×List UInt8×List AV
def qKi:List PSt:=[⟨[(1004800,.junk),(2,.ref 0 0 0),(3,.ref 1 0 0),(5,.int .i64)],[(0,.box [.int .i64,.int .i64,.str,.view 4] false),(1,.box [.int .i64,.int .i64,.str,.view 4] false)],2,0⟩]
def q30(x0 x1 x2:Int)(x3:List UInt8)(x4:List AV)(x5 x6:Int)(x7:List UInt8)(x8:List AV):X×St:=(.ret,⟨[(4,.bool false)],[],0,0⟩)
def q31(x0 x1 x2:Int)(x3:List UInt8)(x4:List AV)(x5 x6:Int)(x7:List UInt8)(x8:List AV):X×St:=(.exit 0,⟨[(4,.junk)],[],0,0⟩)
def zh5:List (qfH->X×St):=[(k9 q30),(k9 q31)]
def qpx(G_u277q:qdG)(x0 x1 x2:Int)(x3:List UInt8)(x4:List AV)(x5 x6:Int)(x7:List UInt8)(x8:List AV):DT (Rd qfH):=
 .br (decide (x0<(x4.length:Int)))
 (.br (qaH [.int .i64,.int .i64,.str,.slice 4] x4 x0)
 (.br (qaH [.int .i64,.int .i64,.str,.slice 4] x8 x0)
 (.bi (G_u277q (intOf (cellAt x4 x0 0)) (intOf (cellAt x4 x0 1)) (strOf (cellAt x4 x0 2)) (qaq (cellAt x4 x0 3)) (intOf (cellAt x8 x0 0)) (intOf (cellAt x8 x0 1))
 (strOf (cellAt x8 x0 2)) (qaq (cellAt x8 x0 3))) (fun y0=>
 .br (!y0) (.at (.done 0)) (.at (.next ((IntKind.i64.wrap (x0+1),x1,x2,x3,x4,x5,x6,x7,x8)))))
 (.no))
 (.no))
 (.no))
 (.at (.done 1))
def qlq(G_u277q:qdG):qfH->DT (Rd qfH):=(fun v=>qpx G_u277q v.1 v.2.1 v.2.2.1 v.2.2.2.1 v.f.1 v.f.2.1 v.f.2.2.1 v.f.2.2.2.1 v.h)
def qul(G_u277q:qdG)(v:qfH):Option (Nat×qfH):=qaz (qaf (fun v=>(qlq G_u277q v).ev) v)
theorem qxO(G_u277q v):qul G_u277q v=qaf (fun v=>(qlq G_u277q v).ev) v:=qaa _
def qLw(G_u277q:qdG):qbQ:=LE (τ:=qfH) (hD qKi) (qul G_u277q) zh5
theorem zgW(G_u277q:qdG)(hG:qyR G_u277q):Go.Eng.Told IP (qad F48 0).1 (qad F48 0).2 (qLw G_u277q):=qav (inferInstance:Inhabited qfH) (hs:=qKi) (st:=qlq G_u277q) (L:=[]) (qsC G_u277q hG) (qac (l:=[]) (by kernel_rfl) trivial) (qxO G_u277q) (fun v=>by kernel_rfl) (fun v=>by kernel_rfl)
def qsa(G_u277q:qdG)(x0 x1:Int)(x2:List UInt8)(x3:List AV)(x4 x5:Int)(x6:List UInt8)(x7:List AV):DT qFi:=
 .bi (br (x0 != x4) (some true) (some (x1 != x5))) (fun y0=>
 .bi (br y0 (some true) (some !x2==x6)) (fun y1=>
 .bi (br y1 (some true) (some ((x3.length:Int) != (x7.length:Int)))) (fun y2=>
 .br (y2)
 (.at (false))
 (.bi (pj 0 (qul G_u277q (0,x0,x1,x2,x3,x4,x5,x6,x7))) (fun y3=>
 .at (false))
 (.bi (pj 1 (qul G_u277q (0,x0,x1,x2,x3,x4,x5,x6,x7))) (fun y3=>
 .at (true))
 (.no))))
 (.no))
 (.no))
 (.no)
def qeG:Nat->qdG
 |0=>fun _ _ _ _ _ _ _ _=>none
 |n+1=>fun x0 x1 x2 x3 x4 x5 x6 x7=>(qsa ((qeG n)) x0 x1 x2 x3 x4 x5 x6 x7).ev
def qop(x0 x1:Int)(x2:List UInt8)(x3:List AV)(x4 x5:Int)(x6:List UInt8)(x7:List AV):Option qFi:=qjC fun n=>(qeG n) x0 x1 x2 x3 x4 x5 x6 x7
theorem qwO:∀n,qyR ((qeG n))
 |0=>(fun v y h=>nomatch h)
 |n+1=>have hG:=qwO n
 qah (F:=F48) (L:=[(1004800,qLw ((qeG n)))]) (t:=(k8 (qsa ((qeG n))))) (qsC ((qeG n)) hG) (qac (l:=[qad F48 0]) (by kernel_rfl) ⟨qau (by kernel_rfl) (zgW ((qeG n)) hG),trivial⟩) (by kernel_rfl) (fun v=>by kernel_rfl) (fun v=>rfl)
theorem zef:FH IP 48 quZ qvr (k8 qop):=qbL (p:=quZ) (rs:=qvr) (s:=fun n=>(k8 ((qeG n)))) fun n=>(qwO n)
def zug:Tab:=(48,FE quZ qvr (k8 qop))::zpf
theorem qFS:qan IP zug:=⟨qam zef,qSO⟩
abbrev qe1:Type:=List AV×List AV×Int
def qJw:List PSt:=[⟨[(1004700,.junk),(0,.view 10),(1,.view 10),(5,.int .i64)],[],0,0⟩]
def q2y(x0 x1:List AV)(x2:Int):X×St:=(.ret,⟨[(4,.bool false)],[],0,0⟩)
def q2z(x0 x1:List AV)(x2:Int):X×St:=(.exit 0,⟨[(4,.junk)],[],0,0⟩)
def zhj:List (qe1->X×St):=[(k3 q2y),(k3 q2z)]
def qo6(x0 x1:List AV)(x2:Int):DT (Rd qe1):=
 .br (decide (x2<(x0.length:Int)))
 (.br (qaH [.str,.int .i64,.int .i64,.int .i64,.str,.slice 4,.int .i64,.int .i64,.str,.slice 4] x0 x2)
 (.br (qaH [.str,.int .i64,.int .i64,.int .i64,.str,.slice 4,.int .i64,.int .i64,.str,.slice 4] x1 x2)
 (.br (!strOf (cellAt x0 x2 0)==strOf (cellAt x1 x2 0))
 (.at (.done 0))
 (.br (qaH [.str,.int .i64,.int .i64,.int .i64,.str,.slice 4,.int .i64,.int .i64,.str,.slice 4] x0 x2)
 (.br (qaH [.str,.int .i64,.int .i64,.int .i64,.str,.slice 4,.int .i64,.int .i64,.str,.slice 4] x1 x2)
 (.br (intOf (cellAt x0 x2 1) != intOf (cellAt x1 x2 1))
 (.at (.done 0))
 (.br (qaH [.str,.int .i64,.int .i64,.int .i64,.str,.slice 4,.int .i64,.int .i64,.str,.slice 4] x0 x2)
 (.br (qaH [.str,.int .i64,.int .i64,.int .i64,.str,.slice 4,.int .i64,.int .i64,.str,.slice 4] x1 x2)
 (.bi (qop (intOf (cellAt x0 x2 2)) (intOf (cellAt x0 x2 3)) (strOf (cellAt x0 x2 4)) (qaq (cellAt x0 x2 5)) (intOf (cellAt x1 x2 2)) (intOf (cellAt x1 x2 3))
 (strOf (cellAt x1 x2 4)) (qaq (cellAt x1 x2 5))) (fun y0=>
 .br (!y0)
 (.at (.done 0))
 (.br (qaH [.str,.int .i64,.int .i64,.int .i64,.str,.slice 4,.int .i64,.int .i64,.str,.slice 4] x0 x2)
 (.br (qaH [.str,.int .i64,.int .i64,.int .i64,.str,.slice 4,.int .i64,.int .i64,.str,.slice 4] x1 x2)
 (.bi (qop (intOf (cellAt x0 x2 6)) (intOf (cellAt x0 x2 7)) (strOf (cellAt x0 x2 8)) (qaq (cellAt x0 x2 9)) (intOf (cellAt x1 x2 6)) (intOf (cellAt x1 x2 7))
 (strOf (cellAt x1 x2 8)) (qaq (cellAt x1 x2 9))) (fun y1=>
 .br (!y1) (.at (.done 0)) (.at (.next ((x0,x1,IntKind.i64.wrap (x2+1))))))
 (.no))
 (.no))
 (.no)))
 (.no))
 (.no))
 (.no)))
 (.no))
 (.no)))
 (.no))
 (.no))
 (.at (.done 1))
def qle:qe1->DT (Rd qe1):=(fun v=>qo6 v.1 v.2.1 v.2.2)
def qt8(v:qe1):Option (Nat×qe1):=qaz (qaf (fun v=>(qle v).ev) v)
theorem qxp(v):qt8 v=qaf (fun v=>(qle v).ev) v:=qaa _
def qKK:qbQ:=LE (τ:=qe1) (hD qJw) (qt8) zhj
theorem zgb:Go.Eng.Told IP (qad F47 0).1 (qad F47 0).2 (qKK):=lp (inferInstance:Inhabited qe1) (hs:=qJw) qle qFS qxp
abbrev qQc:Type:=Bool
def qXu:PArgs:=⟨[.view 10,.view 10],[]⟩
def qZP:List PRes:=[⟨false,.bool,[]⟩]
def qq7(x0 x1:List AV):DT qQc:=
 .br ((x0.length:Int) != (x1.length:Int))
 (.at (false))
 (.bi (pj 0 (qt8 (x0,x1,0))) (fun y0=>
 .at (false))
 (.bi (pj 1 (qt8 (x0,x1,0))) (fun y0=>
 .at (true))
 (.no)))
def qob(x0 x1:List AV):Option qQc:=qaz (qq7 x0 x1).ev
theorem qNr(x0 x1):qob x0 x1=(qq7 x0 x1).ev:=qaa _
theorem zcP:FH IP 47 qXu qZP (k2 qob):=qah (F:=F47) (L:=[(1004700,qKK)]) (t:=(k2 qq7)) qFS (qac (l:=[qad F47 0]) (by kernel_rfl) ⟨qau (by kernel_rfl) zgb,trivial⟩) (by kernel_rfl) (fun v=>by kernel_rfl) (fun _=>qaa _)
def zuh:Tab:=(47,FE qXu qZP (k2 qob))::zug
theorem qFT:qan IP zuh:=⟨qam zcP,qFS⟩
abbrev qes:Type:=Int×List UInt8×List UInt8×List UInt8×Int×Int×Int×Int×List AV×Bool×Int×Int×Bool×List AV×Bool×Int×Int×Bool×List AV×List AV×List UInt8×List UInt8×List UInt8×Int×Int×Int×Int×List AV×Bool×Int×Int×Bool×List AV×Bool×Int×Int×Bool×List AV×List AV
def qKj:List PSt:=[⟨[(1001300,.junk),(2,.ref 0 0 0),(3,.ref 1 0 0),(5,.int .i64)],[(0,.box [.str,.str,.str,.int .i64,.int .i64,.int .i64,.int .i64,.view 2,.bool,.int .i64,.int .i64,.bool,.view 2,.bool,.int .i64,.int .i64,.bool,.view 10,.view 6] false),(1,.box [.str,.str,.str,.int .i64,.int .i64,.int .i64,.int .i64,.view 2,.bool,.int .i64,.int .i64,.bool,.view 2,.bool,.int .i64,.int .i64,.bool,.view 10,.view 6] false)],2,0⟩]
def q33(x0:Int)(x1 x2 x3:List UInt8)(x4 x5:Int)(x6 x7:Int)(x8:List AV)(x9:Bool)(x10 x11:Int)(x12:Bool)(x13:List AV)(x14:Bool)(x15 x16:Int)(x17:Bool)(x18 x19:List AV)(x20 x21 x22:List UInt8)(x23 x24:Int)(x25 x26:Int)(x27:List AV)(x28:Bool)(x29 x30:Int)(x31:Bool)(x32:List AV)(x33:Bool)(x34 x35:Int)(x36:Bool)(x37 x38:List AV):X×St:=(.ret,⟨[(4,.bool false)],[],0,0⟩)
def q34(x0:Int)(x1 x2 x3:List UInt8)(x4 x5:Int)(x6 x7:Int)(x8:List AV)(x9:Bool)(x10 x11:Int)(x12:Bool)(x13:List AV)(x14:Bool)(x15 x16:Int)(x17:Bool)(x18 x19:List AV)(x20 x21 x22:List UInt8)(x23 x24:Int)(x25 x26:Int)(x27:List AV)(x28:Bool)(x29 x30:Int)(x31:Bool)(x32:List AV)(x33:Bool)(x34 x35:Int)(x36:Bool)(x37 x38:List AV):X×St:=(.exit 0,⟨[(4,.junk)],[],0,0⟩)
def zh6:List (qes->X×St):=[(k39 q33),(k39 q34)]
def qpy(x0:Int)(x1 x2 x3:List UInt8)(x4 x5:Int)(x6 x7:Int)(x8:List AV)(x9:Bool)(x10 x11:Int)(x12:Bool)(x13:List AV)(x14:Bool)(x15 x16:Int)(x17:Bool)(x18 x19:List AV)(x20 x21 x22:List UInt8)(x23 x24:Int)(x25 x26:Int)(x27:List AV)(x28:Bool)(x29 x30:Int)(x31:Bool)(x32:List AV)(x33:Bool)(x34 x35:Int)(x36:Bool)(x37 x38:List AV):DT (Rd qes):=
 .br (decide (x0<(x19.length:Int)))
 (.br (qaH [.str,.int .i64,.int .i64,.int .i64,.str,.slice 4] x19 x0)
 (.br (qaH [.str,.int .i64,.int .i64,.int .i64,.str,.slice 4] x38 x0)
 (.br (!strOf (cellAt x19 x0 0)==strOf (cellAt x38 x0 0))
 (.at (.done 0))
 (.br (qaH [.str,.int .i64,.int .i64,.int .i64,.str,.slice 4] x19 x0)
 (.br (qaH [.str,.int .i64,.int .i64,.int .i64,.str,.slice 4] x38 x0)
 (.br (intOf (cellAt x19 x0 1) != intOf (cellAt x38 x0 1))
 (.at (.done 0))
 (.br (qaH [.str,.int .i64,.int .i64,.int .i64,.str,.slice 4] x19 x0)
 (.br (qaH [.str,.int .i64,.int .i64,.int .i64,.str,.slice 4] x38 x0)
 (.bi (qop (intOf (cellAt x19 x0 2)) (intOf (cellAt x19 x0 3)) (strOf (cellAt x19 x0 4)) (qaq (cellAt x19 x0 5)) (intOf (cellAt x38 x0 2)) (intOf (cellAt x38 x0 3))
 (strOf (cellAt x38 x0 4)) (qaq (cellAt x38 x0 5))) (fun y0=>
 .br (!y0)
 (.at (.done 0))
 (.at (.next ((IntKind.i64.wrap (x0+1),x1,x2,x3,x4,x5,x6,x7,x8,x9,x10,x11,x12,x13,x14,x15,x16,x17,x18,x19,x20,x21,x22,x23,x24,x25,x26,x27,x28,x29,x30,x31,x32,x33,x34,x35,x36,x37,x38)))))
 (.no))
 (.no))
 (.no)))
 (.no))
 (.no)))
 (.no))
 (.no))
 (.at (.done 1))
def qlr:qes->DT (Rd qes):=(fun v=>qpy v.1 v.2.1 v.2.2.1 v.2.2.2.1 v.f.1 v.f.2.1 v.f.2.2.1 v.f.2.2.2.1 v.h.1 v.h.2.1 v.h.2.2.1 v.h.2.2.2.1 v.h.f.1 v.h.f.2.1 v.h.f.2.2.1 v.h.f.2.2.2.1 v.i.1 v.i.2.1 v.i.2.2.1 v.i.2.2.2.1 v.i.f.1 v.i.f.2.1 v.i.f.2.2.1 v.i.f.2.2.2.1 v.i.h.1 v.i.h.2.1 v.i.h.2.2.1 v.i.h.2.2.2.1 v.i.h.f.1 v.i.h.f.2.1 v.i.h.f.2.2.1 v.i.h.f.2.2.2.1 v.i.i.1 v.i.i.2.1 v.i.i.2.2.1 v.i.i.2.2.2.1 v.i.i.f.1 v.i.i.f.2.1 v.i.i.f.2.2)
def qoK(v:qes):Option (Nat×qes):=qaz (qaf (fun v=>(qlr v).ev) v)
theorem qxP(v):qoK v=qaf (fun v=>(qlr v).ev) v:=qaa _
def qLx:qbQ:=LE (τ:=qes) (hD qKj) (qoK) zh6
theorem zgX:Go.Eng.Told IP (qad F13 0).1 (qad F13 0).2 (qLx):=lp (inferInstance:Inhabited qes) (hs:=qKj) qlr qFT qxP
abbrev qRp:Type:=Bool
def qYM:PArgs:=⟨[.agg [.str,.str,.str,.int .i64,.int .i64,.int .i64,.int .i64,.view 2,.bool,.int .i64,.int .i64,.bool,.view 2,.bool,.int .i64,.int .i64,.bool,.view 10,.view 6],.agg [.str,.str,.str,.int .i64,.int .i64,.int .i64,.int .i64,.view 2,.bool,.int .i64,.int .i64,.bool,.view 2,.bool,.int .i64,.int .i64,.bool,.view 10,.view 6]],[]⟩
def q06:List PRes:=[⟨false,.bool,[]⟩]
def qsc(x0 x1 x2:List UInt8)(x3 x4:Int)(x5 x6:Int)(x7:List AV)(x8:Bool)(x9 x10:Int)(x11:Bool)(x12:List AV)(x13:Bool)(x14 x15:Int)(x16:Bool)(x17 x18:List AV)(x19 x20 x21:List UInt8)(x22 x23:Int)(x24 x25:Int)(x26:List AV)(x27:Bool)(x28 x29:Int)(x30:Bool)(x31:List AV)(x32:Bool)(x33 x34:Int)(x35:Bool)(x36 x37:List AV):DT qRp:=
 .bi (br (!x0==x19) (some true) (some !x1==x20)) (fun y0=>
 .bi (br y0 (some true) (some !x2==x21)) (fun y1=>
 .bi (br y1 (some true) (some (x3 != x22))) (fun y2=>
 .bi (br y2 (some true) (some (x4 != x23))) (fun y3=>
 .bi (br y3 (some true) (some (x5 != x24))) (fun y4=>
 .bi (br y4 (some true) (some (x6 != x25))) (fun y5=>
 .br (y5)
 (.at (false))
 (.bi (qtJ x7 x8 x9 x10 x11 x26 x27 x28 x29 x30) (fun y6=>
 .bi (br (!y6) (some true) (br (sm (qtJ x12 x13 x14 x15 x16 x31 x32 x33 x34 x35)) (some !gv (qtJ x12 x13 x14 x15 x16 x31 x32 x33 x34 x35)) none)) (fun y7=>
 .bi (br y7 (some true) (br (sm (qob x17 x36)) (some !gv (qob x17 x36)) none)) (fun y8=>
 .bi (br y8 (some true) (some ((x18.length:Int) != (x37.length:Int)))) (fun y9=>
 .br (y9)
 (.at (false))
 (.bi (pj 0
 (qoK
 (0,x0,x1,x2,x3,x4,x5,x6,x7,x8,x9,x10,x11,x12,x13,x14,x15,x16,x17,x18,x19,x20,x21,x22,x23,x24,x25,x26,x27,x28,x29,x30,x31,x32,x33,x34,x35,
 x36,x37))) (fun y10=>
 .at (false))
 (.bi (pj 1
 (qoK
 (0,x0,x1,x2,x3,x4,x5,x6,x7,x8,x9,x10,x11,x12,x13,x14,x15,x16,x17,x18,x19,x20,x21,x22,x23,x24,x25,x26,x27,x28,x29,x30,x31,x32,x33,x34,x35,
 x36,x37))) (fun y10=>
 .at (true))
 (.no))))
 (.no))
 (.no))
 (.no))
 (.no)))
 (.no))
 (.no))
 (.no))
 (.no))
 (.no))
 (.no)
def qhC(x0 x1 x2:List UInt8)(x3 x4:Int)(x5 x6:Int)(x7:List AV)(x8:Bool)(x9 x10:Int)(x11:Bool)(x12:List AV)(x13:Bool)(x14 x15:Int)(x16:Bool)(x17 x18:List AV)(x19 x20 x21:List UInt8)(x22 x23:Int)(x24 x25:Int)(x26:List AV)(x27:Bool)(x28 x29:Int)(x30:Bool)(x31:List AV)(x32:Bool)(x33 x34:Int)(x35:Bool)(x36 x37:List AV):Option qRp:=qaz (qsc x0 x1 x2 x3 x4 x5 x6 x7 x8 x9 x10 x11 x12 x13 x14 x15 x16 x17 x18 x19 x20 x21 x22 x23 x24 x25 x26 x27 x28 x29 x30 x31 x32 x33 x34 x35 x36 x37).ev
theorem qOs(x0 x1 x2 x3 x4 x5 x6 x7 x8 x9 x10 x11 x12 x13 x14 x15 x16 x17 x18 x19 x20 x21 x22 x23 x24 x25 x26 x27 x28 x29 x30 x31 x32 x33 x34 x35 x36 x37):qhC x0 x1 x2 x3 x4 x5 x6 x7 x8 x9 x10 x11 x12 x13 x14 x15 x16 x17 x18 x19 x20 x21 x22 x23 x24 x25 x26 x27 x28 x29 x30 x31 x32 x33 x34 x35 x36 x37=(qsc x0 x1 x2 x3 x4 x5 x6 x7 x8 x9 x10 x11 x12 x13 x14 x15 x16 x17 x18 x19 x20 x21 x22 x23 x24 x25 x26 x27 x28 x29 x30 x31 x32 x33 x34 x35 x36 x37).ev:=qaa _
theorem zej:FH IP 13 qYM q06 (k38 qhC):=qah (F:=F13) (L:=[(1001300,qLx)]) (t:=(k38 qsc)) qFT (qac (l:=[qad F13 0]) (by kernel_rfl) ⟨qau (by kernel_rfl) zgX,trivial⟩) (by kernel_rfl) (fun v=>by kernel_rfl) (fun _=>qaa _)
def zui:Tab:=(13,FE qYM q06 (k38 qhC))::zuh
theorem qSP:qan IP zui:=⟨qam zej,qFT⟩
abbrev q7z:Type:=Bool
def qYK:PArgs:=⟨[.agg [.str,.str,.str,.int .i64,.int .i64,.int .i64,.int .i64,.view 2,.bool,.int .i64,.int .i64,.bool,.view 2,.bool,.int .i64,.int .i64,.bool,.view 10,.view 6]],[]⟩
def za3:List PRes:=[⟨false,.bool,[]⟩]
def qBn(x0 x1 x2:List UInt8)(x3 x4:Int)(x5 x6:Int)(x7:List AV)(x8:Bool)(x9 x10:Int)(x11:Bool)(x12:List AV)(x13:Bool)(x14 x15:Int)(x16:Bool)(x17 x18:List AV):DT q7z:=
 .bi (qol x0 x1 x2 x3 x4 x5 x6 x7 x8 x9 x10 x11 x12 x13 x14 x15 x16 x17 x18) (fun y0=>
 .br (y0)
 (.bi (qbX) (fun y1=>
 .at (y1))
 (.no))
 (.bi (qhr x0 x1 x2 x3 x4 x5 x6 x7 x8 x9 x10 x11 x12 x13 x14 x15 x16 x17 x18) (fun y1=>
 .br (y1.2 != 0)
 (.bi (br (y1.1== []) (br (sm qbX) (some (gv qbX)) none) (some false)) (fun y2=>
 .at (y2))
 (.no))
 (.bi (qgo y1.1) (fun y2=>
 .bi (br (y2.i.f==0)
 (some (y2.i.2.2.2.1==0)) (some false)) (fun y3=>
 .bi (br y3
 (br
 (sm
 (qhC x0 x1 x2 x3 x4 x5 x6 x7 x8 x9 x10 x11 x12 x13 x14 x15 x16 x17 x18 y2.1 y2.2.1 y2.2.2.1 y2.2.2.2.1 y2.f.1
 y2.f.2.1 y2.f.2.2.1 y2.f.2.2.2.1 y2.h.1
 y2.h.2.1 y2.h.2.2.1 y2.h.2.2.2.1
 y2.h.f.1 y2.h.f.2.1
 y2.h.f.2.2.1 y2.h.f.2.2.2.1
 y2.i.1 y2.i.2.1
 y2.i.2.2.1))
 (some
 (gv
 (qhC x0 x1 x2 x3 x4 x5 x6 x7 x8 x9 x10 x11 x12 x13 x14 x15 x16 x17 x18 y2.1 y2.2.1 y2.2.2.1 y2.2.2.2.1 y2.f.1
 y2.f.2.1 y2.f.2.2.1 y2.f.2.2.2.1 y2.h.1
 y2.h.2.1 y2.h.2.2.1 y2.h.2.2.2.1
 y2.h.f.1 y2.h.f.2.1
 y2.h.f.2.2.1 y2.h.f.2.2.2.1
 y2.i.1 y2.i.2.1
 y2.i.2.2.1)))
 none)
 (some false)) (fun y4=>
 .bi (br y4 (some (decide ((y1.1.length:Int)<=2048))) (some false)) (fun y5=>
 .bi (br y5 (br (sm qbX) (some (gv qbX)) none) (some false)) (fun y6=>
 .at (y6))
 (.no))
 (.no))
 (.no))
 (.no))
 (.no)))
 (.no)))
 (.no)
def qJh(x0 x1 x2:List UInt8)(x3 x4:Int)(x5 x6:Int)(x7:List AV)(x8:Bool)(x9 x10:Int)(x11:Bool)(x12:List AV)(x13:Bool)(x14 x15:Int)(x16:Bool)(x17 x18:List AV):Option q7z:=qaz (qBn x0 x1 x2 x3 x4 x5 x6 x7 x8 x9 x10 x11 x12 x13 x14 x15 x16 x17 x18).ev
theorem qUw(x0 x1 x2 x3 x4 x5 x6 x7 x8 x9 x10 x11 x12 x13 x14 x15 x16 x17 x18):qJh x0 x1 x2 x3 x4 x5 x6 x7 x8 x9 x10 x11 x12 x13 x14 x15 x16 x17 x18=(qBn x0 x1 x2 x3 x4 x5 x6 x7 x8 x9 x10 x11 x12 x13 x14 x15 x16 x17 x18).ev:=qaa _
theorem q9e:FH IP 5 qYK za3 (k19 qJh):=fh F5 (k19 qBn) qSP
def zuk:Tab:=(5,FE qYK za3 (k19 qJh))::zui
theorem qSR:qan IP zuk:=⟨qam q9e,qSP⟩
abbrev q7B:Type:=Bool
def zaf:PArgs:=⟨[.str],[]⟩
def za7:List PRes:=[⟨false,.bool,[]⟩]
def qBz(x0:List UInt8):DT q7B:=
 .br (decide ((x0.length:Int)>3000))
 (.bi (qbX) (fun y0=>
 .at (y0))
 (.no))
 (.bi (qgo x0) (fun y0=>
 .br (y0.i.f != 0)
 (.bi (qbX) (fun y1=>
 .at (y1))
 (.no))
 (.bi (qhr y0.1 y0.2.1 y0.2.2.1 y0.2.2.2.1 y0.f.1 y0.f.2.1 y0.f.2.2.1
 y0.f.2.2.2.1 y0.h.1 y0.h.2.1 y0.h.2.2.1
 y0.h.2.2.2.1 y0.h.f.1 y0.h.f.2.1
 y0.h.f.2.2.1 y0.h.f.2.2.2.1
 y0.i.1 y0.i.2.1
 y0.i.2.2.1) (fun y1=>
 .br (y1.2 != 0)
 (.bi (br (y1.2==5) (br (sm qbX) (some (gv qbX)) none) (some false)) (fun y2=>
 .at (y2))
 (.no))
 (.bi (qgo y1.1) (fun y2=>
 .bi (qhr y2.1 y2.2.1 y2.2.2.1 y2.2.2.2.1 y2.f.1 y2.f.2.1 y2.f.2.2.1
 y2.f.2.2.2.1 y2.h.1 y2.h.2.1 y2.h.2.2.1
 y2.h.2.2.2.1 y2.h.f.1 y2.h.f.2.1
 y2.h.f.2.2.1 y2.h.f.2.2.2.1
 y2.i.1 y2.i.2.1
 y2.i.2.2.1) (fun y3=>
 .bi (br (y2.i.f==0)
 (br
 (sm
 (qhC y0.1 y0.2.1 y0.2.2.1 y0.2.2.2.1 y0.f.1 y0.f.2.1 y0.f.2.2.1
 y0.f.2.2.2.1 y0.h.1 y0.h.2.1 y0.h.2.2.1
 y0.h.2.2.2.1 y0.h.f.1 y0.h.f.2.1
 y0.h.f.2.2.1 y0.h.f.2.2.2.1
 y0.i.1 y0.i.2.1
 y0.i.2.2.1 y2.1 y2.2.1 y2.2.2.1 y2.2.2.2.1 y2.f.1
 y2.f.2.1 y2.f.2.2.1 y2.f.2.2.2.1 y2.h.1
 y2.h.2.1 y2.h.2.2.1 y2.h.2.2.2.1
 y2.h.f.1 y2.h.f.2.1
 y2.h.f.2.2.1 y2.h.f.2.2.2.1
 y2.i.1 y2.i.2.1
 y2.i.2.2.1))
 (some
 (gv
 (qhC y0.1 y0.2.1 y0.2.2.1 y0.2.2.2.1 y0.f.1 y0.f.2.1 y0.f.2.2.1
 y0.f.2.2.2.1 y0.h.1 y0.h.2.1 y0.h.2.2.1
 y0.h.2.2.2.1 y0.h.f.1 y0.h.f.2.1
 y0.h.f.2.2.1 y0.h.f.2.2.2.1
 y0.i.1 y0.i.2.1
 y0.i.2.2.1 y2.1 y2.2.1 y2.2.2.1 y2.2.2.2.1 y2.f.1
 y2.f.2.1 y2.f.2.2.1 y2.f.2.2.2.1 y2.h.1
 y2.h.2.1 y2.h.2.2.1 y2.h.2.2.2.1
 y2.h.f.1 y2.h.f.2.1
 y2.h.f.2.2.1 y2.h.f.2.2.2.1
 y2.i.1 y2.i.2.1
 y2.i.2.2.1)))
 none)
 (some false)) (fun y4=>
 .bi (br y4 (some (y3.2==0)) (some false)) (fun y5=>
 .bi (br y5 (some (y3.1==y1.1)) (some false)) (fun y6=>
 .bi (br y6 (br (sm qbX) (some (gv qbX)) none) (some false)) (fun y7=>
 .at (y7))
 (.no))
 (.no))
 (.no))
 (.no))
 (.no))
 (.no)))
 (.no)))
 (.no))
def qJi(x0:List UInt8):Option q7B:=qaz (qBz x0).ev
theorem qUA(x0):qJi x0=(qBz x0).ev:=qaa _
theorem q9f:FH IP 6 zaf za7 qJi:=fh F6 qBz qSR
def zul:Tab:=(6,FE zaf za7 qJi)::zuk
theorem qSS:qan IP zul:=⟨qam q9f,qSR⟩
abbrev qQw:Type:=Bool
def qXS:PArgs:=⟨[.agg [.int .i64,.int .i64,.str]],[]⟩
def q0d:List PRes:=[⟨false,.bool,[]⟩]
def qrs(x0 x1:Int)(x2:List UInt8):DT qQw:=
 .bi (qjL x2) (fun y0=>
 .br (y0.2.2==0)
 (.br ((y0.1.length:Int)==1)
 (.br (qaH [.int .i64,.int .i64,.str] y0.1 0)
 (.br (intOf (cellAt y0.1 0 0)==x0)
 (.br (qaH [.int .i64,.int .i64,.str] y0.1 0) (.at (strOf (cellAt y0.1 0 2)==x2)) (.no))
 (.at (false)))
 (.no))
 (.at (false)))
 (.at (false)))
 (.no)
def qzn(x0 x1:Int)(x2:List UInt8):Option qQw:=qaz (qrs x0 x1 x2).ev
theorem qNN(x0 x1 x2):qzn x0 x1 x2=(qrs x0 x1 x2).ev:=qaa _
theorem qTC:FH IP 66 qXS q0d (k3 qzn):=fh F66 (k3 qrs) qSS
def zum:Tab:=(66,FE qXS q0d (k3 qzn))::zul
theorem qST:qan IP zum:=⟨qam qTC,qSS⟩
abbrev qPT:Type:=Bool×List AV×Int
def qW8:PArgs:=⟨[.ref 0 0 0,.str],[(0,.box [.view 3,.int .i64] false)]⟩
def qZt:List PRes:=[⟨false,.bool,[(0,.box [.view 3,.int .i64] false)]⟩]
def qqK(x0:List UInt8)(x1:List AV)(x2:Int):DT qPT:=
 .br (decide (x2>=(x1.length:Int)))
 (.at ((false,x1,x2)))
 (.br (qaH [.int .i64,.int .i64,.str] x1 x2)
 (.br (!strOf (cellAt x1 x2 2)==x0)
 (.at ((false,x1,x2)))
 (.bi (qbS x0) (fun y0=>
 .br (y0)
 (.br (qaH [.int .i64,.int .i64,.str] x1 x2) (.at ((intOf (cellAt x1 x2 0)==5,x1,x2))) (.no))
 (.br (qaH [.int .i64,.int .i64,.str] x1 x2) (.at ((intOf (cellAt x1 x2 0)==4,x1,x2))) (.no)))
 (.no)))
 (.no))
def qsU(x0:List UInt8)(x1:List AV)(x2:Int):Option qPT:=qaz (qqK x0 x1 x2).ev
theorem qM4(x0 x1 x2):qsU x0 x1 x2=(qqK x0 x1 x2).ev:=qaa _
theorem zcs:FH IP 266 qW8 qZt (k3 qsU):=fh zo0 (k3 qqK) qST
def zun:Tab:=(266,FE qW8 qZt (k3 qsU))::zum
theorem qSU:qan IP zun:=⟨qam zcs,qST⟩
abbrev q7P:Type:=Bool×List AV×Int
def zax:PArgs:=⟨[.ref 0 0 0,.str],[(0,.box [.view 3,.int .i64] false)]⟩
def zbp:List PRes:=[⟨false,.bool,[(0,.box [.view 3,.int .i64] false)]⟩]
def qBO(x0:List UInt8)(x1:List AV)(x2:Int):DT q7P:=
 .bi (qsU x0 x1 x2) (fun y0=>
 .br (!y0.1) (.at ((false,y0.2))) (.at ((true,y0.2.1,IntKind.i64.wrap (y0.2.2+1)))))
 (.no)
def qc6(x0:List UInt8)(x1:List AV)(x2:Int):Option q7P:=qaz (qBO x0 x1 x2).ev
theorem qUQ(x0 x1 x2):qc6 x0 x1 x2=(qBO x0 x1 x2).ev:=qaa _
theorem zkj:FH IP 241 zax zbp (k3 qc6):=fh zoU (k3 qBO) qSU
def zuo:Tab:=(241,FE zax zbp (k3 qc6))::zun
theorem qSV:qan IP zuo:=⟨qam zkj,qSU⟩
abbrev q71:Type:=Int×List AV×Int
def zaL:PArgs:=⟨[.ref 0 0 0],[(0,.box [.view 3,.int .i64] false)]⟩
def zbD:List PRes:=[⟨true,.iface 202 (.agg [.int .i64]),[(0,.box [.view 3,.int .i64] false)]⟩]
def qB5(x0:List AV)(x1:Int):DT q71:=
 .at ((x1,x0,x1))
def qhU(x0:List AV)(x1:Int):Option q71:=qaz (qB5 x0 x1).ev
theorem qU6(x0 x1):qhU x0 x1=(qB5 x0 x1).ev:=qaa _
theorem zkA:FH IP 269 zaL zbD (k2 qhU):=fh zo2 (k2 qB5) qSV
def zup:Tab:=(269,FE zaL zbD (k2 qhU))::zuo
theorem qSW:qan IP zup:=⟨qam zkA,qSV⟩
end
end Go.Proofs.H16
namespace Go.Proofs.H16
open Go Go.Eng
set_option maxRecDepth 100000
noncomputable section
abbrev qRL:Type:=(Int×List AV×Int)⊕(Int×List AV×Int)
def zay:PArgs:=⟨[.ref 0 0 0],[(0,.box [.view 3,.int .i64] false)]⟩
def zbq:List PRes:=[⟨false,.int .i64,[(0,.box [.view 3,.int .i64] false)]⟩,⟨true,.iface 202 (.agg [.int .i64]),[(0,.box [.view 3,.int .i64] false)]⟩]
def qBP(x0:List AV)(x1:Int):DT qRL:=
 .br (decide (x1>=(x0.length:Int)))
 (.bi (qhU x0 x1) (fun y0=>
 .at ((.inr (y0))))
 (.no))
 (.br (qaH [.int .i64,.int .i64,.str] x0 x1)
 (.br (intOf (cellAt x0 x1 0) != 2)
 (.bi (qhU x0 x1) (fun y0=>
 .at ((.inr (y0))))
 (.no))
 (.br (qaH [.int .i64,.int .i64,.str] x0 x1)
 (.br (pOk (strOf (cellAt x0 x1 2))&&nOk (Lib.atoiAll (strOf (cellAt x0 x1 2))))
 (.bi (br (gv (some (decide (qPP (Lib.atoiAll (strOf (cellAt x0 x1 2)))<0)))) (some true)
 (br (decide (-9223372036854775808<=qPP (Lib.atoiAll (strOf (cellAt x0 x1 2))))&&decide (qPP (Lib.atoiAll (strOf (cellAt x0 x1 2)))<=9223372036854775807))
 (some !Lib.itoa (qPP (Lib.atoiAll (strOf (cellAt x0 x1 2))))==strOf (cellAt x0 x1 2)) none)) (fun y0=>
 .br (y0)
 (.bi (qhU x0 x1) (fun y1=>
 .at ((.inr (y1))))
 (.no))
 (.at ((.inl (qPP (Lib.atoiAll (strOf (cellAt x0 x1 2))),x0,IntKind.i64.wrap (x1+1))))))
 (.no))
 (.br (pOk (strOf (cellAt x0 x1 2))&&qh5 (Lib.atoiAll (strOf (cellAt x0 x1 2))))
 (.bi (qhU x0 x1) (fun y0=>
 .at ((.inr (y0))))
 (.no))
 (.br (pOk (strOf (cellAt x0 x1 2))&&qdo (Lib.atoiAll (strOf (cellAt x0 x1 2))))
 (.bi (qhU x0 x1) (fun y0=>
 .at ((.inr (y0))))
 (.no))
 (.no))))
 (.no)))
 (.no))
def qdY(x0:List AV)(x1:Int):Option qRL:=qaz (qBP x0 x1).ev
theorem qUR(x0 x1):qdY x0 x1=(qBP x0 x1).ev:=qaa _
theorem zkl:FH IP 286 zay zbq (k2 qdY):=fh zo5 (k2 qBP) qSW
def zuq:Tab:=(286,FE zay zbq (k2 qdY))::zup
theorem qSX:qan IP zuq:=⟨qam zkl,qSW⟩
abbrev q72:Type:=(Int×List AV×Int)⊕(List AV×Int)
def zaM:PArgs:=⟨[.ref 0 0 0,.str],[(0,.box [.view 3,.int .i64] false)]⟩
def zbE:List PRes:=[⟨true,.iface 202 (.agg [.int .i64]),[(0,.box [.view 3,.int .i64] false)]⟩,⟨false,.tup [],[(0,.box [.view 3,.int .i64] false)]⟩]
def qB7(x0:List UInt8)(x1:List AV)(x2:Int):DT q72:=
 .bi (qc6 x0 x1 x2) (fun y0=>
 .br (!y0.1)
 (.bi (qhU y0.2.1 y0.2.2) (fun y1=>
 .at ((.inl (y1))))
 (.no))
 (.at ((.inr (y0.2)))))
 (.no)
def qdZ(x0:List UInt8)(x1:List AV)(x2:Int):Option q72:=qaz (qB7 x0 x1 x2).ev
theorem qU7(x0 x1 x2):qdZ x0 x1 x2=(qB7 x0 x1 x2).ev:=qaa _
theorem zkC:FH IP 243 zaM zbE (k3 qdZ):=fh zoV (k3 qB7) qSX
def zur:Tab:=(243,FE zaM zbE (k3 qdZ))::zuq
theorem qFU:qan IP zur:=⟨qam zkC,qSX⟩
abbrev qix:Type:=List AV×Int×Int×List AV×Int
def qVt:List PSt:=[⟨[(1026800,.junk),(0,.ref 0 0 0),(10,.view 2),(11,.int .i64),(12,.int .i64)],[(0,.box [.view 3,.int .i64] false)],1,1⟩]
def q6J(x0:List AV)(x1 x2:Int)(x3:List AV)(x4:Int):X×St:=(.ret,
 ⟨[(4,.int .i64 (intOf (cellAt x0 x2 1)))],[(0,
 .box
 [.view 3 (gv (qc6 (strOf (cellAt x0 x2 0)) x3 x4)).2.1,.int .i64 (gv (qc6 (strOf (cellAt x0 x2 0)) x3 x4)).2.2]
 false)],1,1⟩)
def q6K(x0:List AV)(x1 x2:Int)(x3:List AV)(x4:Int):X×St:=(.exit 0,⟨[(4,.junk)],[(0,.box [.view 3 x3,.int .i64 x4] false)],1,1⟩)
def znb:List (qix->X×St):=[(k5 q6J),(k5 q6K)]
def qku(x0:List AV)(x1 x2:Int)(x3:List AV)(x4:Int):DT (Rd qix):=
 .br (decide (x2<x1))
 (.br (qaH [.str,.int .i64] x0 x2)
 (.bi (qc6 (strOf (cellAt x0 x2 0)) x3 x4) (fun y0=>
 .br (y0.1) (.at (.done 0)) (.at (.next ((x0,x1,IntKind.i64.wrap (x2+1),y0.2)))))
 (.no))
 (.no))
 (.at (.done 1))
def qIn:qix->DT (Rd qix):=(fun v=>qku v.1 v.2.1 v.2.2.1 v.2.2.2.1 v.f)
def qDe(v:qix):Option (Nat×qix):=qaz (qaf (fun v=>(qIn v).ev) v)
theorem qDf(v):qDe v=qaf (fun v=>(qIn v).ev) v:=qaa _
def qV8:qbQ:=LE (τ:=qix) (hD qVt) (qDe) znb
theorem zms:Go.Eng.Told IP (qad ziG 0).1 (qad ziG 0).2 (qV8):=lp (inferInstance:Inhabited qix) (hs:=qVt) qIn qFU qDf
abbrev q7H:Type:=Int×List AV×Int
def zal:PArgs:=⟨[.ref 0 0 0,.int .i64],[(0,.box [.view 3,.int .i64] false)]⟩
def zbd:List PRes:=[⟨false,.int .i64,[(0,.box [.view 3,.int .i64] false)]⟩]
def qBG(x0:Int)(x1:List AV)(x2:Int):DT q7H:=
 .bi (ql6) (fun y0=>
 .br (qaH [.slice 2] y0 x0)
 (.bi (pj 0 (qDe (qaq (cellAt y0 x0 0),((qaq (cellAt y0 x0 0)).length:Int),0,x1,x2))) (fun y1=>
 .at ((intOf (cellAt y1.1 y1.2.2.1 1),(gv (qc6 (strOf (cellAt y1.1 y1.2.2.1 0)) y1.2.2.2.1 y1.f)).2.1,(gv (qc6 (strOf (cellAt y1.1 y1.2.2.1 0)) y1.2.2.2.1 y1.f)).2.2)))
 (.bi (pj 1 (qDe (qaq (cellAt y0 x0 0),((qaq (cellAt y0 x0 0)).length:Int),0,x1,x2))) (fun y1=>
 .at ((0,y1.2.2.2)))
 (.no)))
 (.no))
 (.no)
def qpQ(x0:Int)(x1:List AV)(x2:Int):Option q7H:=qaz (qBG x0 x1 x2).ev
theorem qUG(x0 x1 x2):qpQ x0 x1 x2=(qBG x0 x1 x2).ev:=qaa _
theorem zj7:FH IP 268 zal zbd (k3 qpQ):=qah (F:=ziG) (L:=[(1026800,qV8)]) (t:=(k3 qBG)) qFU (qac (l:=[qad ziG 0]) (by kernel_rfl) ⟨qau (by kernel_rfl) zms,trivial⟩) (by kernel_rfl) (fun v=>by kernel_rfl) (fun _=>qaa _)
def zpg:Tab:=(268,FE zal zbd (k3 qpQ))::zur
theorem qSY:qan IP zpg:=⟨qam zj7,qFU⟩
abbrev qRN:Type:=(Int×Int×List UInt8×List AV×List AV×Int)⊕(Int×List AV×Int)
def qD3:PArgs:=⟨[.ref 0 0 0],[(0,.box [.view 3,.int .i64] false)]⟩
def qEi:List PRes:=[⟨false,.agg [.int .i64,.int .i64,.str,.view 4],[(0,.box [.view 3,.int .i64] false)]⟩,⟨true,.iface 202 (.agg [.int .i64]),[(0,.box [.view 3,.int .i64] false)]⟩]
abbrev qbG:Type:=(List AV)->Int->Option qRN
abbrev qsq:Type:=(Int×Int×List UInt8×List AV×List AV×Int)⊕(Int×List AV×Int)
def qD0:PArgs:=⟨[.ref 0 0 0,.int .i64],[(0,.box [.view 3,.int .i64] false)]⟩
def qEf:List PRes:=[⟨false,.agg [.int .i64,.int .i64,.str,.view 4],[(0,.box [.view 3,.int .i64] false)]⟩,⟨true,.iface 202 (.agg [.int .i64]),[(0,.box [.view 3,.int .i64] false)]⟩]
abbrev qbF:Type:=Int->(List AV)->Int->Option qsq
abbrev qRQ:Type:=(Int×Int×List UInt8×List AV×List AV×Int)⊕(Int×List AV×Int)
def qD5:PArgs:=⟨[.ref 0 0 0],[(0,.box [.view 3,.int .i64] false)]⟩
def qEk:List PRes:=[⟨false,.agg [.int .i64,.int .i64,.str,.view 4],[(0,.box [.view 3,.int .i64] false)]⟩,⟨true,.iface 202 (.agg [.int .i64]),[(0,.box [.view 3,.int .i64] false)]⟩]
abbrev qbI:Type:=(List AV)->Int->Option qRQ
abbrev qIJ:Type:=(Int×Int×List UInt8×List AV×List AV×Int)⊕(Int×List AV×Int)
def qDZ:PArgs:=⟨[.ref 0 0 0],[(0,.box [.view 3,.int .i64] false)]⟩
def qEe:List PRes:=[⟨false,.agg [.int .i64,.int .i64,.str,.view 4],[(0,.box [.view 3,.int .i64] false)]⟩,⟨true,.iface 202 (.agg [.int .i64]),[(0,.box [.view 3,.int .i64] false)]⟩]
abbrev qbE:Type:=(List AV)->Int->Option qIJ
abbrev qRO:Type:=(Int×List AV×Int)⊕(Int×Int×List UInt8×List AV×List AV×Int)
def qD4:PArgs:=⟨[.ref 0 0 0,.int .i64],[(0,.box [.view 3,.int .i64] false)]⟩
def qEj:List PRes:=[⟨true,.iface 202 (.agg [.int .i64]),[(0,.box [.view 3,.int .i64] false)]⟩,⟨false,.agg [.int .i64,.int .i64,.str,.view 4],[(0,.box [.view 3,.int .i64] false)]⟩]
abbrev qbH:Type:=Int->(List AV)->Int->Option qRO
def qFk(G_u84q:qbG)(G_u65q:qbF)(G_u95q:qbI)(G_u54q:qbE)(G_u86q:qbH):Prop:=FH IP 209 qD3 qEi (k2 G_u84q)/\FH IP 242 qD0 qEf (k3 G_u65q)/\FH IP 267 qD5 qEk (k2 G_u95q)/\FH IP 283 qDZ qEe (k2 G_u54q)/\FH IP 287 qD4 qEj (k3 G_u86q)
def zcb(G_u84q:qbG)(G_u65q:qbF)(G_u95q:qbI)(G_u54q:qbE)(G_u86q:qbH):Tab:=(209,FE qD3 qEi (k2 G_u84q))::(242,FE qD0 qEf (k3 G_u65q))::(267,FE qD5 qEk (k2 G_u95q))::(283,FE qDZ qEe (k2 G_u54q))::(287,FE qD4 qEj (k3 G_u86q))::zpg
theorem qfY(G_u84q:qbG)(G_u65q:qbF)(G_u95q:qbI)(G_u54q:qbE)(G_u86q:qbH)(hG:qFk G_u84q G_u65q G_u95q G_u54q G_u86q):qan IP (zcb G_u84q G_u65q G_u95q G_u54q G_u86q):=⟨qam (hG.1),qam (hG.2.1),qam (hG.2.2.1),qam (hG.2.2.2.1),qam (hG.2.2.2.2),qSY⟩
abbrev qgf:Type:=(Int×Int×List AV×Int×Int×Int×List UInt8×Int×Int×List UInt8×List AV)⊕(Int×Int×List AV×Int×Int×Int×List UInt8×Int×Int×List UInt8×List AV)
def qVw:List PSt:=[⟨[(1024200,.junk),(0,.ref 0 0 0),(1,.int .i64),(4,.ref 1 0 0),(5,.ref 2 0 0),(6,.int .i64)],[(0,.box [.view 3,.int .i64] false),(1,.box [.int .i64,.int .i64,.str,.nils 4] false),(2,.box [.int .i64,.int .i64,.str,.view 4] false)],3,1⟩,⟨[(1024200,.junk),(0,.ref 0 0 0),(1,.int .i64),(4,.ref 1 0 0),(5,.ref 2 0 0),(6,.int .i64)],[(0,.box [.view 3,.int .i64] false),(1,.box [.int .i64,.int .i64,.str,.nils 4] false),(2,.box [.int .i64,.int .i64,.str,.own 3 0] false),(3,.arr 4 false)],4,1⟩]
def q6O(G_u84q:qbG)(G_u65q:qbF)(G_u95q:qbI)(G_u54q:qbE)(G_u86q:qbH)(x0 x1:Int)(x2:List AV)(x3 x4 x5:Int)(x6:List UInt8)(x7 x8:Int)(x9:List UInt8)(x10:List AV):X×St:=(.exit 0,
 ⟨[(4,.ref 1 0 0),(5,.ref 2 0 0)],[(0,
 .box
 [.view 3 (gv (pl (G_u65q (IntKind.i64.wrap (x0+1)) x2 x3))).f.1,
 .int .i64 (gv (pl (G_u65q (IntKind.i64.wrap (x0+1)) x2 x3))).f.2]
 false),
 (1,.box [.int .i64 x4,.int .i64 x5,.str x6,.nils ⟨4,.nil⟩] false),
 (2,.box [.int .i64 x1,.int .i64 0,.str [],.own 3 0 none] false),
 (3,
 .arr 4
 [.agg [.int .i64 x7,.int .i64 x8,.str x9,.view 4 x10],
 .agg
 [.int .i64 (gv (pl (G_u65q (IntKind.i64.wrap (x0+1)) x2 x3))).1,
 .int .i64 (gv (pl (G_u65q (IntKind.i64.wrap (x0+1)) x2 x3))).2.1,
 .str (gv (pl (G_u65q (IntKind.i64.wrap (x0+1)) x2 x3))).2.2.1,
 .view 4 (gv (pl (G_u65q (IntKind.i64.wrap (x0+1)) x2 x3))).2.2.2.1]]
 false)],4,1⟩)
def q6P(G_u84q:qbG)(G_u65q:qbF)(G_u95q:qbI)(G_u54q:qbE)(G_u86q:qbH)(x0 x1:Int)(x2:List AV)(x3 x4 x5:Int)(x6:List UInt8)(x7 x8:Int)(x9:List UInt8)(x10:List AV):X×St:=(.pan (.iface 202 (.agg [.int .i64 (gv (pr (G_u65q (IntKind.i64.wrap (x0+1)) x2 x3))).1])),
 ⟨[],[(0,
 .box
 [.view 3 (gv (pr (G_u65q (IntKind.i64.wrap (x0+1)) x2 x3))).2.1,
 .int .i64 (gv (pr (G_u65q (IntKind.i64.wrap (x0+1)) x2 x3))).2.2]
 false),
 (1,.box [.int .i64 x4,.int .i64 x5,.str x6,.nils ⟨4,.nil⟩] false),
 (2,.box [.int .i64 x7,.int .i64 x8,.str x9,.view 4 x10] false)],179,1⟩)
def q6Q(G_u84q:qbG)(G_u65q:qbF)(G_u95q:qbI)(G_u54q:qbE)(G_u86q:qbH)(x0 x1:Int)(x2:List AV)(x3 x4 x5:Int)(x6:List UInt8)(x7 x8:Int)(x9:List UInt8)(x10:List AV):X×St:=(.exit 0,
 ⟨[(4,.ref 1 0 0),(5,.ref 2 0 0)],[(0,.box [.view 3 x2,.int .i64 x3] false),(1,.box [.int .i64 x4,.int .i64 x5,.str x6,.nils ⟨4,.nil⟩] false),
 (2,.box [.int .i64 x7,.int .i64 x8,.str x9,.view 4 x10] false)],3,1⟩)
def q6R(G_u84q:qbG)(G_u65q:qbF)(G_u95q:qbI)(G_u54q:qbE)(G_u86q:qbH)(x0 x1:Int)(x2:List AV)(x3 x4 x5:Int)(x6:List UInt8)(x7 x8:Int)(x9:List UInt8)(x10:List AV):X×St:=(.exit 0,
 ⟨[(4,.ref 1 0 0),(5,.ref 2 0 0)],[(0,
 .box
 [.view 3 (gv (pl (G_u65q (IntKind.i64.wrap (x0+1)) x2 x3))).f.1,
 .int .i64 (gv (pl (G_u65q (IntKind.i64.wrap (x0+1)) x2 x3))).f.2]
 false),
 (1,.box [.int .i64 x4,.int .i64 x5,.str x6,.nils ⟨4,.nil⟩] false),
 (2,.box [.int .i64 x1,.int .i64 0,.str [],.own 3 0 none] false),
 (3,
 .arr 4
 [.agg [.int .i64 x7,.int .i64 x8,.str x9,.view 4 x10],
 .agg
 [.int .i64 (gv (pl (G_u65q (IntKind.i64.wrap (x0+1)) x2 x3))).1,
 .int .i64 (gv (pl (G_u65q (IntKind.i64.wrap (x0+1)) x2 x3))).2.1,
 .str (gv (pl (G_u65q (IntKind.i64.wrap (x0+1)) x2 x3))).2.2.1,
 .view 4 (gv (pl (G_u65q (IntKind.i64.wrap (x0+1)) x2 x3))).2.2.2.1]]
 false)],4,1⟩)
def q6S(G_u84q:qbG)(G_u65q:qbF)(G_u95q:qbI)(G_u54q:qbE)(G_u86q:qbH)(x0 x1:Int)(x2:List AV)(x3 x4 x5:Int)(x6:List UInt8)(x7 x8:Int)(x9:List UInt8)(x10:List AV):X×St:=(.pan (.iface 202 (.agg [.int .i64 (gv (pr (G_u65q (IntKind.i64.wrap (x0+1)) x2 x3))).1])),
 ⟨[],[(0,
 .box
 [.view 3 (gv (pr (G_u65q (IntKind.i64.wrap (x0+1)) x2 x3))).2.1,
 .int .i64 (gv (pr (G_u65q (IntKind.i64.wrap (x0+1)) x2 x3))).2.2]
 false),
 (1,.box [.int .i64 x4,.int .i64 x5,.str x6,.nils ⟨4,.nil⟩] false),
 (2,.box [.int .i64 x7,.int .i64 x8,.str x9,.own 3 0 none] false),(3,.arr 4 x10 false)],180,1⟩)
def q6T(G_u84q:qbG)(G_u65q:qbF)(G_u95q:qbI)(G_u54q:qbE)(G_u86q:qbH)(x0 x1:Int)(x2:List AV)(x3 x4 x5:Int)(x6:List UInt8)(x7 x8:Int)(x9:List UInt8)(x10:List AV):X×St:=(.exit 0,
 ⟨[(4,.ref 1 0 0),(5,.ref 2 0 0)],[(0,.box [.view 3 x2,.int .i64 x3] false),(1,.box [.int .i64 x4,.int .i64 x5,.str x6,.nils ⟨4,.nil⟩] false),
 (2,.box [.int .i64 x7,.int .i64 x8,.str x9,.own 3 0 none] false),(3,.arr 4 x10 false)],4,1⟩)
def zne(G_u84q:qbG)(G_u65q:qbF)(G_u95q:qbI)(G_u54q:qbE)(G_u86q:qbH):List (qgf->X×St):=[fun w=>(k11 (q6O G_u84q G_u65q G_u95q G_u54q G_u86q)) ((sl w)),fun w=>(k11 (q6P G_u84q G_u65q G_u95q G_u54q G_u86q)) ((sl w)),fun w=>(k11 (q6Q G_u84q G_u65q G_u95q G_u54q G_u86q)) ((sl w)),fun w=>(k11 (q6R G_u84q G_u65q G_u95q G_u54q G_u86q)) ((sr w)),fun w=>(k11 (q6S G_u84q G_u65q G_u95q G_u54q G_u86q)) ((sr w)),fun w=>(k11 (q6T G_u84q G_u65q G_u95q G_u54q G_u86q)) ((sr w))]
def q1G(G_u84q:qbG)(G_u65q:qbF)(G_u95q:qbI)(G_u54q:qbE)(G_u86q:qbH)(x0 x1:Int)(x2:List AV)(x3 x4 x5:Int)(x6:List UInt8)(x7 x8:Int)(x9:List UInt8)(x10:List AV):DT (Rd qgf):=
 .br (x1 != 0)
 (.bi (pl (G_u65q (IntKind.i64.wrap (x0+1)) x2 x3)) (fun y0=>
 .br (x0==2)
 (.at (.done 0))
 (.bi (qpQ x0 y0.f.1 y0.f.2) (fun y1=>
 .at (.next ((.inr (x0,y1.1,y1.2.1,y1.2.2,x4,x5,x6,x1,0,[],[AV.agg [.int .i64 x7,.int .i64 x8,AV.str x9,AV.view 4 x10],
 AV.agg [.int .i64 y0.1,.int .i64 y0.2.1,AV.str y0.2.2.1,AV.view 4 y0.2.2.2.1]])))))
 (.no)))
 (.bi (pr (G_u65q (IntKind.i64.wrap (x0+1)) x2 x3)) (fun y0=>
 .at (.done 1))
 (.no)))
 (.at (.done 2))
def q1H(G_u84q:qbG)(G_u65q:qbF)(G_u95q:qbI)(G_u54q:qbE)(G_u86q:qbH)(x0 x1:Int)(x2:List AV)(x3 x4 x5:Int)(x6:List UInt8)(x7 x8:Int)(x9:List UInt8)(x10:List AV):DT (Rd qgf):=
 .br (x1 != 0)
 (.bi (pl (G_u65q (IntKind.i64.wrap (x0+1)) x2 x3)) (fun y0=>
 .br (x0==2)
 (.at (.done 3))
 (.bi (qpQ x0 y0.f.1 y0.f.2) (fun y1=>
 .at (.next ((.inr (x0,y1.1,y1.2.1,y1.2.2,x4,x5,x6,x1,0,[],[AV.agg [.int .i64 x7,.int .i64 x8,AV.str x9,AV.view 4 x10],
 AV.agg [.int .i64 y0.1,.int .i64 y0.2.1,AV.str y0.2.2.1,AV.view 4 y0.2.2.2.1]])))))
 (.no)))
 (.bi (pr (G_u65q (IntKind.i64.wrap (x0+1)) x2 x3)) (fun y0=>
 .at (.done 4))
 (.no)))
 (.at (.done 5))
def qIo(G_u84q:qbG)(G_u65q:qbF)(G_u95q:qbI)(G_u54q:qbE)(G_u86q:qbH):qgf->DT (Rd qgf):=(Sum.elim (fun v=>q1G G_u84q G_u65q G_u95q G_u54q G_u86q v.1 v.2.1 v.2.2.1 v.2.2.2.1 v.f.1 v.f.2.1 v.f.2.2.1 v.f.2.2.2.1 v.h.1 v.h.2.1 v.h.2.2) (fun v=>q1H G_u84q G_u65q G_u95q G_u54q G_u86q v.1 v.2.1 v.2.2.1 v.2.2.2.1 v.f.1 v.f.2.1 v.f.2.2.1 v.f.2.2.2.1 v.h.1 v.h.2.1 v.h.2.2))
def qdP(G_u84q:qbG)(G_u65q:qbF)(G_u95q:qbI)(G_u54q:qbE)(G_u86q:qbH)(v:qgf):Option (Nat×qgf):=qaz (qaf (fun v=>(qIo G_u84q G_u65q G_u95q G_u54q G_u86q v).ev) v)
theorem qh3(G_u84q G_u65q G_u95q G_u54q G_u86q v):qdP G_u84q G_u65q G_u95q G_u54q G_u86q v=qaf (fun v=>(qIo G_u84q G_u65q G_u95q G_u54q G_u86q v).ev) v:=qaa _
def qWb(G_u84q:qbG)(G_u65q:qbF)(G_u95q:qbI)(G_u54q:qbE)(G_u86q:qbH):qbQ:=LE (τ:=qgf) (hD qVw) (qdP G_u84q G_u65q G_u95q G_u54q G_u86q) (zne G_u84q G_u65q G_u95q G_u54q G_u86q)
theorem zmv(G_u84q:qbG)(G_u65q:qbF)(G_u95q:qbI)(G_u54q:qbE)(G_u86q:qbH)(hG:qFk G_u84q G_u65q G_u95q G_u54q G_u86q):Go.Eng.Told IP (qad ziD 0).1 (qad ziD 0).2 (qWb G_u84q G_u65q G_u95q G_u54q G_u86q):=qav (inferInstance:Inhabited qgf) (hs:=qVw) (st:=qIo G_u84q G_u65q G_u95q G_u54q G_u86q) (L:=[]) (qfY G_u84q G_u65q G_u95q G_u54q G_u86q hG) (qac (l:=[]) (by kernel_rfl) trivial) (qh3 G_u84q G_u65q G_u95q G_u54q G_u86q) (fun v=>match v with|(.inl v)=>by kernel_rfl|(.inr v)=>by kernel_rfl) (fun v=>match v with|(.inl v)=>by kernel_rfl|(.inr v)=>by kernel_rfl)
def qB4(G_u84q:qbG)(G_u65q:qbF)(G_u95q:qbI)(G_u54q:qbE)(G_u86q:qbH)(x0:List AV)(x1:Int):DT qRN:=
 .bi (qc6 [105,102] x0 x1) (fun y0=>
 .br (!y0.1)
 (.bi (pl (G_u65q 0 y0.2.1 y0.2.2)) (fun y1=>
 .at ((.inl (y1))))
 (.bi (pr (G_u65q 0 y0.2.1 y0.2.2)) (fun y1=>
 .at ((.inr (y1))))
 (.no)))
 (.bi (pl (G_u84q y0.2.1 y0.2.2)) (fun y1=>
 .bi (pl (qdZ [116,104,101,110] y1.f.1 y1.f.2)) (fun y2=>
 .at ((.inr (y2))))
 (.bi (pr (qdZ [116,104,101,110] y1.f.1 y1.f.2)) (fun y2=>
 .bi (pl (G_u84q y2.1 y2.2)) (fun y3=>
 .bi (pl (qdZ [101,108,115,101] y3.f.1 y3.f.2)) (fun y4=>
 .at ((.inr (y4))))
 (.bi (pr (qdZ [101,108,115,101] y3.f.1 y3.f.2)) (fun y4=>
 .bi (pl (G_u84q y4.1 y4.2)) (fun y5=>
 .at ((.inl (19,0,[],[AV.agg [.int .i64 y1.1,.int .i64 y1.2.1,AV.str y1.2.2.1,AV.view 4 y1.2.2.2.1],
 AV.agg [.int .i64 y3.1,.int .i64 y3.2.1,AV.str y3.2.2.1,AV.view 4 y3.2.2.2.1],
 AV.agg [.int .i64 y5.1,.int .i64 y5.2.1,AV.str y5.2.2.1,AV.view 4 y5.2.2.2.1]],y5.f))))
 (.bi (pr (G_u84q y4.1 y4.2)) (fun y5=>
 .at ((.inr (y5))))
 (.no)))
 (.no)))
 (.bi (pr (G_u84q y2.1 y2.2)) (fun y3=>
 .at ((.inr (y3))))
 (.no)))
 (.no)))
 (.bi (pr (G_u84q y0.2.1 y0.2.2)) (fun y1=>
 .at ((.inr (y1))))
 (.no))))
 (.no)
def qhK(G_u84q:qbG)(G_u65q:qbF)(G_u95q:qbI)(G_u54q:qbE)(G_u86q:qbH)(x0:Int)(x1:List AV)(x2:Int):DT qsq:=
 .bi (ql6) (fun y0=>
 .br (x0==(y0.length:Int))
 (.bi (pl (G_u95q x1 x2)) (fun y1=>
 .at ((.inl (y1))))
 (.bi (pr (G_u95q x1 x2)) (fun y1=>
 .at ((.inr (y1))))
 (.no)))
 (.br (x0==2)
 (.bi (qc6 [110,111,116] x1 x2) (fun y1=>
 .br (y1.1)
 (.bi (pl (G_u65q 2 y1.2.1 y1.2.2)) (fun y2=>
 .at ((.inl (16,0,[],[AV.agg [.int .i64 y2.1,.int .i64 y2.2.1,AV.str y2.2.2.1,AV.view 4 y2.2.2.2.1]],y2.f))))
 (.bi (pr (G_u65q 2 y1.2.1 y1.2.2)) (fun y2=>
 .at ((.inr (y2))))
 (.no)))
 (.bi (pl (G_u65q (IntKind.i64.wrap (x0+1)) y1.2.1 y1.2.2)) (fun y2=>
 .bi (qpQ x0 y2.f.1 y2.f.2) (fun y3=>
 .bi (pj 0
 (qdP G_u84q G_u65q G_u95q G_u54q G_u86q
 (Sum.inl (x0,y3.1,y3.2.1,y3.2.2,0,0,[],y2.1,y2.2.1,y2.2.2.1,y2.2.2.2.1)))) (fun y4=>
 .at ((.inl ((sl y4).2.1,0,[],[AV.agg
 [.int .i64 (sl y4).f.2.2.2.1,.int .i64 (sl y4).h.1,
 AV.str (sl y4).h.2.1,AV.view 4 (sl y4).h.2.2],
 AV.agg
 [.int .i64 (gv (pl (G_u65q (IntKind.i64.wrap ((sl y4).1+1)) (sl y4).2.2.1 (sl y4).2.2.2.1))).1,
 .int .i64 (gv (pl (G_u65q (IntKind.i64.wrap ((sl y4).1+1)) (sl y4).2.2.1 (sl y4).2.2.2.1))).2.1,
 AV.str (gv (pl (G_u65q (IntKind.i64.wrap ((sl y4).1+1)) (sl y4).2.2.1 (sl y4).2.2.2.1))).2.2.1,
 AV.view 4 (gv (pl (G_u65q (IntKind.i64.wrap ((sl y4).1+1)) (sl y4).2.2.1 (sl y4).2.2.2.1))).2.2.2.1]],(gv (pl (G_u65q (IntKind.i64.wrap ((sl y4).1+1)) (sl y4).2.2.1 (sl y4).2.2.2.1))).f.1,(gv (pl (G_u65q (IntKind.i64.wrap ((sl y4).1+1)) (sl y4).2.2.1 (sl y4).2.2.2.1))).f.2))))
 (.bi (pj 1
 (qdP G_u84q G_u65q G_u95q G_u54q G_u86q
 (Sum.inl (x0,y3.1,y3.2.1,y3.2.2,0,0,[],y2.1,y2.2.1,y2.2.2.1,y2.2.2.2.1)))) (fun y4=>
 .at ((.inr ((gv (pr (G_u65q (IntKind.i64.wrap ((sl y4).1+1)) (sl y4).2.2.1 (sl y4).2.2.2.1))).1,(gv (pr (G_u65q (IntKind.i64.wrap ((sl y4).1+1)) (sl y4).2.2.1 (sl y4).2.2.2.1))).2.1,(gv (pr (G_u65q (IntKind.i64.wrap ((sl y4).1+1)) (sl y4).2.2.1 (sl y4).2.2.2.1))).2.2))))
 (.bi (pj 2
 (qdP G_u84q G_u65q G_u95q G_u54q G_u86q
 (Sum.inl (x0,y3.1,y3.2.1,y3.2.2,0,0,[],y2.1,y2.2.1,y2.2.2.1,y2.2.2.2.1)))) (fun y4=>
 .at ((.inl ((sl y4).f.2.2.2.1,(sl y4).h.1,(sl y4).h.2.1,(sl y4).h.2.2,(sl y4).2.2.1,(sl y4).2.2.2.1))))
 (.bi (pj 3
 (qdP G_u84q G_u65q G_u95q G_u54q G_u86q
 (Sum.inl (x0,y3.1,y3.2.1,y3.2.2,0,0,[],y2.1,y2.2.1,y2.2.2.1,y2.2.2.2.1)))) (fun y4=>
 .at ((.inl ((sr y4).2.1,0,[],[AV.agg
 [.int .i64 (sr y4).f.2.2.2.1,.int .i64 (sr y4).h.1,
 AV.str (sr y4).h.2.1,AV.view 4 (sr y4).h.2.2],
 AV.agg
 [.int .i64 (gv (pl (G_u65q (IntKind.i64.wrap ((sr y4).1+1)) (sr y4).2.2.1 (sr y4).2.2.2.1))).1,
 .int .i64 (gv (pl (G_u65q (IntKind.i64.wrap ((sr y4).1+1)) (sr y4).2.2.1 (sr y4).2.2.2.1))).2.1,
 AV.str (gv (pl (G_u65q (IntKind.i64.wrap ((sr y4).1+1)) (sr y4).2.2.1 (sr y4).2.2.2.1))).2.2.1,
 AV.view 4 (gv (pl (G_u65q (IntKind.i64.wrap ((sr y4).1+1)) (sr y4).2.2.1 (sr y4).2.2.2.1))).2.2.2.1]],(gv (pl (G_u65q (IntKind.i64.wrap ((sr y4).1+1)) (sr y4).2.2.1 (sr y4).2.2.2.1))).f.1,(gv (pl (G_u65q (IntKind.i64.wrap ((sr y4).1+1)) (sr y4).2.2.1 (sr y4).2.2.2.1))).f.2))))
 (.bi (pj 4
 (qdP G_u84q G_u65q G_u95q G_u54q G_u86q
 (Sum.inl (x0,y3.1,y3.2.1,y3.2.2,0,0,[],y2.1,y2.2.1,y2.2.2.1,y2.2.2.2.1)))) (fun y4=>
 .at ((.inr ((gv (pr (G_u65q (IntKind.i64.wrap ((sr y4).1+1)) (sr y4).2.2.1 (sr y4).2.2.2.1))).1,(gv (pr (G_u65q (IntKind.i64.wrap ((sr y4).1+1)) (sr y4).2.2.1 (sr y4).2.2.2.1))).2.1,(gv (pr (G_u65q (IntKind.i64.wrap ((sr y4).1+1)) (sr y4).2.2.1 (sr y4).2.2.2.1))).2.2))))
 (.bi (pj 5
 (qdP G_u84q G_u65q G_u95q G_u54q G_u86q
 (Sum.inl (x0,y3.1,y3.2.1,y3.2.2,0,0,[],y2.1,y2.2.1,y2.2.2.1,y2.2.2.2.1)))) (fun y4=>
 .at ((.inl ((sr y4).f.2.2.2.1,(sr y4).h.1,(sr y4).h.2.1,(sr y4).h.2.2,(sr y4).2.2.1,(sr y4).2.2.2.1))))
 (.no)))))))
 (.no))
 (.bi (pr (G_u65q (IntKind.i64.wrap (x0+1)) y1.2.1 y1.2.2)) (fun y2=>
 .at ((.inr (y2))))
 (.no))))
 (.no))
 (.bi (pl (G_u65q (IntKind.i64.wrap (x0+1)) x1 x2)) (fun y1=>
 .bi (qpQ x0 y1.f.1 y1.f.2) (fun y2=>
 .bi (pj 0
 (qdP G_u84q G_u65q G_u95q G_u54q G_u86q
 (Sum.inl (x0,y2.1,y2.2.1,y2.2.2,0,0,[],y1.1,y1.2.1,y1.2.2.1,y1.2.2.2.1)))) (fun y3=>
 .at ((.inl ((sl y3).2.1,0,[],[AV.agg
 [.int .i64 (sl y3).f.2.2.2.1,.int .i64 (sl y3).h.1,
 AV.str (sl y3).h.2.1,AV.view 4 (sl y3).h.2.2],
 AV.agg
 [.int .i64 (gv (pl (G_u65q (IntKind.i64.wrap ((sl y3).1+1)) (sl y3).2.2.1 (sl y3).2.2.2.1))).1,
 .int .i64 (gv (pl (G_u65q (IntKind.i64.wrap ((sl y3).1+1)) (sl y3).2.2.1 (sl y3).2.2.2.1))).2.1,
 AV.str (gv (pl (G_u65q (IntKind.i64.wrap ((sl y3).1+1)) (sl y3).2.2.1 (sl y3).2.2.2.1))).2.2.1,
 AV.view 4 (gv (pl (G_u65q (IntKind.i64.wrap ((sl y3).1+1)) (sl y3).2.2.1 (sl y3).2.2.2.1))).2.2.2.1]],(gv (pl (G_u65q (IntKind.i64.wrap ((sl y3).1+1)) (sl y3).2.2.1 (sl y3).2.2.2.1))).f.1,(gv (pl (G_u65q (IntKind.i64.wrap ((sl y3).1+1)) (sl y3).2.2.1 (sl y3).2.2.2.1))).f.2))))
 (.bi (pj 1
 (qdP G_u84q G_u65q G_u95q G_u54q G_u86q
 (Sum.inl (x0,y2.1,y2.2.1,y2.2.2,0,0,[],y1.1,y1.2.1,y1.2.2.1,y1.2.2.2.1)))) (fun y3=>
 .at ((.inr ((gv (pr (G_u65q (IntKind.i64.wrap ((sl y3).1+1)) (sl y3).2.2.1 (sl y3).2.2.2.1))).1,(gv (pr (G_u65q (IntKind.i64.wrap ((sl y3).1+1)) (sl y3).2.2.1 (sl y3).2.2.2.1))).2.1,(gv (pr (G_u65q (IntKind.i64.wrap ((sl y3).1+1)) (sl y3).2.2.1 (sl y3).2.2.2.1))).2.2))))
 (.bi (pj 2
 (qdP G_u84q G_u65q G_u95q G_u54q G_u86q
 (Sum.inl (x0,y2.1,y2.2.1,y2.2.2,0,0,[],y1.1,y1.2.1,y1.2.2.1,y1.2.2.2.1)))) (fun y3=>
 .at ((.inl ((sl y3).f.2.2.2.1,(sl y3).h.1,(sl y3).h.2.1,(sl y3).h.2.2,(sl y3).2.2.1,(sl y3).2.2.2.1))))
 (.bi (pj 3
 (qdP G_u84q G_u65q G_u95q G_u54q G_u86q
 (Sum.inl (x0,y2.1,y2.2.1,y2.2.2,0,0,[],y1.1,y1.2.1,y1.2.2.1,y1.2.2.2.1)))) (fun y3=>
 .at ((.inl ((sr y3).2.1,0,[],[AV.agg
 [.int .i64 (sr y3).f.2.2.2.1,.int .i64 (sr y3).h.1,
 AV.str (sr y3).h.2.1,AV.view 4 (sr y3).h.2.2],
 AV.agg
 [.int .i64 (gv (pl (G_u65q (IntKind.i64.wrap ((sr y3).1+1)) (sr y3).2.2.1 (sr y3).2.2.2.1))).1,
 .int .i64 (gv (pl (G_u65q (IntKind.i64.wrap ((sr y3).1+1)) (sr y3).2.2.1 (sr y3).2.2.2.1))).2.1,
 AV.str (gv (pl (G_u65q (IntKind.i64.wrap ((sr y3).1+1)) (sr y3).2.2.1 (sr y3).2.2.2.1))).2.2.1,
 AV.view 4 (gv (pl (G_u65q (IntKind.i64.wrap ((sr y3).1+1)) (sr y3).2.2.1 (sr y3).2.2.2.1))).2.2.2.1]],(gv (pl (G_u65q (IntKind.i64.wrap ((sr y3).1+1)) (sr y3).2.2.1 (sr y3).2.2.2.1))).f.1,(gv (pl (G_u65q (IntKind.i64.wrap ((sr y3).1+1)) (sr y3).2.2.1 (sr y3).2.2.2.1))).f.2))))
 (.bi (pj 4
 (qdP G_u84q G_u65q G_u95q G_u54q G_u86q
 (Sum.inl (x0,y2.1,y2.2.1,y2.2.2,0,0,[],y1.1,y1.2.1,y1.2.2.1,y1.2.2.2.1)))) (fun y3=>
 .at ((.inr ((gv (pr (G_u65q (IntKind.i64.wrap ((sr y3).1+1)) (sr y3).2.2.1 (sr y3).2.2.2.1))).1,(gv (pr (G_u65q (IntKind.i64.wrap ((sr y3).1+1)) (sr y3).2.2.1 (sr y3).2.2.2.1))).2.1,(gv (pr (G_u65q (IntKind.i64.wrap ((sr y3).1+1)) (sr y3).2.2.1 (sr y3).2.2.2.1))).2.2))))
 (.bi (pj 5
 (qdP G_u84q G_u65q G_u95q G_u54q G_u86q
 (Sum.inl (x0,y2.1,y2.2.1,y2.2.2,0,0,[],y1.1,y1.2.1,y1.2.2.1,y1.2.2.2.1)))) (fun y3=>
 .at ((.inl ((sr y3).f.2.2.2.1,(sr y3).h.1,(sr y3).h.2.1,(sr y3).h.2.2,(sr y3).2.2.1,(sr y3).2.2.2.1))))
 (.no)))))))
 (.no))
 (.bi (pr (G_u65q (IntKind.i64.wrap (x0+1)) x1 x2)) (fun y1=>
 .at ((.inr (y1))))
 (.no)))))
 (.no)
def qCb(G_u84q:qbG)(G_u65q:qbF)(G_u95q:qbI)(G_u54q:qbE)(G_u86q:qbH)(x0:List AV)(x1:Int):DT qRQ:=
 .bi (qc6 [45] x0 x1) (fun y0=>
 .br (y0.1)
 (.bi (pl (G_u95q y0.2.1 y0.2.2)) (fun y1=>
 .at ((.inl (9,0,[],[AV.agg [.int .i64 y1.1,.int .i64 y1.2.1,AV.str y1.2.2.1,AV.view 4 y1.2.2.2.1]],y1.f))))
 (.bi (pr (G_u95q y0.2.1 y0.2.2)) (fun y1=>
 .at ((.inr (y1))))
 (.no)))
 (.bi (pl (G_u54q y0.2.1 y0.2.2)) (fun y1=>
 .at ((.inl (y1))))
 (.bi (pr (G_u54q y0.2.1 y0.2.2)) (fun y1=>
 .at ((.inr (y1))))
 (.no))))
 (.no)
def qBM(G_u84q:qbG)(G_u65q:qbF)(G_u95q:qbI)(G_u54q:qbE)(G_u86q:qbH)(x0:List AV)(x1:Int):DT qIJ:=
 .bi (qc6 [36] x0 x1) (fun y0=>
 .br (y0.1)
 (.bi (pl (qdY y0.2.1 y0.2.2)) (fun y1=>
 .at ((.inl (2,y1.1,[],[],y1.2))))
 (.bi (pr (qdY y0.2.1 y0.2.2)) (fun y1=>
 .at ((.inr (y1))))
 (.no)))
 (.bi (qc6 [109,105,110] y0.2.1 y0.2.2) (fun y1=>
 .br (y1.1)
 (.bi (pl (G_u86q 17 y1.2.1 y1.2.2)) (fun y2=>
 .at ((.inr (y2))))
 (.bi (pr (G_u86q 17 y1.2.1 y1.2.2)) (fun y2=>
 .at ((.inl (y2))))
 (.no)))
 (.bi (qc6 [109,97,120] y1.2.1 y1.2.2) (fun y2=>
 .br (y2.1)
 (.bi (pl (G_u86q 18 y2.2.1 y2.2.2)) (fun y3=>
 .at ((.inr (y3))))
 (.bi (pr (G_u86q 18 y2.2.1 y2.2.2)) (fun y3=>
 .at ((.inl (y3))))
 (.no)))
 (.bi (qc6 [40] y2.2.1 y2.2.2) (fun y3=>
 .br (y3.1)
 (.bi (pl (G_u84q y3.2.1 y3.2.2)) (fun y4=>
 .bi (pl (qdZ [41] y4.f.1 y4.f.2)) (fun y5=>
 .at ((.inr (y5))))
 (.bi (pr (qdZ [41] y4.f.1 y4.f.2)) (fun y5=>
 .at ((.inl (y4.1,y4.2.1,y4.2.2.1,y4.2.2.2.1,y5))))
 (.no)))
 (.bi (pr (G_u84q y3.2.1 y3.2.2)) (fun y4=>
 .at ((.inr (y4))))
 (.no)))
 (.br (decide (y3.2.2<(y3.2.1.length:Int)))
 (.br (qaH [.int .i64,.int .i64,.str] y3.2.1 y3.2.2)
 (.br (intOf (cellAt y3.2.1 y3.2.2 0)==1)
 (.br (qaH [.int .i64,.int .i64,.str] y3.2.1 (IntKind.i64.wrap (IntKind.i64.wrap (y3.2.2+1)-1)))
 (.at ((.inl (4,0,strOf (cellAt y3.2.1 (IntKind.i64.wrap (IntKind.i64.wrap (y3.2.2+1)-1)) 2),[],y3.2.1,IntKind.i64.wrap (y3.2.2+1)))))
 (.no))
 (.br (decide (y3.2.2<(y3.2.1.length:Int)))
 (.br (qaH [.int .i64,.int .i64,.str] y3.2.1 y3.2.2)
 (.br (intOf (cellAt y3.2.1 y3.2.2 0)==3)
 (.br (qaH [.int .i64,.int .i64,.str] y3.2.1 y3.2.2)
 (.bi (qjS (strOf (cellAt y3.2.1 y3.2.2 2))) (fun y4=>
 .br (y4.2 != 0)
 (.bi (qhU y3.2.1 y3.2.2) (fun y5=>
 .at ((.inr (y5))))
 (.no))
 (.at ((.inl (3,y4.1,[],[],y3.2.1,IntKind.i64.wrap (y3.2.2+1))))))
 (.no))
 (.no))
 (.bi (pl (qdY y3.2.1 y3.2.2)) (fun y4=>
 .at ((.inl (1,y4.1,[],[],y4.2))))
 (.bi (pr (qdY y3.2.1 y3.2.2)) (fun y4=>
 .at ((.inr (y4))))
 (.no))))
 (.no))
 (.bi (pl (qdY y3.2.1 y3.2.2)) (fun y4=>
 .at ((.inl (1,y4.1,[],[],y4.2))))
 (.bi (pr (qdY y3.2.1 y3.2.2)) (fun y4=>
 .at ((.inr (y4))))
 (.no)))))
 (.no))
 (.br (decide (y3.2.2<(y3.2.1.length:Int)))
 (.br (qaH [.int .i64,.int .i64,.str] y3.2.1 y3.2.2)
 (.br (intOf (cellAt y3.2.1 y3.2.2 0)==3)
 (.br (qaH [.int .i64,.int .i64,.str] y3.2.1 y3.2.2)
 (.bi (qjS (strOf (cellAt y3.2.1 y3.2.2 2))) (fun y4=>
 .br (y4.2 != 0)
 (.bi (qhU y3.2.1 y3.2.2) (fun y5=>
 .at ((.inr (y5))))
 (.no))
 (.at ((.inl (3,y4.1,[],[],y3.2.1,IntKind.i64.wrap (y3.2.2+1))))))
 (.no))
 (.no))
 (.bi (pl (qdY y3.2.1 y3.2.2)) (fun y4=>
 .at ((.inl (1,y4.1,[],[],y4.2))))
 (.bi (pr (qdY y3.2.1 y3.2.2)) (fun y4=>
 .at ((.inr (y4))))
 (.no))))
 (.no))
 (.bi (pl (qdY y3.2.1 y3.2.2)) (fun y4=>
 .at ((.inl (1,y4.1,[],[],y4.2))))
 (.bi (pr (qdY y3.2.1 y3.2.2)) (fun y4=>
 .at ((.inr (y4))))
 (.no))))))
 (.no)))
 (.no)))
 (.no)))
 (.no)
def qB6(G_u84q:qbG)(G_u65q:qbF)(G_u95q:qbI)(G_u54q:qbE)(G_u86q:qbH)(x0:Int)(x1:List AV)(x2:Int):DT qRO:=
 .bi (pl (qdZ [40] x1 x2)) (fun y0=>
 .at ((.inl (y0))))
 (.bi (pr (qdZ [40] x1 x2)) (fun y0=>
 .bi (pl (G_u84q y0.1 y0.2)) (fun y1=>
 .bi (pl (qdZ [44] y1.f.1 y1.f.2)) (fun y2=>
 .at ((.inl (y2))))
 (.bi (pr (qdZ [44] y1.f.1 y1.f.2)) (fun y2=>
 .bi (pl (G_u84q y2.1 y2.2)) (fun y3=>
 .bi (pl (qdZ [41] y3.f.1 y3.f.2)) (fun y4=>
 .at ((.inl (y4))))
 (.bi (pr (qdZ [41] y3.f.1 y3.f.2)) (fun y4=>
 .at ((.inr (x0,0,[],[AV.agg [.int .i64 y1.1,.int .i64 y1.2.1,AV.str y1.2.2.1,AV.view 4 y1.2.2.2.1],
 AV.agg [.int .i64 y3.1,.int .i64 y3.2.1,AV.str y3.2.2.1,AV.view 4 y3.2.2.2.1]],y4))))
 (.no)))
 (.bi (pr (G_u84q y2.1 y2.2)) (fun y3=>
 .at ((.inl (y3))))
 (.no)))
 (.no)))
 (.bi (pr (G_u84q y0.1 y0.2)) (fun y1=>
 .at ((.inl (y1))))
 (.no)))
 (.no))
def qaj:Nat->qbG×qbF×qbI×qbE×qbH
 |0=>(fun _ _=>none,fun _ _ _=>none,fun _ _=>none,fun _ _=>none,fun _ _ _=>none)
 |n+1=>(fun x0 x1=>(qB4 ((qaj n).1) ((qaj n).2.1) ((qaj n).2.2.1) ((qaj n).2.2.2.1) ((qaj n).f) x0 x1).ev,fun x0 x1 x2=>(qhK ((qaj n).1) ((qaj n).2.1) ((qaj n).2.2.1) ((qaj n).2.2.2.1) ((qaj n).f) x0 x1 x2).ev,fun x0 x1=>(qCb ((qaj n).1) ((qaj n).2.1) ((qaj n).2.2.1) ((qaj n).2.2.2.1) ((qaj n).f) x0 x1).ev,fun x0 x1=>(qBM ((qaj n).1) ((qaj n).2.1) ((qaj n).2.2.1) ((qaj n).2.2.2.1) ((qaj n).f) x0 x1).ev,fun x0 x1 x2=>(qB6 ((qaj n).1) ((qaj n).2.1) ((qaj n).2.2.1) ((qaj n).2.2.2.1) ((qaj n).f) x0 x1 x2).ev)
def qU5(x0:List AV)(x1:Int):Option qRN:=qjC fun n=>(qaj n).1 x0 x1
theorem qhN:∀n,qFk ((qaj n).1) ((qaj n).2.1) ((qaj n).2.2.1) ((qaj n).2.2.2.1) ((qaj n).f)
 |0=>⟨(fun v y h=>nomatch h),(fun v y h=>nomatch h),(fun v y h=>nomatch h),(fun v y h=>nomatch h),(fun v y h=>nomatch h)⟩
 |n+1=>have hG:=qhN n
 ⟨qah (F:=zoQ) (L:=[]) (t:=(k2 (qB4 ((qaj n).1) ((qaj n).2.1) ((qaj n).2.2.1) ((qaj n).2.2.2.1) ((qaj n).f)))) (qfY ((qaj n).1) ((qaj n).2.1) ((qaj n).2.2.1) ((qaj n).2.2.2.1) ((qaj n).f) hG) (qac (l:=[]) (by kernel_rfl) trivial) (by kernel_rfl) (fun v=>by kernel_rfl) (fun v=>rfl),qah (F:=ziD) (L:=[(1024200,qWb ((qaj n).1) ((qaj n).2.1) ((qaj n).2.2.1) ((qaj n).2.2.2.1) ((qaj n).f))]) (t:=(k3 (qhK ((qaj n).1) ((qaj n).2.1) ((qaj n).2.2.1) ((qaj n).2.2.2.1) ((qaj n).f)))) (qfY ((qaj n).1) ((qaj n).2.1) ((qaj n).2.2.1) ((qaj n).2.2.2.1) ((qaj n).f) hG) (qac (l:=[qad ziD 0]) (by kernel_rfl) ⟨qau (by kernel_rfl) (zmv ((qaj n).1) ((qaj n).2.1) ((qaj n).2.2.1) ((qaj n).2.2.2.1) ((qaj n).f) hG),trivial⟩) (by kernel_rfl) (fun v=>by kernel_rfl) (fun v=>rfl),qah (F:=zo1) (L:=[]) (t:=(k2 (qCb ((qaj n).1) ((qaj n).2.1) ((qaj n).2.2.1) ((qaj n).2.2.2.1) ((qaj n).f)))) (qfY ((qaj n).1) ((qaj n).2.1) ((qaj n).2.2.1) ((qaj n).2.2.2.1) ((qaj n).f) hG) (qac (l:=[]) (by kernel_rfl) trivial) (by kernel_rfl) (fun v=>by kernel_rfl) (fun v=>rfl),qah (F:=zo4) (L:=[]) (t:=(k2 (qBM ((qaj n).1) ((qaj n).2.1) ((qaj n).2.2.1) ((qaj n).2.2.2.1) ((qaj n).f)))) (qfY ((qaj n).1) ((qaj n).2.1) ((qaj n).2.2.1) ((qaj n).2.2.2.1) ((qaj n).f) hG) (qac (l:=[]) (by kernel_rfl) trivial) (by kernel_rfl) (fun v=>by kernel_rfl) (fun v=>rfl),qah (F:=zo6) (L:=[]) (t:=(k3 (qB6 ((qaj n).1) ((qaj n).2.1) ((qaj n).2.2.1) ((qaj n).2.2.2.1) ((qaj n).f)))) (qfY ((qaj n).1) ((qaj n).2.1) ((qaj n).2.2.1) ((qaj n).2.2.2.1) ((qaj n).f) hG) (qac (l:=[]) (by kernel_rfl) trivial) (by kernel_rfl) (fun v=>by kernel_rfl) (fun v=>rfl)⟩
theorem q9j:FH IP 209 qD3 qEi (k2 qU5):=qbL (p:=qD3) (rs:=qEi) (s:=fun n=>(k2 ((qaj n).1))) fun n=>(qhN n).1
end
end Go.Proofs.H16

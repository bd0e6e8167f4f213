/- Functions over plain data. Printed by a program of mine. -/
import Derived.Test.YtjhhnkemeegahaaGreatDoorD16_1
import Derived.KernelRfl
set_option linter.all false
namespace Go.Proofs.H16
open Go Go.Eng
set_option maxRecDepth 100000
noncomputable section
abbrev qQN:Type:=List UInt8×List UInt8×List UInt8×Int×Int×Int×Int×List AV×Bool×Int×Int×Bool×List AV×Bool×Int×Int×Bool×List AV×List AV×List AV×Int×Int×Int
def q99:PArgs:=⟨[.ref 0 0 0],[(0,.box [.view 3,.int .i64,.int .i64,.int .i64] false)]⟩
def za0:List PRes:=[⟨false,.agg [.str,.str,.str,.int .i64,.int .i64,.int .i64,.int .i64,.view 2,.bool,.int .i64,.int .i64,.bool,.view 2,.bool,.int .i64,.int .i64,.bool,.view 10,.view 6],[(0,.box [.view 3,.int .i64,.int .i64,.int .i64] false)]⟩]
def qA9(x0:List AV)(x1 x2 x3:Int):DT qQN:=
 .bi (qa0 [AV.str [112,114,111,100,117,99,116]] x0 x1 x2 x3) (fun y0=>
 .bi (qgv 1 y0.1 y0.2.1 y0.2.2.1 y0.2.2.2) (fun y1=>
 .bi (qa0 [AV.str [123],AV.str [99,117,114,114,101,110,99,121]] y1.2.1 y1.2.2.1 y1.2.2.2.1 y1.f) (fun y2=>
 .bi (qCT y2.1 y2.2.1 y2.2.2.1 y2.2.2.2) (fun y3=>
 .bi (qa0 [AV.str [59],AV.str [99,97,108,101,110,100,97,114]] y3.2.1 y3.2.2.1 y3.2.2.2.1 y3.f) (fun y4=>
 .bi (qgv 1 y4.1 y4.2.1 y4.2.2.1 y4.2.2.2) (fun y5=>
 .bi (qa0 [AV.str [59],AV.str [102,114,111,109]] y5.2.1 y5.2.2.1 y5.2.2.2.1 y5.f) (fun y6=>
 .bi (qCV y6.1 y6.2.1 y6.2.2.1 y6.2.2.2) (fun y7=>
 .bi (qa0 [AV.str [59],AV.str [101,118,101,114,121]] y7.2.1 y7.2.2.1 y7.2.2.2.1 y7.f) (fun y8=>
 .bi (qjt y8.1 y8.2.1 y8.2.2.1 y8.2.2.2) (fun y9=>
 .bi (qa0 [AV.str [59],AV.str [111,118,101,114,100,114,97,102,116],AV.str [36]] y9.2.1 y9.2.2.1 y9.2.2.2.1 y9.f) (fun y10=>
 .bi (qjt y10.1 y10.2.1 y10.2.2.1 y10.2.2.2) (fun y11=>
 .bi (qa0 [AV.str [59],AV.str [116,97,120]] y11.2.1 y11.2.2.1 y11.2.2.2.1 y11.f) (fun y12=>
 .bi (qpR y12.1 y12.2.1 y12.2.2.1 y12.2.2.2) (fun y13=>
 .bi (qa0 [AV.str [59]] y13.2.1 y13.2.2.1 y13.2.2.2.1 y13.f) (fun y14=>
 .bi (qw3 [99,114,101,100,105,116] y14.1 y14.2.1 y14.2.2.1 y14.2.2.2) (fun y15=>
 .bi (qw3 [100,101,98,105,116] y15.f.2.1 y15.f.2.2.1 y15.f.2.2.2.1
 y15.h) (fun y16=>
 .bi (pj 0
 (qKu
 (Sum.inl
 (y16.f.2.1,y16.f.2.2.1,y16.f.2.2.2.1,y16.h,[],[],[],0,0,0,0,false,0,0,
 false,false,0,0,false,y1.1,y3.1,y5.1,y7.1,y9.1,y11.1,y13.1,y15.1,y15.2.1,y15.2.2.1,y15.2.2.2.1,y15.f.1,
 y16.1,y16.2.1,y16.2.2.1,y16.2.2.2.1,y16.f.1)))) (fun y17=>
 .bi (pj 0
 (qlJ
 (Sum.inl
 ((gv (qap [102,101,101] (sl y17).1 (sl y17).2.1 (sl y17).2.2.1 (sl y17).2.2.2.1)).2.1,
 (gv (qap [102,101,101] (sl y17).1 (sl y17).2.1 (sl y17).2.2.1 (sl y17).2.2.2.1)).2.2.1,
 (gv (qap [102,101,101] (sl y17).1 (sl y17).2.1 (sl y17).2.2.1 (sl y17).2.2.2.1)).2.2.2.1,
 (gv (qap [102,101,101] (sl y17).1 (sl y17).2.1 (sl y17).2.2.1 (sl y17).2.2.2.1)).f,(sl y17).f)))) (fun y18=>
 .bi (qa0 [AV.str [125]] (gv (qap [108,105,109,105,116] (sl y18).1 (sl y18).2.1 (sl y18).2.2.1 (sl y18).2.2.2.1)).2.1
 (gv (qap [108,105,109,105,116] (sl y18).1 (sl y18).2.1 (sl y18).2.2.1 (sl y18).2.2.2.1)).2.2.1
 (gv (qap [108,105,109,105,116] (sl y18).1 (sl y18).2.1 (sl y18).2.2.1 (sl y18).2.2.2.1)).2.2.2.1
 (gv (qap [108,105,109,105,116] (sl y18).1 (sl y18).2.1 (sl y18).2.2.1 (sl y18).2.2.2.1)).f) (fun y19=>
 .br (decide (y19.2.1<(y19.1.length:Int)))
 (.bi (qcm 2 y19.2.1 y19.1 y19.2.1 y19.2.2.1 y19.2.2.2) (fun y20=>
 .at (((sl y18).i.2.2.2.1,(sl y18).i.f.1,(sl y18).i.f.2.1,(sl y18).i.f.2.2.1,(sl y18).i.f.2.2.2.1,(sl y18).i.h.1,(sl y18).i.h.2.1,(sl y18).i.h.2.2.1,(sl y18).i.h.2.2.2.1,(sl y18).i.h.f.1,(sl y18).i.h.f.2.1,(sl y18).i.h.f.2.2.1,(sl y18).i.h.f.2.2.2.1,(sl y18).i.i.1,(sl y18).i.i.2.1,(sl y18).i.i.2.2.1,(sl y18).i.i.2.2.2,[],[],y20)))
 (.no))
 (.at (((sl y18).i.2.2.2.1,(sl y18).i.f.1,(sl y18).i.f.2.1,(sl y18).i.f.2.2.1,(sl y18).i.f.2.2.2.1,(sl y18).i.h.1,(sl y18).i.h.2.1,(sl y18).i.h.2.2.1,(sl y18).i.h.2.2.2.1,(sl y18).i.h.f.1,(sl y18).i.h.f.2.1,(sl y18).i.h.f.2.2.1,(sl y18).i.h.f.2.2.2.1,(sl y18).i.i.1,(sl y18).i.i.2.1,(sl y18).i.i.2.2.1,(sl y18).i.i.2.2.2,[],[],y19))))
 (.no))
 (.bi (pj 1
 (qlJ
 (Sum.inl
 ((gv (qap [102,101,101] (sl y17).1 (sl y17).2.1 (sl y17).2.2.1 (sl y17).2.2.2.1)).2.1,
 (gv (qap [102,101,101] (sl y17).1 (sl y17).2.1 (sl y17).2.2.1 (sl y17).2.2.2.1)).2.2.1,
 (gv (qap [102,101,101] (sl y17).1 (sl y17).2.1 (sl y17).2.2.1 (sl y17).2.2.2.1)).2.2.2.1,
 (gv (qap [102,101,101] (sl y17).1 (sl y17).2.1 (sl y17).2.2.1 (sl y17).2.2.2.1)).f,(sl y17).f)))) (fun y18=>
 .bi (qa0 [AV.str [125]]
 (gv (qap [108,105,109,105,116] (sl (sr y18)).1 (sl (sr y18)).2.1 (sl (sr y18)).2.2.1 (sl (sr y18)).2.2.2.1)).2.1
 (gv (qap [108,105,109,105,116] (sl (sr y18)).1 (sl (sr y18)).2.1 (sl (sr y18)).2.2.1 (sl (sr y18)).2.2.2.1)).2.2.1
 (gv (qap [108,105,109,105,116] (sl (sr y18)).1 (sl (sr y18)).2.1 (sl (sr y18)).2.2.1 (sl (sr y18)).2.2.2.1)).2.2.2.1
 (gv (qap [108,105,109,105,116] (sl (sr y18)).1 (sl (sr y18)).2.1 (sl (sr y18)).2.2.1 (sl (sr y18)).2.2.2.1)).f) (fun y19=>
 .br (decide (y19.2.1<(y19.1.length:Int)))
 (.bi (qcm 2 y19.2.1 y19.1 y19.2.1 y19.2.2.1 y19.2.2.2) (fun y20=>
 .at (((sl (sr y18)).i.2.2.2.1,(sl (sr y18)).i.f.1,(sl (sr y18)).i.f.2.1,(sl (sr y18)).i.f.2.2.1,(sl (sr y18)).i.f.2.2.2.1,(sl (sr y18)).i.h.1,(sl (sr y18)).i.h.2.1,(sl (sr y18)).i.h.2.2.1,(sl (sr y18)).i.h.2.2.2.1,(sl (sr y18)).i.h.f.1,(sl (sr y18)).i.h.f.2.1,(sl (sr y18)).i.h.f.2.2.1,(sl (sr y18)).i.h.f.2.2.2.1,(sl (sr y18)).i.i.1,(sl (sr y18)).i.i.2.1,(sl (sr y18)).i.i.2.2.1,(sl (sr y18)).i.i.2.2.2.1,(sl (sr y18)).i.i.f,[],y20)))
 (.no))
 (.at (((sl (sr y18)).i.2.2.2.1,(sl (sr y18)).i.f.1,(sl (sr y18)).i.f.2.1,(sl (sr y18)).i.f.2.2.1,(sl (sr y18)).i.f.2.2.2.1,(sl (sr y18)).i.h.1,(sl (sr y18)).i.h.2.1,(sl (sr y18)).i.h.2.2.1,(sl (sr y18)).i.h.2.2.2.1,(sl (sr y18)).i.h.f.1,(sl (sr y18)).i.h.f.2.1,(sl (sr y18)).i.h.f.2.2.1,(sl (sr y18)).i.h.f.2.2.2.1,(sl (sr y18)).i.i.1,(sl (sr y18)).i.i.2.1,(sl (sr y18)).i.i.2.2.1,(sl (sr y18)).i.i.2.2.2.1,(sl (sr y18)).i.i.f,[],y19))))
 (.no))
 (.bi (pj 2
 (qlJ
 (Sum.inl
 ((gv (qap [102,101,101] (sl y17).1 (sl y17).2.1 (sl y17).2.2.1 (sl y17).2.2.2.1)).2.1,
 (gv (qap [102,101,101] (sl y17).1 (sl y17).2.1 (sl y17).2.2.1 (sl y17).2.2.2.1)).2.2.1,
 (gv (qap [102,101,101] (sl y17).1 (sl y17).2.1 (sl y17).2.2.1 (sl y17).2.2.2.1)).2.2.2.1,
 (gv (qap [102,101,101] (sl y17).1 (sl y17).2.1 (sl y17).2.2.1 (sl y17).2.2.2.1)).f,(sl y17).f)))) (fun y18=>
 .bi (qa0 [AV.str [125]]
 (gv
 (qap [108,105,109,105,116] (sl (sr (sr y18))).1 (sl (sr (sr y18))).2.1 (sl (sr (sr y18))).2.2.1
 (sl (sr (sr y18))).2.2.2.1)).2.1
 (gv
 (qap [108,105,109,105,116] (sl (sr (sr y18))).1 (sl (sr (sr y18))).2.1 (sl (sr (sr y18))).2.2.1
 (sl (sr (sr y18))).2.2.2.1)).2.2.1
 (gv
 (qap [108,105,109,105,116] (sl (sr (sr y18))).1 (sl (sr (sr y18))).2.1 (sl (sr (sr y18))).2.2.1
 (sl (sr (sr y18))).2.2.2.1)).2.2.2.1
 (gv
 (qap [108,105,109,105,116] (sl (sr (sr y18))).1 (sl (sr (sr y18))).2.1 (sl (sr (sr y18))).2.2.1
 (sl (sr (sr y18))).2.2.2.1)).f) (fun y19=>
 .br (decide (y19.2.1<(y19.1.length:Int)))
 (.bi (qcm 2 y19.2.1 y19.1 y19.2.1 y19.2.2.1 y19.2.2.2) (fun y20=>
 .at (((sl (sr (sr y18))).i.2.2.2.1,(sl (sr (sr y18))).i.f.1,(sl (sr (sr y18))).i.f.2.1,(sl (sr (sr y18))).i.f.2.2.1,(sl (sr (sr y18))).i.f.2.2.2.1,(sl (sr (sr y18))).i.h.1,(sl (sr (sr y18))).i.h.2.1,(sl (sr (sr y18))).i.h.2.2.1,(sl (sr (sr y18))).i.h.2.2.2.1,(sl (sr (sr y18))).i.h.f.1,(sl (sr (sr y18))).i.h.f.2.1,(sl (sr (sr y18))).i.h.f.2.2.1,(sl (sr (sr y18))).i.h.f.2.2.2.1,(sl (sr (sr y18))).i.i.1,(sl (sr (sr y18))).i.i.2.1,(sl (sr (sr y18))).i.i.2.2.1,(sl (sr (sr y18))).i.i.2.2.2.1,[],(sl (sr (sr y18))).i.i.f,y20)))
 (.no))
 (.at (((sl (sr (sr y18))).i.2.2.2.1,(sl (sr (sr y18))).i.f.1,(sl (sr (sr y18))).i.f.2.1,(sl (sr (sr y18))).i.f.2.2.1,(sl (sr (sr y18))).i.f.2.2.2.1,(sl (sr (sr y18))).i.h.1,(sl (sr (sr y18))).i.h.2.1,(sl (sr (sr y18))).i.h.2.2.1,(sl (sr (sr y18))).i.h.2.2.2.1,(sl (sr (sr y18))).i.h.f.1,(sl (sr (sr y18))).i.h.f.2.1,(sl (sr (sr y18))).i.h.f.2.2.1,(sl (sr (sr y18))).i.h.f.2.2.2.1,(sl (sr (sr y18))).i.i.1,(sl (sr (sr y18))).i.i.2.1,(sl (sr (sr y18))).i.i.2.2.1,(sl (sr (sr y18))).i.i.2.2.2.1,[],(sl (sr (sr y18))).i.i.f,y19))))
 (.no))
 (.bi (pj 3
 (qlJ
 (Sum.inl
 ((gv (qap [102,101,101] (sl y17).1 (sl y17).2.1 (sl y17).2.2.1 (sl y17).2.2.2.1)).2.1,
 (gv (qap [102,101,101] (sl y17).1 (sl y17).2.1 (sl y17).2.2.1 (sl y17).2.2.2.1)).2.2.1,
 (gv (qap [102,101,101] (sl y17).1 (sl y17).2.1 (sl y17).2.2.1 (sl y17).2.2.2.1)).2.2.2.1,
 (gv (qap [102,101,101] (sl y17).1 (sl y17).2.1 (sl y17).2.2.1 (sl y17).2.2.2.1)).f,(sl y17).f)))) (fun y18=>
 .bi (qa0 [AV.str [125]]
 (gv
 (qap [108,105,109,105,116] (sr (sr (sr y18))).1 (sr (sr (sr y18))).2.1 (sr (sr (sr y18))).2.2.1
 (sr (sr (sr y18))).2.2.2.1)).2.1
 (gv
 (qap [108,105,109,105,116] (sr (sr (sr y18))).1 (sr (sr (sr y18))).2.1 (sr (sr (sr y18))).2.2.1
 (sr (sr (sr y18))).2.2.2.1)).2.2.1
 (gv
 (qap [108,105,109,105,116] (sr (sr (sr y18))).1 (sr (sr (sr y18))).2.1 (sr (sr (sr y18))).2.2.1
 (sr (sr (sr y18))).2.2.2.1)).2.2.2.1
 (gv
 (qap [108,105,109,105,116] (sr (sr (sr y18))).1 (sr (sr (sr y18))).2.1 (sr (sr (sr y18))).2.2.1
 (sr (sr (sr y18))).2.2.2.1)).f) (fun y19=>
 .br (decide (y19.2.1<(y19.1.length:Int)))
 (.bi (qcm 2 y19.2.1 y19.1 y19.2.1 y19.2.2.1 y19.2.2.2) (fun y20=>
 .at (((sr (sr (sr y18))).i.2.2.2.1,(sr (sr (sr y18))).i.f.1,(sr (sr (sr y18))).i.f.2.1,(sr (sr (sr y18))).i.f.2.2.1,(sr (sr (sr y18))).i.f.2.2.2.1,(sr (sr (sr y18))).i.h.1,(sr (sr (sr y18))).i.h.2.1,(sr (sr (sr y18))).i.h.2.2.1,(sr (sr (sr y18))).i.h.2.2.2.1,(sr (sr (sr y18))).i.h.f.1,(sr (sr (sr y18))).i.h.f.2.1,(sr (sr (sr y18))).i.h.f.2.2.1,(sr (sr (sr y18))).i.h.f.2.2.2.1,(sr (sr (sr y18))).i.i.1,(sr (sr (sr y18))).i.i.2.1,(sr (sr (sr y18))).i.i.2.2.1,(sr (sr (sr y18))).i.i.2.2.2.1,(sr (sr (sr y18))).i.i.f.1,(sr (sr (sr y18))).i.i.f.2,y20)))
 (.no))
 (.at (((sr (sr (sr y18))).i.2.2.2.1,(sr (sr (sr y18))).i.f.1,(sr (sr (sr y18))).i.f.2.1,(sr (sr (sr y18))).i.f.2.2.1,(sr (sr (sr y18))).i.f.2.2.2.1,(sr (sr (sr y18))).i.h.1,(sr (sr (sr y18))).i.h.2.1,(sr (sr (sr y18))).i.h.2.2.1,(sr (sr (sr y18))).i.h.2.2.2.1,(sr (sr (sr y18))).i.h.f.1,(sr (sr (sr y18))).i.h.f.2.1,(sr (sr (sr y18))).i.h.f.2.2.1,(sr (sr (sr y18))).i.h.f.2.2.2.1,(sr (sr (sr y18))).i.i.1,(sr (sr (sr y18))).i.i.2.1,(sr (sr (sr y18))).i.i.2.2.1,(sr (sr (sr y18))).i.i.2.2.2.1,(sr (sr (sr y18))).i.i.f.1,(sr (sr (sr y18))).i.i.f.2,y19))))
 (.no))
 (.no)))))
 (.bi (pj 1
 (qKu
 (Sum.inl
 (y16.f.2.1,y16.f.2.2.1,y16.f.2.2.2.1,y16.h,[],[],[],0,0,0,0,false,0,0,
 false,false,0,0,false,y1.1,y3.1,y5.1,y7.1,y9.1,y11.1,y13.1,y15.1,y15.2.1,y15.2.2.1,y15.2.2.2.1,y15.f.1,
 y16.1,y16.2.1,y16.2.2.1,y16.2.2.2.1,y16.f.1)))) (fun y17=>
 .bi (pj 0
 (qlJ
 (Sum.inr
 (Sum.inl
 ((gv (qap [102,101,101] (sr y17).1 (sr y17).2.1 (sr y17).2.2.1 (sr y17).2.2.2.1)).2.1,
 (gv (qap [102,101,101] (sr y17).1 (sr y17).2.1 (sr y17).2.2.1 (sr y17).2.2.2.1)).2.2.1,
 (gv (qap [102,101,101] (sr y17).1 (sr y17).2.1 (sr y17).2.2.1 (sr y17).2.2.2.1)).2.2.2.1,
 (gv (qap [102,101,101] (sr y17).1 (sr y17).2.1 (sr y17).2.2.1 (sr y17).2.2.2.1)).f,(sr y17).f))))) (fun y18=>
 .bi (qa0 [AV.str [125]] (gv (qap [108,105,109,105,116] (sl y18).1 (sl y18).2.1 (sl y18).2.2.1 (sl y18).2.2.2.1)).2.1
 (gv (qap [108,105,109,105,116] (sl y18).1 (sl y18).2.1 (sl y18).2.2.1 (sl y18).2.2.2.1)).2.2.1
 (gv (qap [108,105,109,105,116] (sl y18).1 (sl y18).2.1 (sl y18).2.2.1 (sl y18).2.2.2.1)).2.2.2.1
 (gv (qap [108,105,109,105,116] (sl y18).1 (sl y18).2.1 (sl y18).2.2.1 (sl y18).2.2.2.1)).f) (fun y19=>
 .br (decide (y19.2.1<(y19.1.length:Int)))
 (.bi (qcm 2 y19.2.1 y19.1 y19.2.1 y19.2.2.1 y19.2.2.2) (fun y20=>
 .at (((sl y18).i.2.2.2.1,(sl y18).i.f.1,(sl y18).i.f.2.1,(sl y18).i.f.2.2.1,(sl y18).i.f.2.2.2.1,(sl y18).i.h.1,(sl y18).i.h.2.1,(sl y18).i.h.2.2.1,(sl y18).i.h.2.2.2.1,(sl y18).i.h.f.1,(sl y18).i.h.f.2.1,(sl y18).i.h.f.2.2.1,(sl y18).i.h.f.2.2.2.1,(sl y18).i.i.1,(sl y18).i.i.2.1,(sl y18).i.i.2.2.1,(sl y18).i.i.2.2.2,[],[],y20)))
 (.no))
 (.at (((sl y18).i.2.2.2.1,(sl y18).i.f.1,(sl y18).i.f.2.1,(sl y18).i.f.2.2.1,(sl y18).i.f.2.2.2.1,(sl y18).i.h.1,(sl y18).i.h.2.1,(sl y18).i.h.2.2.1,(sl y18).i.h.2.2.2.1,(sl y18).i.h.f.1,(sl y18).i.h.f.2.1,(sl y18).i.h.f.2.2.1,(sl y18).i.h.f.2.2.2.1,(sl y18).i.i.1,(sl y18).i.i.2.1,(sl y18).i.i.2.2.1,(sl y18).i.i.2.2.2,[],[],y19))))
 (.no))
 (.bi (pj 1
 (qlJ
 (Sum.inr
 (Sum.inl
 ((gv (qap [102,101,101] (sr y17).1 (sr y17).2.1 (sr y17).2.2.1 (sr y17).2.2.2.1)).2.1,
 (gv (qap [102,101,101] (sr y17).1 (sr y17).2.1 (sr y17).2.2.1 (sr y17).2.2.2.1)).2.2.1,
 (gv (qap [102,101,101] (sr y17).1 (sr y17).2.1 (sr y17).2.2.1 (sr y17).2.2.2.1)).2.2.2.1,
 (gv (qap [102,101,101] (sr y17).1 (sr y17).2.1 (sr y17).2.2.1 (sr y17).2.2.2.1)).f,(sr y17).f))))) (fun y18=>
 .bi (qa0 [AV.str [125]]
 (gv (qap [108,105,109,105,116] (sl (sr y18)).1 (sl (sr y18)).2.1 (sl (sr y18)).2.2.1 (sl (sr y18)).2.2.2.1)).2.1
 (gv (qap [108,105,109,105,116] (sl (sr y18)).1 (sl (sr y18)).2.1 (sl (sr y18)).2.2.1 (sl (sr y18)).2.2.2.1)).2.2.1
 (gv (qap [108,105,109,105,116] (sl (sr y18)).1 (sl (sr y18)).2.1 (sl (sr y18)).2.2.1 (sl (sr y18)).2.2.2.1)).2.2.2.1
 (gv (qap [108,105,109,105,116] (sl (sr y18)).1 (sl (sr y18)).2.1 (sl (sr y18)).2.2.1 (sl (sr y18)).2.2.2.1)).f) (fun y19=>
 .br (decide (y19.2.1<(y19.1.length:Int)))
 (.bi (qcm 2 y19.2.1 y19.1 y19.2.1 y19.2.2.1 y19.2.2.2) (fun y20=>
 .at (((sl (sr y18)).i.2.2.2.1,(sl (sr y18)).i.f.1,(sl (sr y18)).i.f.2.1,(sl (sr y18)).i.f.2.2.1,(sl (sr y18)).i.f.2.2.2.1,(sl (sr y18)).i.h.1,(sl (sr y18)).i.h.2.1,(sl (sr y18)).i.h.2.2.1,(sl (sr y18)).i.h.2.2.2.1,(sl (sr y18)).i.h.f.1,(sl (sr y18)).i.h.f.2.1,(sl (sr y18)).i.h.f.2.2.1,(sl (sr y18)).i.h.f.2.2.2.1,(sl (sr y18)).i.i.1,(sl (sr y18)).i.i.2.1,(sl (sr y18)).i.i.2.2.1,(sl (sr y18)).i.i.2.2.2.1,(sl (sr y18)).i.i.f,[],y20)))
 (.no))
 (.at (((sl (sr y18)).i.2.2.2.1,(sl (sr y18)).i.f.1,(sl (sr y18)).i.f.2.1,(sl (sr y18)).i.f.2.2.1,(sl (sr y18)).i.f.2.2.2.1,(sl (sr y18)).i.h.1,(sl (sr y18)).i.h.2.1,(sl (sr y18)).i.h.2.2.1,(sl (sr y18)).i.h.2.2.2.1,(sl (sr y18)).i.h.f.1,(sl (sr y18)).i.h.f.2.1,(sl (sr y18)).i.h.f.2.2.1,(sl (sr y18)).i.h.f.2.2.2.1,(sl (sr y18)).i.i.1,(sl (sr y18)).i.i.2.1,(sl (sr y18)).i.i.2.2.1,(sl (sr y18)).i.i.2.2.2.1,(sl (sr y18)).i.i.f,[],y19))))
 (.no))
 (.bi (pj 2
 (qlJ
 (Sum.inr
 (Sum.inl
 ((gv (qap [102,101,101] (sr y17).1 (sr y17).2.1 (sr y17).2.2.1 (sr y17).2.2.2.1)).2.1,
 (gv (qap [102,101,101] (sr y17).1 (sr y17).2.1 (sr y17).2.2.1 (sr y17).2.2.2.1)).2.2.1,
 (gv (qap [102,101,101] (sr y17).1 (sr y17).2.1 (sr y17).2.2.1 (sr y17).2.2.2.1)).2.2.2.1,
 (gv (qap [102,101,101] (sr y17).1 (sr y17).2.1 (sr y17).2.2.1 (sr y17).2.2.2.1)).f,(sr y17).f))))) (fun y18=>
 .bi (qa0 [AV.str [125]]
 (gv
 (qap [108,105,109,105,116] (sl (sr (sr y18))).1 (sl (sr (sr y18))).2.1 (sl (sr (sr y18))).2.2.1
 (sl (sr (sr y18))).2.2.2.1)).2.1
 (gv
 (qap [108,105,109,105,116] (sl (sr (sr y18))).1 (sl (sr (sr y18))).2.1 (sl (sr (sr y18))).2.2.1
 (sl (sr (sr y18))).2.2.2.1)).2.2.1
 (gv
 (qap [108,105,109,105,116] (sl (sr (sr y18))).1 (sl (sr (sr y18))).2.1 (sl (sr (sr y18))).2.2.1
 (sl (sr (sr y18))).2.2.2.1)).2.2.2.1
 (gv
 (qap [108,105,109,105,116] (sl (sr (sr y18))).1 (sl (sr (sr y18))).2.1 (sl (sr (sr y18))).2.2.1
 (sl (sr (sr y18))).2.2.2.1)).f) (fun y19=>
 .br (decide (y19.2.1<(y19.1.length:Int)))
 (.bi (qcm 2 y19.2.1 y19.1 y19.2.1 y19.2.2.1 y19.2.2.2) (fun y20=>
 .at (((sl (sr (sr y18))).i.2.2.2.1,(sl (sr (sr y18))).i.f.1,(sl (sr (sr y18))).i.f.2.1,(sl (sr (sr y18))).i.f.2.2.1,(sl (sr (sr y18))).i.f.2.2.2.1,(sl (sr (sr y18))).i.h.1,(sl (sr (sr y18))).i.h.2.1,(sl (sr (sr y18))).i.h.2.2.1,(sl (sr (sr y18))).i.h.2.2.2.1,(sl (sr (sr y18))).i.h.f.1,(sl (sr (sr y18))).i.h.f.2.1,(sl (sr (sr y18))).i.h.f.2.2.1,(sl (sr (sr y18))).i.h.f.2.2.2.1,(sl (sr (sr y18))).i.i.1,(sl (sr (sr y18))).i.i.2.1,(sl (sr (sr y18))).i.i.2.2.1,(sl (sr (sr y18))).i.i.2.2.2.1,[],(sl (sr (sr y18))).i.i.f,y20)))
 (.no))
 (.at (((sl (sr (sr y18))).i.2.2.2.1,(sl (sr (sr y18))).i.f.1,(sl (sr (sr y18))).i.f.2.1,(sl (sr (sr y18))).i.f.2.2.1,(sl (sr (sr y18))).i.f.2.2.2.1,(sl (sr (sr y18))).i.h.1,(sl (sr (sr y18))).i.h.2.1,(sl (sr (sr y18))).i.h.2.2.1,(sl (sr (sr y18))).i.h.2.2.2.1,(sl (sr (sr y18))).i.h.f.1,(sl (sr (sr y18))).i.h.f.2.1,(sl (sr (sr y18))).i.h.f.2.2.1,(sl (sr (sr y18))).i.h.f.2.2.2.1,(sl (sr (sr y18))).i.i.1,(sl (sr (sr y18))).i.i.2.1,(sl (sr (sr y18))).i.i.2.2.1,(sl (sr (sr y18))).i.i.2.2.2.1,[],(sl (sr (sr y18))).i.i.f,y19))))
 (.no))
 (.bi (pj 3
 (qlJ
 (Sum.inr
 (Sum.inl
 ((gv (qap [102,101,101] (sr y17).1 (sr y17).2.1 (sr y17).2.2.1 (sr y17).2.2.2.1)).2.1,
 (gv (qap [102,101,101] (sr y17).1 (sr y17).2.1 (sr y17).2.2.1 (sr y17).2.2.2.1)).2.2.1,
 (gv (qap [102,101,101] (sr y17).1 (sr y17).2.1 (sr y17).2.2.1 (sr y17).2.2.2.1)).2.2.2.1,
 (gv (qap [102,101,101] (sr y17).1 (sr y17).2.1 (sr y17).2.2.1 (sr y17).2.2.2.1)).f,(sr y17).f))))) (fun y18=>
 .bi (qa0 [AV.str [125]]
 (gv
 (qap [108,105,109,105,116] (sr (sr (sr y18))).1 (sr (sr (sr y18))).2.1 (sr (sr (sr y18))).2.2.1
 (sr (sr (sr y18))).2.2.2.1)).2.1
 (gv
 (qap [108,105,109,105,116] (sr (sr (sr y18))).1 (sr (sr (sr y18))).2.1 (sr (sr (sr y18))).2.2.1
 (sr (sr (sr y18))).2.2.2.1)).2.2.1
 (gv
 (qap [108,105,109,105,116] (sr (sr (sr y18))).1 (sr (sr (sr y18))).2.1 (sr (sr (sr y18))).2.2.1
 (sr (sr (sr y18))).2.2.2.1)).2.2.2.1
 (gv
 (qap [108,105,109,105,116] (sr (sr (sr y18))).1 (sr (sr (sr y18))).2.1 (sr (sr (sr y18))).2.2.1
 (sr (sr (sr y18))).2.2.2.1)).f) (fun y19=>
 .br (decide (y19.2.1<(y19.1.length:Int)))
 (.bi (qcm 2 y19.2.1 y19.1 y19.2.1 y19.2.2.1 y19.2.2.2) (fun y20=>
 .at (((sr (sr (sr y18))).i.2.2.2.1,(sr (sr (sr y18))).i.f.1,(sr (sr (sr y18))).i.f.2.1,(sr (sr (sr y18))).i.f.2.2.1,(sr (sr (sr y18))).i.f.2.2.2.1,(sr (sr (sr y18))).i.h.1,(sr (sr (sr y18))).i.h.2.1,(sr (sr (sr y18))).i.h.2.2.1,(sr (sr (sr y18))).i.h.2.2.2.1,(sr (sr (sr y18))).i.h.f.1,(sr (sr (sr y18))).i.h.f.2.1,(sr (sr (sr y18))).i.h.f.2.2.1,(sr (sr (sr y18))).i.h.f.2.2.2.1,(sr (sr (sr y18))).i.i.1,(sr (sr (sr y18))).i.i.2.1,(sr (sr (sr y18))).i.i.2.2.1,(sr (sr (sr y18))).i.i.2.2.2.1,(sr (sr (sr y18))).i.i.f.1,(sr (sr (sr y18))).i.i.f.2,y20)))
 (.no))
 (.at (((sr (sr (sr y18))).i.2.2.2.1,(sr (sr (sr y18))).i.f.1,(sr (sr (sr y18))).i.f.2.1,(sr (sr (sr y18))).i.f.2.2.1,(sr (sr (sr y18))).i.f.2.2.2.1,(sr (sr (sr y18))).i.h.1,(sr (sr (sr y18))).i.h.2.1,(sr (sr (sr y18))).i.h.2.2.1,(sr (sr (sr y18))).i.h.2.2.2.1,(sr (sr (sr y18))).i.h.f.1,(sr (sr (sr y18))).i.h.f.2.1,(sr (sr (sr y18))).i.h.f.2.2.1,(sr (sr (sr y18))).i.h.f.2.2.2.1,(sr (sr (sr y18))).i.i.1,(sr (sr (sr y18))).i.i.2.1,(sr (sr (sr y18))).i.i.2.2.1,(sr (sr (sr y18))).i.i.2.2.2.1,(sr (sr (sr y18))).i.i.f.1,(sr (sr (sr y18))).i.i.f.2,y19))))
 (.no))
 (.no)))))
 (.no)))
 (.no))
 (.no))
 (.no))
 (.no))
 (.no))
 (.no))
 (.no))
 (.no))
 (.no))
 (.no))
 (.no))
 (.no))
 (.no))
 (.no))
 (.no))
 (.no))
 (.no)
def qCR(x0:List AV)(x1 x2 x3:Int):Option qQN:=qaz (qA9 x0 x1 x2 x3).ev
theorem qUs(x0 x1 x2 x3):qCR x0 x1 x2 x3=(qA9 x0 x1 x2 x3).ev:=qaa _
theorem zjV:FH IP 41 q99 za0 (k4 qCR):=qah (F:=F41) (L:=[(1004100,qV3),(1004101,qV4)]) (t:=(k4 qA9)) qS9 (qac (l:=[qad F41 0,qad F41 1]) (by kernel_rfl) ⟨qau (by kernel_rfl) zmn,qau (by kernel_rfl) zmo,trivial⟩) (by kernel_rfl) (fun v=>by kernel_rfl) (fun _=>qaa _)
def T53:Tab:=(41,FE q99 za0 (k4 qCR))::T52
theorem q8B:qan IP T53:=⟨qam zjV,qS9⟩
end
end Go.Proofs.H16
namespace Go.Proofs.H16
open Go Go.Eng
set_option maxRecDepth 100000
noncomputable section
abbrev qEZ:Type:=List UInt8×List UInt8×List UInt8×Int×Int×Int×Int×List AV×Bool×Int×Int×Bool×List AV×Bool×Int×Int×Bool×List AV×List AV×Int×Int
def qW9:PArgs:=⟨[.str],[]⟩
def qZu:List PRes:=[⟨false,.tup [.agg [.str,.str,.str,.int .i64,.int .i64,.int .i64,.int .i64,.view 2,.bool,.int .i64,.int .i64,.bool,.view 2,.bool,.int .i64,.int .i64,.bool,.view 10,.view 6],.int .i64,.int .i64],[]⟩]
def qqL(x0:List UInt8):DT qEZ:=
 .bi (qjL x0) (fun y0=>
 .br (y0.2.2 != 0)
 (.at (([],[],[],0,0,0,0,[],false,0,0,false,[],false,0,0,false,[],[],y0.2)))
 (.br (decide (y0.1.length*32<=lim))
 (.bi (qCR y0.1 0 0 0) (fun y1=>
 .br (y1.i.f.2.1 != 0)
 (.at (([],[],[],0,0,0,0,[],false,0,0,false,[],false,0,0,false,[],[],y1.i.f.2.2,y1.i.f.2.1)))
 (.at ((y1.1,y1.2.1,y1.2.2.1,y1.2.2.2.1,y1.f.1,y1.f.2.1,y1.f.2.2.1,y1.f.2.2.2.1,y1.h.1,y1.h.2.1,y1.h.2.2.1,y1.h.2.2.2.1,y1.h.f.1,y1.h.f.2.1,y1.h.f.2.2.1,y1.h.f.2.2.2.1,y1.i.1,y1.i.2.1,y1.i.2.2.1,0,0))))
 (.no))
 (.no)))
 (.no)
def qgo(x0:List UInt8):Option qEZ:=qaz (qqL x0).ev
theorem qM5(x0):qgo x0=(qqL x0).ev:=qaa _
theorem zct:FH IP 11 qW9 qZu qgo:=fh F11 qqL q8B
def T54:Tab:=(11,FE qW9 qZu qgo)::T53
theorem qTa:qan IP T54:=⟨qam zct,q8B⟩
abbrev qiA:Type:=List UInt8×Int×Int
def qVx:List PSt:=[⟨[(1005000,.junk),(0,.str),(7,.int .i64),(8,.int .i64)],[],0,0⟩]
def q6U(x0:List UInt8)(x1 x2:Int):X×St:=(.ret,⟨[(0,.str x0),(2,.str []),(3,.bool false)],[],0,0⟩)
def q6V(x0:List UInt8)(x1 x2:Int):X×St:=(.exit 0,⟨[(0,.str x0),(2,.junk),(3,.junk)],[],0,0⟩)
def znf:List (qiA->X×St):=[(k3 q6U),(k3 q6V)]
def qvP(x0:List UInt8)(x1 x2:Int):DT (Rd qiA):=
 .br (decide (x2<x1))
 (.br (inB x0.length x2)
 (.bi (br (decide (qak x0 x2<65)) (some true) (br (inB x0.length x2) (some (decide (qak x0 x2>90))) none)) (fun y0=>
 .br (y0) (.at (.done 0)) (.at (.next ((x0,x1,IntKind.i64.wrap (x2+1))))))
 (.no))
 (.no))
 (.at (.done 1))
def qvO:qiA->DT (Rd qiA):=(fun v=>qvP v.1 v.2.1 v.2.2)
def qDi(v:qiA):Option (Nat×qiA):=qaz (qaf (fun v=>(qvO v).ev) v)
theorem qDj(v):qDi v=qaf (fun v=>(qvO v).ev) v:=qaa _
def qWc:qbQ:=LE (τ:=qiA) (hD qVx) (qDi) znf
theorem zmw:Go.Eng.Told IP (qad F50 0).1 (qad F50 0).2 (qWc):=lp (inferInstance:Inhabited qiA) (hs:=qVx) qvO qTa qDj
abbrev q7U:Type:=List UInt8×Bool
def zaD:PArgs:=⟨[.str],[]⟩
def zbv:List PRes:=[⟨false,.tup [.str,.bool],[]⟩]
def qBW(x0:List UInt8):DT q7U:=
 .bi (pj 0 (qDi (x0,(x0.length:Int),0))) (fun y0=>
 .at (([],false)))
 (.bi (pj 1 (qDi (x0,(x0.length:Int),0))) (fun y0=>
 .br (decide (y0.1.length<=1000000)&&qCv y0.1)
 (.bi (br ((y0.1.length:Int)==3) (br (sm (qbS (Lib.toLowerA y0.1))) (some !gv (qbS (Lib.toLowerA y0.1))) none) (some false)) (fun y1=>
 .at ((Lib.toLowerA y0.1,y1)))
 (.no))
 (.no))
 (.no))
def qxb(x0:List UInt8):Option q7U:=qaz (qBW x0).ev
theorem qUX(x0):qxb x0=(qBW x0).ev:=qaa _
theorem zks:FH IP 50 zaD zbv qxb:=qah (F:=F50) (L:=[(1005000,qWc)]) (t:=qBW) qTa (qac (l:=[qad F50 0]) (by kernel_rfl) ⟨qau (by kernel_rfl) zmw,trivial⟩) (by kernel_rfl) (fun v=>by kernel_rfl) (fun _=>qaa _)
def T55:Tab:=(50,FE zaD zbv qxb)::T54
theorem q8C:qan IP T55:=⟨qam zks,qTa⟩
abbrev qP2:Type:=Bool
def qXj:PArgs:=⟨[.str],[]⟩
def qZE:List PRes:=[⟨false,.bool,[]⟩]
def qqW(x0:List UInt8):DT qP2:=
 .bi (qjL x0) (fun y0=>
 .bi (br (y0.2.2==0) (some ((y0.1.length:Int)==1)) (some false)) (fun y1=>
 .bi (br y1 (br (qaH [.int .i64,.int .i64,.str] y0.1 0) (some (intOf (cellAt y0.1 0 0)==1)) none) (some false)) (fun y2=>
 .bi (br y2 (br (qaH [.int .i64,.int .i64,.str] y0.1 0) (some (strOf (cellAt y0.1 0 2)==x0)) none) (some false)) (fun y3=>
 .at (y3))
 (.no))
 (.no))
 (.no))
 (.no)
def qhu(x0:List UInt8):Option qP2:=qaz (qqW x0).ev
theorem qNg(x0):qhu x0=(qqW x0).ev:=qaa _
theorem zcE:FH IP 51 qXj qZE qhu:=fh F51 qqW q8C
def T56:Tab:=(51,FE qXj qZE qhu)::T55
theorem q8D:qan IP T56:=⟨qam zcE,q8C⟩
abbrev qQL:Type:=Bool
def qX8:PArgs:=⟨[.int .i64],[]⟩
def q0t:List PRes:=[⟨false,.bool,[]⟩]
def qnQ(x0:Int):DT qQL:=
 .bi (br (decide (x0>=0)) (some (decide (x0<=73048))) (some false)) (fun y0=>
 .at (y0))
 (.no)
def qjR(x0:Int):Option qQL:=qaz (qnQ x0).ev
theorem qw5(x0):qjR x0=(qnQ x0).ev:=qaa _
theorem zdw:FH IP 52 qX8 q0t qjR:=fh F52 qnQ q8D
def T57:Tab:=(52,FE qX8 q0t qjR)::T56
theorem q8E:qan IP T57:=⟨qam zdw,q8D⟩
abbrev qP3:Type:=Bool
def qXk:PArgs:=⟨[.int .i64],[]⟩
def qZF:List PRes:=[⟨false,.bool,[]⟩]
def qqX(x0:Int):DT qP3:=
 .bi (br (decide (x0>=0)) (some (decide (x0<=1000000))) (some false)) (fun y0=>
 .at (y0))
 (.no)
def qjN(x0:Int):Option qP3:=qaz (qqX x0).ev
theorem qNh(x0):qjN x0=(qqX x0).ev:=qaa _
theorem zcF:FH IP 53 qXk qZF qjN:=fh F53 qqX q8E
def T58:Tab:=(53,FE qXk qZF qjN)::T57
theorem qTb:qan IP T58:=⟨qam zcF,q8E⟩
abbrev qhm:Type:=List AV×Int×Int×List AV×Bool×Int×Int×Bool
def qVy:List PSt:=[⟨[(1005400,.junk),(1,.ref 0 0 0),(6,.view 2),(7,.int .i64),(8,.int .i64)],[(0,.box [.view 2,.bool,.int .i64,.int .i64,.bool] false)],1,0⟩]
def q6W(x0:List AV)(x1 x2:Int)(x3:List AV)(x4:Bool)(x5 x6:Int)(x7:Bool):X×St:=(.ret,
 ⟨[(1,.ref 0 0 0),(2,.bool false)],[(0,.box [.view 2 x3,.bool x4,.int .i64 x5,.int .i64 x6,.bool x7] false)],1,0⟩)
def q6X(x0:List AV)(x1 x2:Int)(x3:List AV)(x4:Bool)(x5 x6:Int)(x7:Bool):X×St:=(.exit 0,
 ⟨[(1,.ref 0 0 0),(2,.junk)],[(0,.box [.view 2 x3,.bool x4,.int .i64 x5,.int .i64 x6,.bool x7] false)],1,0⟩)
def zng:List (qhm->X×St):=[(k8 q6W),(k8 q6X)]
def qvR(x0:List AV)(x1 x2:Int)(x3:List AV)(x4:Bool)(x5 x6:Int)(x7:Bool):DT (Rd qhm):=
 .br (decide (x2<x1))
 (.br (qaH [.int .i64,.int .i64] x0 x2)
 (.bi (br (decide (intOf (cellAt x0 x2 0)<0)) (some true) (br (sm (qjN (intOf (cellAt x0 x2 1)))) (some !gv (qjN (intOf (cellAt x0 x2 1)))) none)) (fun y0=>
 .br (y0) (.at (.done 0)) (.at (.next ((x0,x1,IntKind.i64.wrap (x2+1),x3,x4,x5,x6,x7)))))
 (.no))
 (.no))
 (.at (.done 1))
def qvQ:qhm->DT (Rd qhm):=(fun v=>qvR v.1 v.2.1 v.2.2.1 v.2.2.2.1 v.f.1 v.f.2.1 v.f.2.2.1 v.f.2.2.2)
def qDk(v:qhm):Option (Nat×qhm):=qaz (qaf (fun v=>(qvQ v).ev) v)
theorem qDl(v):qDk v=qaf (fun v=>(qvQ v).ev) v:=qaa _
def qWd:qbQ:=LE (τ:=qhm) (hD qVy) (qDk) zng
theorem zmx:Go.Eng.Told IP (qad F54 0).1 (qad F54 0).2 (qWd):=lp (inferInstance:Inhabited qhm) (hs:=qVy) qvQ qTb qDl
abbrev q76:Type:=Bool
def zaR:PArgs:=⟨[.int .i64,.view 1],[]⟩
def zbJ:List PRes:=[⟨false,.bool,[]⟩]
def qCd(x0:Int)(x1:List AV):DT q76:=
 .bi (br (decide (x0>=1)) (some (decide (x0<=(x1.length:Int)))) (some false)) (fun y0=>
 .at (y0))
 (.no)
def qpU(x0:Int)(x1:List AV):Option q76:=qaz (qCd x0 x1).ev
theorem qVc(x0 x1):qpU x0 x1=(qCd x0 x1).ev:=qaa _
theorem zkI:FH IP 55 zaR zbJ (k2 qpU):=fh F55 (k2 qCd) qTb
def T59:Tab:=(55,FE zaR zbJ (k2 qpU))::T58
theorem q8F:qan IP T59:=⟨qam zkI,qTb⟩
abbrev q7V:Type:=Bool
def zaE:PArgs:=⟨[.agg [.view 2,.bool,.int .i64,.int .i64,.bool]],[]⟩
def zbw:List PRes:=[⟨false,.bool,[]⟩]
def qBX(x0:List AV)(x1:Bool)(x2 x3:Int)(x4:Bool):DT q7V:=
 .bi (pj 0 (qDk (x0,(x0.length:Int),0,x0,x1,x2,x3,x4))) (fun y0=>
 .at (false))
 (.bi (pj 1 (qDk (x0,(x0.length:Int),0,x0,x1,x2,x3,x4))) (fun y0=>
 .bi (qhs) (fun y1=>
 .bi (qpU y0.f.2.1 y1) (fun y2=>
 .br (y2)
 (.bi (qht) (fun y3=>
 .bi (qpU y0.f.2.2.1 y3) (fun y4=>
 .at (y4))
 (.no))
 (.no))
 (.at (false)))
 (.no))
 (.no))
 (.no))
def qpS(x0:List AV)(x1:Bool)(x2 x3:Int)(x4:Bool):Option q7V:=qaz (qBX x0 x1 x2 x3 x4).ev
theorem qUY(x0 x1 x2 x3 x4):qpS x0 x1 x2 x3 x4=(qBX x0 x1 x2 x3 x4).ev:=qaa _
theorem zkt:FH IP 54 zaE zbw (k5 qpS):=qah (F:=F54) (L:=[(1005400,qWd)]) (t:=(k5 qBX)) q8F (qac (l:=[qad F54 0]) (by kernel_rfl) ⟨qau (by kernel_rfl) zmx,trivial⟩) (by kernel_rfl) (fun v=>by kernel_rfl) (fun _=>qaa _)
def T60:Tab:=(54,FE zaE zbw (k5 qpS))::T59
theorem q8G:qan IP T60:=⟨qam zkt,q8F⟩
abbrev qFb:Type:=Int
def quP:PArgs:=⟨[.agg [.int .i64,.int .i64,.str,.view 4]],[]⟩
def qvh:List PRes:=[⟨false,.int .i64,[]⟩]
abbrev qdB:Type:=Int->Int->(List UInt8)->(List AV)->Option qFb
def qyK(G_u230q:qdB):Prop:=FH IP 113 quP qvh (k4 G_u230q)
def q4p(G_u230q:qdB):Tab:=(113,FE quP qvh (k4 G_u230q))::T60
theorem qsw(G_u230q:qdB)(hG:qyK G_u230q):qan IP (q4p G_u230q):=⟨qam (hG),q8G⟩
abbrev qfh:Type:=Int×List AV×Int×Int
def qJO:List PSt:=[⟨[(1011300,.junk),(3,.int .i64),(7,.view 4),(8,.int .i64),(9,.int .i64)],[],0,0⟩]
def q27(x0:Int)(x1:List AV)(x2 x3:Int):X×St:=(.exit 0,⟨[(3,.int .i64 x0)],[],0,0⟩)
def zhB:List (qfh->X×St):=[(k4 q27)]
def qpb(G_u230q:qdB)(x0:Int)(x1:List AV)(x2 x3:Int):DT (Rd qfh):=
 .br (decide (x3<x2))
 (.br (qaH [.int .i64,.int .i64,.str,.slice 4] x1 x3)
 (.bi (G_u230q (intOf (cellAt x1 x3 0)) (intOf (cellAt x1 x3 1)) (strOf (cellAt x1 x3 2)) (qaq (cellAt x1 x3 3))) (fun y0=>
 .at (.next ((IntKind.i64.wrap (x0+y0),x1,x2,IntKind.i64.wrap (x3+1)))))
 (.no))
 (.no))
 (.at (.done 0))
def qns(G_u230q:qdB):qfh->DT (Rd qfh):=(fun v=>qpb G_u230q v.1 v.2.1 v.2.2.1 v.2.2.2)
def qzN(G_u230q:qdB)(v:qfh):Option (Nat×qfh):=qaz (qaf (fun v=>(qns G_u230q v).ev) v)
theorem qxx(G_u230q v):qzN G_u230q v=qaf (fun v=>(qns G_u230q v).ev) v:=qaa _
def qK2(G_u230q:qdB):qbQ:=LE (τ:=qfh) (hD qJO) (qzN G_u230q) zhB
theorem zgt(G_u230q:qdB)(hG:qyK G_u230q):Go.Eng.Told IP (qad zij 0).1 (qad zij 0).2 (qK2 G_u230q):=qav (inferInstance:Inhabited qfh) (hs:=qJO) (st:=qns G_u230q) (L:=[]) (qsw G_u230q hG) (qac (l:=[]) (by kernel_rfl) trivial) (qxx G_u230q) (fun v=>by kernel_rfl) (fun v=>by kernel_rfl)
def qBa(G_u230q:qdB)(x0 x1:Int)(x2:List UInt8)(x3:List AV):DT qFb:=
 .bi (pj 0 (qzN G_u230q (1,x3,(x3.length:Int),0))) (fun y0=>
 .at (y0.1))
 (.no)
def qhi:Nat->qdB
 |0=>fun _ _ _ _=>none
 |n+1=>fun x0 x1 x2 x3=>(qBa ((qhi n)) x0 x1 x2 x3).ev
def qzp(x0 x1:Int)(x2:List UInt8)(x3:List AV):Option qFb:=qjC fun n=>(qhi n) x0 x1 x2 x3
theorem qwI:∀n,qyK ((qhi n))
 |0=>(fun v y h=>nomatch h)
 |n+1=>have hG:=qwI n
 qah (F:=zij) (L:=[(1011300,qK2 ((qhi n)))]) (t:=(k4 (qBa ((qhi n))))) (qsw ((qhi n)) hG) (qac (l:=[qad zij 0]) (by kernel_rfl) ⟨qau (by kernel_rfl) (zgt ((qhi n)) hG),trivial⟩) (by kernel_rfl) (fun v=>by kernel_rfl) (fun v=>rfl)
theorem zdy:FH IP 113 quP qvh (k4 qzp):=qbL (p:=quP) (rs:=qvh) (s:=fun n=>(k4 ((qhi n)))) fun n=>(qwI n)
def T61:Tab:=(113,FE quP qvh (k4 qzp))::T60
theorem q8H:qan IP T61:=⟨qam zdy,q8G⟩
abbrev qFc:Type:=Int
def quQ:PArgs:=⟨[.agg [.int .i64,.int .i64,.str,.view 4]],[]⟩
def qvi:List PRes:=[⟨false,.int .i64,[]⟩]
abbrev qdC:Type:=Int->Int->(List UInt8)->(List AV)->Option qFc
def qyL(G_u231q:qdC):Prop:=FH IP 114 quQ qvi (k4 G_u231q)
def q4q(G_u231q:qdC):Tab:=(114,FE quQ qvi (k4 G_u231q))::T61
theorem qsx(G_u231q:qdC)(hG:qyL G_u231q):qan IP (q4q G_u231q):=⟨qam (hG),q8H⟩
abbrev qfi:Type:=Int×List AV×Int×Int
def qJP:List PSt:=[⟨[(1011400,.junk),(3,.int .i64),(7,.view 4),(8,.int .i64),(9,.int .i64)],[],0,0⟩]
def q28(x0:Int)(x1:List AV)(x2 x3:Int):X×St:=(.exit 0,⟨[(3,.int .i64 x0)],[],0,0⟩)
def zhC:List (qfi->X×St):=[(k4 q28)]
def qpc(G_u231q:qdC)(x0:Int)(x1:List AV)(x2 x3:Int):DT (Rd qfi):=
 .br (decide (x3<x2))
 (.br (qaH [.int .i64,.int .i64,.str,.slice 4] x1 x3)
 (.bi (G_u231q (intOf (cellAt x1 x3 0)) (intOf (cellAt x1 x3 1)) (strOf (cellAt x1 x3 2)) (qaq (cellAt x1 x3 3))) (fun y0=>
 .at (.next ((if y0>x0 then y0 else x0,x1,x2,IntKind.i64.wrap (x3+1)))))
 (.no))
 (.no))
 (.at (.done 0))
def qnt(G_u231q:qdC):qfi->DT (Rd qfi):=(fun v=>qpc G_u231q v.1 v.2.1 v.2.2.1 v.2.2.2)
def qzO(G_u231q:qdC)(v:qfi):Option (Nat×qfi):=qaz (qaf (fun v=>(qnt G_u231q v).ev) v)
theorem qxy(G_u231q v):qzO G_u231q v=qaf (fun v=>(qnt G_u231q v).ev) v:=qaa _
def qK3(G_u231q:qdC):qbQ:=LE (τ:=qfi) (hD qJP) (qzO G_u231q) zhC
theorem zgu(G_u231q:qdC)(hG:qyL G_u231q):Go.Eng.Told IP (qad zik 0).1 (qad zik 0).2 (qK3 G_u231q):=qav (inferInstance:Inhabited qfi) (hs:=qJP) (st:=qnt G_u231q) (L:=[]) (qsx G_u231q hG) (qac (l:=[]) (by kernel_rfl) trivial) (qxy G_u231q) (fun v=>by kernel_rfl) (fun v=>by kernel_rfl)
def qBb(G_u231q:qdC)(x0 x1:Int)(x2:List UInt8)(x3:List AV):DT qFc:=
 .bi (pj 0 (qzO G_u231q (0,x3,(x3.length:Int),0))) (fun y0=>
 .at (IntKind.i64.wrap (y0.1+1)))
 (.no)
def qhj:Nat->qdC
 |0=>fun _ _ _ _=>none
 |n+1=>fun x0 x1 x2 x3=>(qBb ((qhj n)) x0 x1 x2 x3).ev
def qtk(x0 x1:Int)(x2:List UInt8)(x3:List AV):Option qFc:=qjC fun n=>(qhj n) x0 x1 x2 x3
theorem qwJ:∀n,qyL ((qhj n))
 |0=>(fun v y h=>nomatch h)
 |n+1=>have hG:=qwJ n
 qah (F:=zik) (L:=[(1011400,qK3 ((qhj n)))]) (t:=(k4 (qBb ((qhj n))))) (qsx ((qhj n)) hG) (qac (l:=[qad zik 0]) (by kernel_rfl) ⟨qau (by kernel_rfl) (zgu ((qhj n)) hG),trivial⟩) (by kernel_rfl) (fun v=>by kernel_rfl) (fun v=>rfl)
theorem zdz:FH IP 114 quQ qvi (k4 qtk):=qbL (p:=quQ) (rs:=qvi) (s:=fun n=>(k4 ((qhj n)))) fun n=>(qwJ n)
def T62:Tab:=(114,FE quQ qvi (k4 qtk))::T61
theorem q8I:qan IP T62:=⟨qam zdz,q8H⟩
abbrev qP0:Type:=Int
def qXh:PArgs:=⟨[.int .i64],[]⟩
def qZC:List PRes:=[⟨false,.int .i64,[]⟩]
def qqU(x0:Int):DT qP0:=
 .br (x0==1)
 (.br (x0==1)
 (.at (0))
 (.br (x0==9)
 (.br (x0==9)
 (.at (1))
 (.br (x0==19)
 (.at (3))
 (.bi (br (decide (x0>=5)) (some (decide (x0<=18))) (some false)) (fun y0=>
 .br (y0) (.at (2)) (.at (-1)))
 (.no))))
 (.br (x0==16)
 (.at (1))
 (.br (x0==19)
 (.at (3))
 (.bi (br (decide (x0>=5)) (some (decide (x0<=18))) (some false)) (fun y0=>
 .br (y0) (.at (2)) (.at (-1)))
 (.no))))))
 (.br (x0==2)
 (.br (x0==2)
 (.at (0))
 (.br (x0==9)
 (.br (x0==9)
 (.at (1))
 (.br (x0==19)
 (.at (3))
 (.bi (br (decide (x0>=5)) (some (decide (x0<=18))) (some false)) (fun y0=>
 .br (y0) (.at (2)) (.at (-1)))
 (.no))))
 (.br (x0==16)
 (.at (1))
 (.br (x0==19)
 (.at (3))
 (.bi (br (decide (x0>=5)) (some (decide (x0<=18))) (some false)) (fun y0=>
 .br (y0) (.at (2)) (.at (-1)))
 (.no))))))
 (.br (x0==3)
 (.br (x0==3)
 (.at (0))
 (.br (x0==9)
 (.br (x0==9)
 (.at (1))
 (.br (x0==19)
 (.at (3))
 (.bi (br (decide (x0>=5)) (some (decide (x0<=18))) (some false)) (fun y0=>
 .br (y0) (.at (2)) (.at (-1)))
 (.no))))
 (.br (x0==16)
 (.at (1))
 (.br (x0==19)
 (.at (3))
 (.bi (br (decide (x0>=5)) (some (decide (x0<=18))) (some false)) (fun y0=>
 .br (y0) (.at (2)) (.at (-1)))
 (.no))))))
 (.br (x0==4)
 (.at (0))
 (.br (x0==9)
 (.br (x0==9)
 (.at (1))
 (.br (x0==19)
 (.at (3))
 (.bi (br (decide (x0>=5)) (some (decide (x0<=18))) (some false)) (fun y0=>
 .br (y0) (.at (2)) (.at (-1)))
 (.no))))
 (.br (x0==16)
 (.at (1))
 (.br (x0==19)
 (.at (3))
 (.bi (br (decide (x0>=5)) (some (decide (x0<=18))) (some false)) (fun y0=>
 .br (y0) (.at (2)) (.at (-1)))
 (.no))))))))
def qjM(x0:Int):Option qP0:=qaz (qqU x0).ev
theorem qNe(x0):qjM x0=(qqU x0).ev:=qaa _
theorem zcC:FH IP 174 qXh qZC qjM:=fh zoC qqU q8I
def T63:Tab:=(174,FE qXh qZC qjM)::T62
theorem q8J:qan IP T63:=⟨qam zcC,q8I⟩
abbrev qQr:Type:=Bool
def qXN:PArgs:=⟨[.agg [.int .i64,.int .i64,.str,.view 4]],[]⟩
def qZ8:List PRes:=[⟨false,.bool,[]⟩]
def qrn(x0 x1:Int)(x2:List UInt8)(x3:List AV):DT qQr:=
 .br (x0==1)
 (.bi (qjM x0) (fun y0=>
 .br (y0==(x3.length:Int))
 (.br (decide (x1>=0))
 (.br (decide (x1<=9223372036854775807))
 (.br (x2== []) (.at (true)) (.at (x0==4)))
 (.at (false)))
 (.at (false)))
 (.at (false)))
 (.no))
 (.br (x0==2)
 (.bi (qjM x0) (fun y0=>
 .br (y0==(x3.length:Int))
 (.br (decide (x1>=0))
 (.br (decide (x1<=1000000000000))
 (.br (x2== []) (.at (true)) (.at (x0==4)))
 (.at (false)))
 (.at (false)))
 (.at (false)))
 (.no))
 (.br (x0==3)
 (.bi (qjM x0) (fun y0=>
 .br (y0==(x3.length:Int))
 (.br (decide (x1>=0))
 (.br (decide (x1<=1000000))
 (.br (x2== []) (.at (true)) (.at (x0==4)))
 (.at (false)))
 (.at (false)))
 (.at (false)))
 (.no))
 (.bi (qjM x0) (fun y0=>
 .br (y0==(x3.length:Int))
 (.br (decide (x1>=0))
 (.br (decide (x1<=0))
 (.br (x2== []) (.at (true)) (.at (x0==4)))
 (.at (false)))
 (.at (false)))
 (.at (false)))
 (.no))))
def qtb(x0 x1:Int)(x2:List UInt8)(x3:List AV):Option qQr:=qaz (qrn x0 x1 x2 x3).ev
theorem qNI(x0 x1 x2 x3):qtb x0 x1 x2 x3=(qrn x0 x1 x2 x3).ev:=qaa _
theorem zdc:FH IP 116 qXN qZ8 (k4 qtb):=fh zoi (k4 qrn) q8J
def T64:Tab:=(116,FE qXN qZ8 (k4 qtb))::T63
theorem q8K:qan IP T64:=⟨qam zdc,q8J⟩
abbrev qFd:Type:=Bool
def quR:PArgs:=⟨[.agg [.int .i64,.int .i64,.str,.view 4],.fn (.func 116) []],[]⟩
def qvj:List PRes:=[⟨false,.bool,[]⟩]
abbrev qcv:Type:=Int->Int->(List UInt8)->(List AV)->Option qFd
abbrev zbU:Type:=Bool
def qXT:PArgs:=⟨[.view 4,.fn (.func 173) [.ptr [.fn (.func 116) []]]],[]⟩
def q0e:List PRes:=[⟨false,.bool,[]⟩]
abbrev qgW:Type:=(List AV)->Option zbU
abbrev zbW:Type:=Int
def qY2:PArgs:=⟨[.view 4,.fn (.func 173) [.ptr [.fn (.func 116) []]]],[]⟩
def q1m:List PRes:=[⟨false,.int .i64,[]⟩]
abbrev qgY:Type:=(List AV)->Option zbW
abbrev qE6:Type:=Bool
def quJ:PArgs:=⟨[.agg [.int .i64,.int .i64,.str,.view 4],.ptr [.fn (.func 116) []]],[]⟩
def qvb:List PRes:=[⟨false,.bool,[]⟩]
abbrev qct:Type:=Int->Int->(List UInt8)->(List AV)->Option qE6
def qyM(G_u232q:qcv)(G_u1q:qgW)(G_u5q:qgY)(G_u156q:qct):Prop:=FH IP 115 quR qvj (k4 G_u232q)/\FH IP 172 qXT q0e G_u1q/\FH IP 217 qY2 q1m G_u5q/\FH IP 173 quJ qvb (k4 G_u156q)
def q4r(G_u232q:qcv)(G_u1q:qgW)(G_u5q:qgY)(G_u156q:qct):Tab:=(115,FE quR qvj (k4 G_u232q))::(172,FE qXT q0e G_u1q)::(217,FE qY2 q1m G_u5q)::(173,FE quJ qvb (k4 G_u156q))::T64
theorem qgd(G_u232q:qcv)(G_u1q:qgW)(G_u5q:qgY)(G_u156q:qct)(hG:qyM G_u232q G_u1q G_u5q G_u156q):qan IP (q4r G_u232q G_u1q G_u5q G_u156q):=⟨qam (hG.1),qam (hG.2.1),qam (hG.2.2.1),qam (hG.2.2.2),q8K⟩
abbrev qmN:Type:=List AV×Int×Int
def q9F:List PSt:=[⟨[(1021700,.junk),(0,.view 4),(1,.fn (.func 173) [.ptr [.fn (.func 116) []]]),(7,.int .i64),(8,.int .i64)],[],0,0⟩]
def zie(x0:List AV)(x1 x2:Int):X×St:=(.ret,⟨[(4,.int .i64 x2)],[],0,0⟩)
def zif(x0:List AV)(x1 x2:Int):X×St:=(.exit 0,⟨[(4,.junk)],[],0,0⟩)
def zsQ:List (qmN->X×St):=[(k3 zie),(k3 zif)]
def qAO(G_u232q:qcv)(G_u1q:qgW)(G_u5q:qgY)(G_u156q:qct)(x0:List AV)(x1 x2:Int):DT (Rd qmN):=
 .br (decide (x2<x1))
 (.br (qaH [.int .i64,.int .i64,.str,.slice 4] x0 x2)
 (.bi (G_u156q (intOf (cellAt x0 x2 0)) (intOf (cellAt x0 x2 1)) (strOf (cellAt x0 x2 2)) (qaq (cellAt x0 x2 3))) (fun y0=>
 .br (y0) (.at (.done 0)) (.at (.next ((x0,x1,IntKind.i64.wrap (x2+1))))))
 (.no))
 (.no))
 (.at (.done 1))
def qEz(G_u232q:qcv)(G_u1q:qgW)(G_u5q:qgY)(G_u156q:qct):qmN->DT (Rd qmN):=(fun v=>qAO G_u232q G_u1q G_u5q G_u156q v.1 v.2.1 v.2.2)
def qVS(G_u232q:qcv)(G_u1q:qgW)(G_u5q:qgY)(G_u156q:qct)(v:qmN):Option (Nat×qmN):=qaz (qaf (fun v=>(qEz G_u232q G_u1q G_u5q G_u156q v).ev) v)
theorem qKz(G_u232q G_u1q G_u5q G_u156q v):qVS G_u232q G_u1q G_u5q G_u156q v=qaf (fun v=>(qEz G_u232q G_u1q G_u5q G_u156q v).ev) v:=qaa _
def q9R(G_u232q:qcv)(G_u1q:qgW)(G_u5q:qgY)(G_u156q:qct):qbQ:=LE (τ:=qmN) (hD q9F) (qVS G_u232q G_u1q G_u5q G_u156q) zsQ
theorem zsD(G_u232q:qcv)(G_u1q:qgW)(G_u5q:qgY)(G_u156q:qct)(hG:qyM G_u232q G_u1q G_u5q G_u156q):Go.Eng.Told IP (qad q4e 0).1 (qad q4e 0).2 (q9R G_u232q G_u1q G_u5q G_u156q):=qav (inferInstance:Inhabited qmN) (hs:=q9F) (st:=qEz G_u232q G_u1q G_u5q G_u156q) (L:=[]) (qgd G_u232q G_u1q G_u5q G_u156q hG) (qac (l:=[]) (by kernel_rfl) trivial) (qKz G_u232q G_u1q G_u5q G_u156q) (fun v=>by kernel_rfl) (fun v=>by kernel_rfl)
def qBc(G_u232q:qcv)(G_u1q:qgW)(G_u5q:qgY)(G_u156q:qct)(x0 x1:Int)(x2:List UInt8)(x3:List AV):DT qFd:=
 .bi (qtb x0 x1 x2 x3) (fun y0=>
 .bi (br y0 (br (sm (G_u1q x3)) (some !gv (G_u1q x3)) none) (some false)) (fun y1=>
 .at (y1))
 (.no))
 (.no)
def q1Y(G_u232q:qcv)(G_u1q:qgW)(G_u5q:qgY)(G_u156q:qct)(x0:List AV):DT zbU:=
 .bi (G_u5q x0) (fun y0=>
 .at (decide (y0>=0)))
 (.no)
def q2a(G_u232q:qcv)(G_u1q:qgW)(G_u5q:qgY)(G_u156q:qct)(x0:List AV):DT zbW:=
 .bi (pj 0
 (qVS G_u232q G_u1q G_u5q G_u156q (x0,(x0.length:Int),0))) (fun y0=>
 .at (y0.2.2))
 (.bi (pj 1
 (qVS G_u232q G_u1q G_u5q G_u156q (x0,(x0.length:Int),0))) (fun y0=>
 .at (-1))
 (.no))
def qA1(G_u232q:qcv)(G_u1q:qgW)(G_u5q:qgY)(G_u156q:qct)(x0 x1:Int)(x2:List UInt8)(x3:List AV):DT qE6:=
 .bi (G_u232q x0 x1 x2 x3) (fun y0=>
 .at (!y0))
 (.no)
def qax:Nat->qcv×qgW×qgY×qct
 |0=>(fun _ _ _ _=>none,fun _=>none,fun _=>none,fun _ _ _ _=>none)
 |n+1=>(fun x0 x1 x2 x3=>(qBc ((qax n).1) ((qax n).2.1) ((qax n).2.2.1) ((qax n).2.2.2) x0 x1 x2 x3).ev,fun x0=>(q1Y ((qax n).1) ((qax n).2.1) ((qax n).2.2.1) ((qax n).2.2.2) x0).ev,fun x0=>(q2a ((qax n).1) ((qax n).2.1) ((qax n).2.2.1) ((qax n).2.2.2) x0).ev,fun x0 x1 x2 x3=>(qA1 ((qax n).1) ((qax n).2.1) ((qax n).2.2.1) ((qax n).2.2.2) x0 x1 x2 x3).ev)
def qzq(x0 x1:Int)(x2:List UInt8)(x3:List AV):Option qFd:=qjC fun n=>(qax n).1 x0 x1 x2 x3
def zkU(x0:List AV):Option zbU:=qjC fun n=>(qax n).2.1 x0
def zkW(x0:List AV):Option zbW:=qjC fun n=>(qax n).2.2.1 x0
def qUl(x0 x1:Int)(x2:List UInt8)(x3:List AV):Option qE6:=qjC fun n=>(qax n).2.2.2 x0 x1 x2 x3
theorem qhM:∀n,qyM ((qax n).1) ((qax n).2.1) ((qax n).2.2.1) ((qax n).2.2.2)
 |0=>⟨(fun v y h=>nomatch h),(fun v y h=>nomatch h),(fun v y h=>nomatch h),(fun v y h=>nomatch h)⟩
 |n+1=>have hG:=qhM n
 ⟨qah (F:=znv) (L:=[]) (t:=(k4 (qBc ((qax n).1) ((qax n).2.1) ((qax n).2.2.1) ((qax n).2.2.2)))) (qgd ((qax n).1) ((qax n).2.1) ((qax n).2.2.1) ((qax n).2.2.2) hG) (qac (l:=[]) (by kernel_rfl) trivial) (by kernel_rfl) (fun v=>by kernel_rfl) (fun v=>rfl),qah (F:=znx) (L:=[]) (t:=(q1Y ((qax n).1) ((qax n).2.1) ((qax n).2.2.1) ((qax n).2.2.2))) (qgd ((qax n).1) ((qax n).2.1) ((qax n).2.2.1) ((qax n).2.2.2) hG) (qac (l:=[]) (by kernel_rfl) trivial) (by kernel_rfl) (fun v=>by kernel_rfl) (fun v=>rfl),qah (F:=q4e) (L:=[(1021700,q9R ((qax n).1) ((qax n).2.1) ((qax n).2.2.1) ((qax n).2.2.2))]) (t:=(q2a ((qax n).1) ((qax n).2.1) ((qax n).2.2.1) ((qax n).2.2.2))) (qgd ((qax n).1) ((qax n).2.1) ((qax n).2.2.1) ((qax n).2.2.2) hG) (qac (l:=[qad q4e 0]) (by kernel_rfl) ⟨qau (by kernel_rfl) (zsD ((qax n).1) ((qax n).2.1) ((qax n).2.2.1) ((qax n).2.2.2) hG),trivial⟩) (by kernel_rfl) (fun v=>by kernel_rfl) (fun v=>rfl),qah (F:=zny) (L:=[]) (t:=(k4 (qA1 ((qax n).1) ((qax n).2.1) ((qax n).2.2.1) ((qax n).2.2.2)))) (qgd ((qax n).1) ((qax n).2.1) ((qax n).2.2.1) ((qax n).2.2.2) hG) (qac (l:=[]) (by kernel_rfl) trivial) (by kernel_rfl) (fun v=>by kernel_rfl) (fun v=>rfl)⟩
theorem zdA:FH IP 115 quR qvj (k4 qzq):=qbL (p:=quR) (rs:=qvj) (s:=fun n=>(k4 ((qax n).1))) fun n=>(qhM n).1
theorem zpy:FH IP 172 qXT q0e zkU:=qbL (p:=qXT) (rs:=q0e) (s:=fun n=>((qax n).2.1)) fun n=>(qhM n).2.1
theorem zpA:FH IP 217 qY2 q1m zkW:=qbL (p:=qY2) (rs:=q1m) (s:=fun n=>((qax n).2.2.1)) fun n=>(qhM n).2.2.1
theorem zcU:FH IP 173 quJ qvb (k4 qUl):=qbL (p:=quJ) (rs:=qvb) (s:=fun n=>(k4 ((qax n).2.2.2))) fun n=>(qhM n).2.2.2
def T65:Tab:=(115,FE quR qvj (k4 qzq))::T64
theorem zjs:qan IP T65:=⟨qam zdA,q8K⟩
def T66:Tab:=(172,FE qXT q0e zkU)::T65
theorem zjt:qan IP T66:=⟨qam zpy,zjs⟩
def T67:Tab:=(217,FE qY2 q1m zkW)::T66
theorem zju:qan IP T67:=⟨qam zpA,zjt⟩
def T68:Tab:=(173,FE quJ qvb (k4 qUl))::T67
theorem q8L:qan IP T68:=⟨qam zcU,zju⟩
abbrev qP1:Type:=Bool
def qXi:PArgs:=⟨[.str],[]⟩
def qZD:List PRes:=[⟨false,.bool,[]⟩]
def qqV(x0:List UInt8):DT qP1:=
 .bi (qjL x0) (fun y0=>
 .bi (br (y0.2.2==0) (some ((y0.1.length:Int)==1)) (some false)) (fun y1=>
 .bi (br y1 (br (qaH [.int .i64,.int .i64,.str] y0.1 0) (some (intOf (cellAt y0.1 0 0)==1)) none) (some false)) (fun y2=>
 .bi (br y2 (br (qaH [.int .i64,.int .i64,.str] y0.1 0) (some (strOf (cellAt y0.1 0 2)==x0)) none) (some false)) (fun y3=>
 .at (y3))
 (.no))
 (.no))
 (.no))
 (.no)
def qn9(x0:List UInt8):Option qP1:=qaz (qqV x0).ev
theorem qNf(x0):qn9 x0=(qqV x0).ev:=qaa _
theorem zcD:FH IP 175 qXi qZD qn9:=fh zoD qqV q8L
def T69:Tab:=(175,FE qXi qZD qn9)::T68
theorem q8M:qan IP T69:=⟨qam zcD,q8L⟩
abbrev qQO:Type:=Bool
def qYa:PArgs:=⟨[.agg [.int .i64,.int .i64,.str,.view 4]],[]⟩
def q0v:List PRes:=[⟨false,.bool,[]⟩]
def qrD(x0 x1:Int)(x2:List UInt8)(x3:List AV):DT qQO:=
 .bi (br (x0 != 4) (some true) (br (sm (qn9 x2)) (some (gv (qn9 x2))) none)) (fun y0=>
 .at (y0))
 (.no)
def qtl(x0 x1:Int)(x2:List UInt8)(x3:List AV):Option qQO:=qaz (qrD x0 x1 x2 x3).ev
theorem qNY(x0 x1 x2 x3):qtl x0 x1 x2 x3=(qrD x0 x1 x2 x3).ev:=qaa _
theorem zdB:FH IP 117 qYa q0v (k4 qtl):=fh zoj (k4 qrD) q8M
def T70:Tab:=(117,FE qYa q0v (k4 qtl))::T69
theorem q8N:qan IP T70:=⟨qam zdB,q8M⟩
abbrev qE9:Type:=Bool
def quM:PArgs:=⟨[.agg [.int .i64,.int .i64,.str,.view 4],.fn (.func 117) []],[]⟩
def qve:List PRes:=[⟨false,.bool,[]⟩]
abbrev qcu:Type:=Int->Int->(List UInt8)->(List AV)->Option qE9
abbrev zbT:Type:=Bool
def qW4:PArgs:=⟨[.view 4,.fn (.func 173) [.ptr [.fn (.func 117) []]]],[]⟩
def qZp:List PRes:=[⟨false,.bool,[]⟩]
abbrev qgV:Type:=(List AV)->Option zbT
abbrev zbV:Type:=Int
def qY1:PArgs:=⟨[.view 4,.fn (.func 173) [.ptr [.fn (.func 117) []]]],[]⟩
def q1l:List PRes:=[⟨false,.int .i64,[]⟩]
abbrev qgX:Type:=(List AV)->Option zbV
abbrev qE2:Type:=Bool
def quI:PArgs:=⟨[.agg [.int .i64,.int .i64,.str,.view 4],.ptr [.fn (.func 117) []]],[]⟩
def qva:List PRes:=[⟨false,.bool,[]⟩]
abbrev qcs:Type:=Int->Int->(List UInt8)->(List AV)->Option qE2
def qyJ(G_u190q:qcu)(G_u0q:qgV)(G_u4q:qgX)(G_u129q:qcs):Prop:=FH IP 115 quM qve (k4 G_u190q)/\FH IP 172 qW4 qZp G_u0q/\FH IP 217 qY1 q1l G_u4q/\FH IP 173 quI qva (k4 G_u129q)
def q4o(G_u190q:qcu)(G_u0q:qgV)(G_u4q:qgX)(G_u129q:qcs):Tab:=(115,FE quM qve (k4 G_u190q))::(172,FE qW4 qZp G_u0q)::(217,FE qY1 q1l G_u4q)::(173,FE quI qva (k4 G_u129q))::T70
theorem qgc(G_u190q:qcu)(G_u0q:qgV)(G_u4q:qgX)(G_u129q:qcs)(hG:qyJ G_u190q G_u0q G_u4q G_u129q):qan IP (q4o G_u190q G_u0q G_u4q G_u129q):=⟨qam (hG.1),qam (hG.2.1),qam (hG.2.2.1),qam (hG.2.2.2),q8N⟩
abbrev qmM:Type:=List AV×Int×Int
def q9E:List PSt:=[⟨[(1021700,.junk),(0,.view 4),(1,.fn (.func 173) [.ptr [.fn (.func 117) []]]),(7,.int .i64),(8,.int .i64)],[],0,0⟩]
def zic(x0:List AV)(x1 x2:Int):X×St:=(.ret,⟨[(4,.int .i64 x2)],[],0,0⟩)
def zid(x0:List AV)(x1 x2:Int):X×St:=(.exit 0,⟨[(4,.junk)],[],0,0⟩)
def zsP:List (qmM->X×St):=[(k3 zic),(k3 zid)]
def qAN(G_u190q:qcu)(G_u0q:qgV)(G_u4q:qgX)(G_u129q:qcs)(x0:List AV)(x1 x2:Int):DT (Rd qmM):=
 .br (decide (x2<x1))
 (.br (qaH [.int .i64,.int .i64,.str,.slice 4] x0 x2)
 (.bi (G_u129q (intOf (cellAt x0 x2 0)) (intOf (cellAt x0 x2 1)) (strOf (cellAt x0 x2 2)) (qaq (cellAt x0 x2 3))) (fun y0=>
 .br (y0) (.at (.done 0)) (.at (.next ((x0,x1,IntKind.i64.wrap (x2+1))))))
 (.no))
 (.no))
 (.at (.done 1))
def qEy(G_u190q:qcu)(G_u0q:qgV)(G_u4q:qgX)(G_u129q:qcs):qmM->DT (Rd qmM):=(fun v=>qAN G_u190q G_u0q G_u4q G_u129q v.1 v.2.1 v.2.2)
def qVQ(G_u190q:qcu)(G_u0q:qgV)(G_u4q:qgX)(G_u129q:qcs)(v:qmM):Option (Nat×qmM):=qaz (qaf (fun v=>(qEy G_u190q G_u0q G_u4q G_u129q v).ev) v)
theorem qKx(G_u190q G_u0q G_u4q G_u129q v):qVQ G_u190q G_u0q G_u4q G_u129q v=qaf (fun v=>(qEy G_u190q G_u0q G_u4q G_u129q v).ev) v:=qaa _
def q9Q(G_u190q:qcu)(G_u0q:qgV)(G_u4q:qgX)(G_u129q:qcs):qbQ:=LE (τ:=qmM) (hD q9E) (qVQ G_u190q G_u0q G_u4q G_u129q) zsP
theorem zsC(G_u190q:qcu)(G_u0q:qgV)(G_u4q:qgX)(G_u129q:qcs)(hG:qyJ G_u190q G_u0q G_u4q G_u129q):Go.Eng.Told IP (qad q4e 0).1 (qad q4e 0).2 (q9Q G_u190q G_u0q G_u4q G_u129q):=qav (inferInstance:Inhabited qmM) (hs:=q9E) (st:=qEy G_u190q G_u0q G_u4q G_u129q) (L:=[]) (qgc G_u190q G_u0q G_u4q G_u129q hG) (qac (l:=[]) (by kernel_rfl) trivial) (qKx G_u190q G_u0q G_u4q G_u129q) (fun v=>by kernel_rfl) (fun v=>by kernel_rfl)
def qA4(G_u190q:qcu)(G_u0q:qgV)(G_u4q:qgX)(G_u129q:qcs)(x0 x1:Int)(x2:List UInt8)(x3:List AV):DT qE9:=
 .bi (qtl x0 x1 x2 x3) (fun y0=>
 .bi (br y0 (br (sm (G_u0q x3)) (some !gv (G_u0q x3)) none) (some false)) (fun y1=>
 .at (y1))
 (.no))
 (.no)
def q1X(G_u190q:qcu)(G_u0q:qgV)(G_u4q:qgX)(G_u129q:qcs)(x0:List AV):DT zbT:=
 .bi (G_u4q x0) (fun y0=>
 .at (decide (y0>=0)))
 (.no)
def q1Z(G_u190q:qcu)(G_u0q:qgV)(G_u4q:qgX)(G_u129q:qcs)(x0:List AV):DT zbV:=
 .bi (pj 0
 (qVQ G_u190q G_u0q G_u4q G_u129q
 (x0,(x0.length:Int),0))) (fun y0=>
 .at (y0.2.2))
 (.bi (pj 1
 (qVQ G_u190q G_u0q G_u4q G_u129q
 (x0,(x0.length:Int),0))) (fun y0=>
 .at (-1))
 (.no))
def qAX(G_u190q:qcu)(G_u0q:qgV)(G_u4q:qgX)(G_u129q:qcs)(x0 x1:Int)(x2:List UInt8)(x3:List AV):DT qE2:=
 .bi (G_u190q x0 x1 x2 x3) (fun y0=>
 .at (!y0))
 (.no)
end
end Go.Proofs.H16
namespace Go.Proofs.H16
open Go Go.Eng
set_option maxRecDepth 100000
noncomputable section
def qaw:Nat->qcu×qgV×qgX×qcs
 |0=>(fun _ _ _ _=>none,fun _=>none,fun _=>none,fun _ _ _ _=>none)
 |n+1=>(fun x0 x1 x2 x3=>(qA4 ((qaw n).1) ((qaw n).2.1) ((qaw n).2.2.1) ((qaw n).2.2.2) x0 x1 x2 x3).ev,fun x0=>(q1X ((qaw n).1) ((qaw n).2.1) ((qaw n).2.2.1) ((qaw n).2.2.2) x0).ev,fun x0=>(q1Z ((qaw n).1) ((qaw n).2.1) ((qaw n).2.2.1) ((qaw n).2.2.2) x0).ev,fun x0 x1 x2 x3=>(qAX ((qaw n).1) ((qaw n).2.1) ((qaw n).2.2.1) ((qaw n).2.2.2) x0 x1 x2 x3).ev)
def qzm(x0 x1:Int)(x2:List UInt8)(x3:List AV):Option qE9:=qjC fun n=>(qaw n).1 x0 x1 x2 x3
def zkT(x0:List AV):Option zbT:=qjC fun n=>(qaw n).2.1 x0
def zkV(x0:List AV):Option zbV:=qjC fun n=>(qaw n).2.2.1 x0
def qUj(x0 x1:Int)(x2:List UInt8)(x3:List AV):Option qE2:=qjC fun n=>(qaw n).2.2.2 x0 x1 x2 x3
theorem qhL:∀n,qyJ ((qaw n).1) ((qaw n).2.1) ((qaw n).2.2.1) ((qaw n).2.2.2)
 |0=>⟨(fun v y h=>nomatch h),(fun v y h=>nomatch h),(fun v y h=>nomatch h),(fun v y h=>nomatch h)⟩
 |n+1=>have hG:=qhL n
 ⟨qah (F:=znv) (L:=[]) (t:=(k4 (qA4 ((qaw n).1) ((qaw n).2.1) ((qaw n).2.2.1) ((qaw n).2.2.2)))) (qgc ((qaw n).1) ((qaw n).2.1) ((qaw n).2.2.1) ((qaw n).2.2.2) hG) (qac (l:=[]) (by kernel_rfl) trivial) (by kernel_rfl) (fun v=>by kernel_rfl) (fun v=>rfl),qah (F:=znx) (L:=[]) (t:=(q1X ((qaw n).1) ((qaw n).2.1) ((qaw n).2.2.1) ((qaw n).2.2.2))) (qgc ((qaw n).1) ((qaw n).2.1) ((qaw n).2.2.1) ((qaw n).2.2.2) hG) (qac (l:=[]) (by kernel_rfl) trivial) (by kernel_rfl) (fun v=>by kernel_rfl) (fun v=>rfl),qah (F:=q4e) (L:=[(1021700,q9Q ((qaw n).1) ((qaw n).2.1) ((qaw n).2.2.1) ((qaw n).2.2.2))]) (t:=(q1Z ((qaw n).1) ((qaw n).2.1) ((qaw n).2.2.1) ((qaw n).2.2.2))) (qgc ((qaw n).1) ((qaw n).2.1) ((qaw n).2.2.1) ((qaw n).2.2.2) hG) (qac (l:=[qad q4e 0]) (by kernel_rfl) ⟨qau (by kernel_rfl) (zsC ((qaw n).1) ((qaw n).2.1) ((qaw n).2.2.1) ((qaw n).2.2.2) hG),trivial⟩) (by kernel_rfl) (fun v=>by kernel_rfl) (fun v=>rfl),qah (F:=zny) (L:=[]) (t:=(k4 (qAX ((qaw n).1) ((qaw n).2.1) ((qaw n).2.2.1) ((qaw n).2.2.2)))) (qgc ((qaw n).1) ((qaw n).2.1) ((qaw n).2.2.1) ((qaw n).2.2.2) hG) (qac (l:=[]) (by kernel_rfl) trivial) (by kernel_rfl) (fun v=>by kernel_rfl) (fun v=>rfl)⟩
theorem zdb:FH IP 115 quM qve (k4 qzm):=qbL (p:=quM) (rs:=qve) (s:=fun n=>(k4 ((qaw n).1))) fun n=>(qhL n).1
theorem zpx:FH IP 172 qW4 qZp zkT:=qbL (p:=qW4) (rs:=qZp) (s:=fun n=>((qaw n).2.1)) fun n=>(qhL n).2.1
theorem zpz:FH IP 217 qY1 q1l zkV:=qbL (p:=qY1) (rs:=q1l) (s:=fun n=>((qaw n).2.2.1)) fun n=>(qhL n).2.2.1
theorem zcB:FH IP 173 quI qva (k4 qUj):=qbL (p:=quI) (rs:=qva) (s:=fun n=>(k4 ((qaw n).2.2.2))) fun n=>(qhL n).2.2.2
def T71:Tab:=(115,FE quM qve (k4 qzm))::T70
theorem zjv:qan IP T71:=⟨qam zdb,q8N⟩
def T72:Tab:=(172,FE qW4 qZp zkT)::T71
theorem zjw:qan IP T72:=⟨qam zpx,zjv⟩
def T73:Tab:=(217,FE qY1 q1l zkV)::T72
theorem zjx:qan IP T73:=⟨qam zpz,zjw⟩
def T74:Tab:=(173,FE quI qva (k4 qUj))::T73
theorem q8O:qan IP T74:=⟨qam zcB,zjx⟩
abbrev qPZ:Type:=Int
def qXg:PArgs:=⟨[.agg [.int .i64,.int .i64,.str,.view 4]],[]⟩
def qZB:List PRes:=[⟨false,.int .i64,[]⟩]
def qqT(x0 x1:Int)(x2:List UInt8)(x3:List AV):DT qPZ:=
 .bi (qzp x0 x1 x2 x3) (fun y0=>
 .bi (br (decide (y0>64)) (some true) (br (sm (qtk x0 x1 x2 x3)) (some (decide (gv (qtk x0 x1 x2 x3)>8))) none)) (fun y1=>
 .br (y1)
 (.at (5))
 (.bi (qzq x0 x1 x2 x3) (fun y2=>
 .br (!y2)
 (.at (1))
 (.bi (qzm x0 x1 x2 x3) (fun y3=>
 .br (!y3) (.at (4)) (.at (0)))
 (.no)))
 (.no)))
 (.no))
 (.no)
def qiM(x0 x1:Int)(x2:List UInt8)(x3:List AV):Option qPZ:=qaz (qqT x0 x1 x2 x3).ev
theorem qNc(x0 x1 x2 x3):qiM x0 x1 x2 x3=(qqT x0 x1 x2 x3).ev:=qaa _
theorem qTA:FH IP 56 qXg qZB (k4 qiM):=fh F56 (k4 qqT) q8O
def T75:Tab:=(56,FE qXg qZB (k4 qiM))::T74
theorem qIN:qan IP T75:=⟨qam qTA,q8O⟩
abbrev qhn:Type:=List AV×Int×Int×List UInt8×List UInt8×List UInt8×Int×Int×Int×Int×List AV×Bool×Int×Int×Bool×List AV×Bool×Int×Int×Bool×List AV×List AV
def qVz:List PSt:=[⟨[(1001600,.junk),(1,.ref 0 0 0),(64,.view 10),(65,.int .i64),(66,.int .i64)],[(0,.box [.str,.str,.str,.int .i64,.int .i64,.int .i64,.int .i64,.view 2,.bool,.int .i64,.int .i64,.bool,.view 2,.bool,.int .i64,.int .i64,.bool,.view 10,.view 6] false)],1,0⟩]
def q6Y(x0:List AV)(x1 x2:Int)(x3 x4 x5:List UInt8)(x6 x7:Int)(x8 x9:Int)(x10:List AV)(x11:Bool)(x12 x13:Int)(x14:Bool)(x15:List AV)(x16:Bool)(x17 x18:Int)(x19:Bool)(x20 x21:List AV):X×St:=(.ret,
 ⟨[(1,.ref 0 0 0),(2,.bool false)],[(0,
 .box
 [.str x3,.str x4,.str x5,.int .i64 x6,.int .i64 x7,.int .i64 x8,.int .i64 x9,.view 2 x10,.bool x11,
 .int .i64 x12,.int .i64 x13,.bool x14,.view 2 x15,.bool x16,.int .i64 x17,.int .i64 x18,.bool x19,.view 10 x20,
 .view 6 x21]
 false)],1,0⟩)
def q6Z(x0:List AV)(x1 x2:Int)(x3 x4 x5:List UInt8)(x6 x7:Int)(x8 x9:Int)(x10:List AV)(x11:Bool)(x12 x13:Int)(x14:Bool)(x15:List AV)(x16:Bool)(x17 x18:Int)(x19:Bool)(x20 x21:List AV):X×St:=(.exit 0,
 ⟨[(1,.ref 0 0 0),(2,.junk)],[(0,
 .box
 [.str x3,.str x4,.str x5,.int .i64 x6,.int .i64 x7,.int .i64 x8,.int .i64 x9,.view 2 x10,.bool x11,
 .int .i64 x12,.int .i64 x13,.bool x14,.view 2 x15,.bool x16,.int .i64 x17,.int .i64 x18,.bool x19,.view 10 x20,
 .view 6 x21]
 false)],1,0⟩)
def znh:List (qhn->X×St):=[(k22 q6Y),(k22 q6Z)]
def qvT(x0:List AV)(x1 x2:Int)(x3 x4 x5:List UInt8)(x6 x7:Int)(x8 x9:Int)(x10:List AV)(x11:Bool)(x12 x13:Int)(x14:Bool)(x15:List AV)(x16:Bool)(x17 x18:Int)(x19:Bool)(x20 x21:List AV):DT (Rd qhn):=
 .br (decide (x2<x1))
 (.br (qaH [.str,.int .i64,.int .i64,.int .i64,.str,.slice 4,.int .i64,.int .i64,.str,.slice 4] x0 x2)
 (.bi (qhu (strOf (cellAt x0 x2 0))) (fun y0=>
 .br (!y0)
 (.at (.done 0))
 (.bi (qpT) (fun y1=>
 .bi (qpU (intOf (cellAt x0 x2 1)) y1) (fun y2=>
 .br (!y2)
 (.at (.done 0))
 (.bi (qiM (intOf (cellAt x0 x2 2)) (intOf (cellAt x0 x2 3)) (strOf (cellAt x0 x2 4)) (qaq (cellAt x0 x2 5))) (fun y3=>
 .br (y3 != 0)
 (.at (.done 0))
 (.bi (qiM (intOf (cellAt x0 x2 6)) (intOf (cellAt x0 x2 7)) (strOf (cellAt x0 x2 8)) (qaq (cellAt x0 x2 9))) (fun y4=>
 .br (y4 != 0) (.at (.done 0)) (.at (.next ((x0,x1,IntKind.i64.wrap (x2+1),x3,x4,x5,x6,x7,x8,x9,x10,x11,x12,x13,x14,x15,x16,x17,x18,x19,x20,x21)))))
 (.no)))
 (.no)))
 (.no))
 (.no)))
 (.no))
 (.no))
 (.at (.done 1))
def qvS:qhn->DT (Rd qhn):=(fun v=>qvT v.1 v.2.1 v.2.2.1 v.2.2.2.1 v.f.1 v.f.2.1 v.f.2.2.1 v.f.2.2.2.1 v.h.1 v.h.2.1 v.h.2.2.1 v.h.2.2.2.1 v.h.f.1 v.h.f.2.1 v.h.f.2.2.1 v.h.f.2.2.2.1 v.i.1 v.i.2.1 v.i.2.2.1 v.i.2.2.2.1 v.i.f.1 v.i.f.2)
def qDm(v:qhn):Option (Nat×qhn):=qaz (qaf (fun v=>(qvS v).ev) v)
theorem qDn(v):qDm v=qaf (fun v=>(qvS v).ev) v:=qaa _
def qWe:qbQ:=LE (τ:=qhn) (hD qVz) (qDm) znh
theorem zmy:Go.Eng.Told IP (qad F16 0).1 (qad F16 0).2 (qWe):=lp (inferInstance:Inhabited qhn) (hs:=qVz) qvS qIN qDn
abbrev qiB:Type:=List AV×Int×Int
def qVA:List PSt:=[⟨[(1001601,.junk),(95,.view 6),(96,.int .i64),(97,.int .i64)],[],0,0⟩]
def q60(x0:List AV)(x1 x2:Int):X×St:=(.ret,⟨[(2,.bool false)],[],0,0⟩)
def q61(x0:List AV)(x1 x2:Int):X×St:=(.exit 2,⟨[(2,.junk)],[],0,0⟩)
def zni:List (qiB->X×St):=[(k3 q60),(k3 q61)]
def qvV(x0:List AV)(x1 x2:Int):DT (Rd qiB):=
 .br (decide (x2<x1))
 (.br (qaH [.str,.int .i64,.int .i64,.int .i64,.str,.slice 4] x0 x2)
 (.bi (qhu (strOf (cellAt x0 x2 0))) (fun y0=>
 .br (!y0)
 (.at (.done 0))
 (.bi (qlI) (fun y1=>
 .bi (qpU (intOf (cellAt x0 x2 1)) y1) (fun y2=>
 .br (!y2)
 (.at (.done 0))
 (.bi (qiM (intOf (cellAt x0 x2 2)) (intOf (cellAt x0 x2 3)) (strOf (cellAt x0 x2 4)) (qaq (cellAt x0 x2 5))) (fun y3=>
 .br (y3 != 0) (.at (.done 0)) (.at (.next ((x0,x1,IntKind.i64.wrap (x2+1))))))
 (.no)))
 (.no))
 (.no)))
 (.no))
 (.no))
 (.at (.done 1))
def qvU:qiB->DT (Rd qiB):=(fun v=>qvV v.1 v.2.1 v.2.2)
def qDo(v:qiB):Option (Nat×qiB):=qaz (qaf (fun v=>(qvU v).ev) v)
theorem qDp(v):qDo v=qaf (fun v=>(qvU v).ev) v:=qaa _
def qWf:qbQ:=LE (τ:=qiB) (hD qVA) (qDo) zni
theorem zmz:Go.Eng.Told IP (qad F16 1).1 (qad F16 1).2 (qWf):=lp (inferInstance:Inhabited qiB) (hs:=qVA) qvU qIN qDp
abbrev q7W:Type:=Bool
def zaF:PArgs:=⟨[.agg [.str,.str,.str,.int .i64,.int .i64,.int .i64,.int .i64,.view 2,.bool,.int .i64,.int .i64,.bool,.view 2,.bool,.int .i64,.int .i64,.bool,.view 10,.view 6]],[]⟩
def zbx:List PRes:=[⟨false,.bool,[]⟩]
def qBY(x0 x1 x2:List UInt8)(x3 x4:Int)(x5 x6:Int)(x7:List AV)(x8:Bool)(x9 x10:Int)(x11:Bool)(x12:List AV)(x13:Bool)(x14 x15:Int)(x16:Bool)(x17 x18:List AV):DT q7W:=
 .bi (qxb x1) (fun y0=>
 .bi (br (!y0.2) (some true) (br (sm (qhu x0)) (some !gv (qhu x0)) none)) (fun y1=>
 .bi (br y1 (some true) (br (sm (qhu x2)) (some !gv (qhu x2)) none)) (fun y2=>
 .bi (br y2 (some true) (br (sm (qjR x3)) (some !gv (qjR x3)) none)) (fun y3=>
 .bi (br y3 (some true) (some (decide (x4<0)))) (fun y4=>
 .bi (br y4 (some true) (some (decide (x5<0)))) (fun y5=>
 .bi (br y5 (some true) (br (sm (qjN x6)) (some !gv (qjN x6)) none)) (fun y6=>
 .bi (br y6 (some true) (br (sm (qpS x7 x8 x9 x10 x11)) (some !gv (qpS x7 x8 x9 x10 x11)) none)) (fun y7=>
 .bi (br y7 (some true) (br (sm (qpS x12 x13 x14 x15 x16)) (some !gv (qpS x12 x13 x14 x15 x16)) none)) (fun y8=>
 .br (y8)
 (.at (false))
 (.bi (pj 0 (qDm (x17,(x17.length:Int),0,x0,x1,x2,x3,x4,x5,x6,x7,x8,x9,x10,x11,x12,x13,x14,x15,x16,x17,x18))) (fun y9=>
 .at (false))
 (.bi (pj 1 (qDm (x17,(x17.length:Int),0,x0,x1,x2,x3,x4,x5,x6,x7,x8,x9,x10,x11,x12,x13,x14,x15,x16,x17,x18))) (fun y9=>
 .bi (pj 0
 (qDo
 (y9.i.f.2,
 (y9.2.2.2.2.2.2.2.2.2.2.2.2.2.2.2.2.2.2.2.2.2.length:Int),0))) (fun y10=>
 .at (false))
 (.bi (pj 1
 (qDo
 (y9.i.f.2,
 (y9.2.2.2.2.2.2.2.2.2.2.2.2.2.2.2.2.2.2.2.2.2.length:Int),0))) (fun y10=>
 .at (true))
 (.no)))
 (.no))))
 (.no))
 (.no))
 (.no))
 (.no))
 (.no))
 (.no))
 (.no))
 (.no))
 (.no)
def qCW(x0 x1 x2:List UInt8)(x3 x4:Int)(x5 x6:Int)(x7:List AV)(x8:Bool)(x9 x10:Int)(x11:Bool)(x12:List AV)(x13:Bool)(x14 x15:Int)(x16:Bool)(x17 x18:List AV):Option q7W:=qaz (qBY x0 x1 x2 x3 x4 x5 x6 x7 x8 x9 x10 x11 x12 x13 x14 x15 x16 x17 x18).ev
theorem qUZ(x0 x1 x2 x3 x4 x5 x6 x7 x8 x9 x10 x11 x12 x13 x14 x15 x16 x17 x18):qCW x0 x1 x2 x3 x4 x5 x6 x7 x8 x9 x10 x11 x12 x13 x14 x15 x16 x17 x18=(qBY x0 x1 x2 x3 x4 x5 x6 x7 x8 x9 x10 x11 x12 x13 x14 x15 x16 x17 x18).ev:=qaa _
theorem zku:FH IP 16 zaF zbx (k19 qCW):=qah (F:=F16) (L:=[(1001600,qWe),(1001601,qWf)]) (t:=(k19 qBY)) qIN (qac (l:=[qad F16 0,qad F16 1]) (by kernel_rfl) ⟨qau (by kernel_rfl) zmy,qau (by kernel_rfl) zmz,trivial⟩) (by kernel_rfl) (fun v=>by kernel_rfl) (fun _=>qaa _)
def T76:Tab:=(16,FE zaF zbx (k19 qCW))::T75
theorem q8P:qan IP T76:=⟨qam zku,qIN⟩
abbrev q7x:Type:=Int×List AV
def zaa:PArgs:=⟨[.ref 0 0 0,.view 1],[(0,.box [.nils 3,.int .i64] false)]⟩
def za1:List PRes:=[⟨false,.tup [],[(0,.box [.own 1 0,.int .i64] false),(1,.arr 3 false)]⟩]
def qBd(x0:List AV)(x1:Int):DT q7x:=
 .br (!x0.isEmpty&&(x0.all Tk.strB&&room x0.length 32)) (.at ((IntKind.i64.wrap (x1+1),List.map (Tk.tkA (IntKind.i64.wrap (x1+1))) x0))) (.no)
def qw6(x0:List AV)(x1:Int):Option q7x:=qaz (qBd x0 x1).ev
theorem qUt(x0 x1):qw6 x0 x1=(qBd x0 x1).ev:=qaa _
theorem zjW:FH IP 19 zaa za1 (k2 qw6):=fh F19 (k2 qBd) q8P
def T77:Tab:=(19,FE zaa za1 (k2 qw6))::T76
theorem q8Q:qan IP T77:=⟨qam zjW,q8P⟩
abbrev q7w:Type:=Int×List AV
def q98:PArgs:=⟨[.ref 0 0 0,.view 1],[(0,.box [.own 1 0,.int .i64] false),(1,.arr 3 false)]⟩
def zaZ:List PRes:=[⟨false,.tup [],[(0,.box [.own 2 0,.int .i64] false),(2,.arr 3 false)]⟩]
def qA7(x0:List AV)(x1:Int)(x2:List AV):DT q7w:=
 .br (!x0.isEmpty&&(x0.all Tk.strB&&room (x2.length+x0.length) 32)) (.at ((IntKind.i64.wrap (x1+1),x2++List.map (Tk.tkA (IntKind.i64.wrap (x1+1))) x0))) (.no)
def qcH(x0:List AV)(x1:Int)(x2:List AV):Option q7w:=qaz (qA7 x0 x1 x2).ev
theorem qUr(x0 x1 x2):qcH x0 x1 x2=(qA7 x0 x1 x2).ev:=qaa _
theorem zjU:FH IP 19 q98 zaZ (k3 qcH):=fh F19 (k3 qA7) q8Q
def T78:Tab:=(19,FE q98 zaZ (k3 qcH))::T77
theorem qIO:qan IP T78:=⟨qam zjU,q8Q⟩
abbrev qff:Type:=Int×Int
def qJM:List PSt:=[⟨[(1005700,.junk),(0,.int .i64),(5,.int .i64)],[],0,0⟩]
def q25(x0 x1:Int):X×St:=(.exit 0,⟨[(0,.int .i64 x0),(5,.int .i64 x1)],[],0,0⟩)
def zhz:List (qff->X×St):=[(k2 q25)]
def qif(x0 x1:Int):DT (Rd qff):=
 .bi (qmb (IntKind.i64.wrap (x1+1))) (fun y0=>
 .br (decide (y0<=x0)) (.at (.next ((x0,IntKind.i64.wrap (x1+1))))) (.at (.done 0)))
 (.no)
def qqB:qff->DT (Rd qff):=(fun v=>qif v.1 v.2)
def qHr(v:qff):Option (Nat×qff):=qaz (qaf (fun v=>(qqB v).ev) v)
theorem qxv(v):qHr v=qaf (fun v=>(qqB v).ev) v:=qaa _
def qK0:qbQ:=LE (τ:=qff) (hD qJM) (qHr) zhz
theorem zgr:Go.Eng.Told IP (qad F57 0).1 (qad F57 0).2 (qK0):=lp (inferInstance:Inhabited qff) (hs:=qJM) qqB qIO qxv
abbrev qfg:Type:=Int×Int×Int
def qJN:List PSt:=[⟨[(1005701,.junk),(0,.int .i64),(5,.int .i64),(6,.int .i64)],[],0,0⟩]
def q26(x0 x1 x2:Int):X×St:=(.exit 2,⟨[(0,.int .i64 x0),(5,.int .i64 x1),(6,.int .i64 x2)],[],0,0⟩)
def zhA:List (qfg->X×St):=[(k3 q26)]
def qig(x0 x1 x2:Int):DT (Rd qfg):=
 .bi (qiQ x1 x2) (fun y0=>
 .br (decide (x0>=y0))
 (.bi (qiQ x1 x2) (fun y1=>
 .at (.next ((IntKind.i64.wrap (x0-y1),x1,IntKind.i64.wrap (x2+1)))))
 (.no))
 (.at (.done 0)))
 (.no)
def qqC:qfg->DT (Rd qfg):=(fun v=>qig v.1 v.2.1 v.2.2)
def qHs(v:qfg):Option (Nat×qfg):=qaz (qaf (fun v=>(qqC v).ev) v)
theorem qxw(v):qHs v=qaf (fun v=>(qqC v).ev) v:=qaa _
def qK1:qbQ:=LE (τ:=qfg) (hD qJN) (qHs) zhA
theorem zgs:Go.Eng.Told IP (qad F57 1).1 (qad F57 1).2 (qK1):=lp (inferInstance:Inhabited qfg) (hs:=qJN) qqC qIO qxw
abbrev qQK:Type:=Int×Int×Int
def qX7:PArgs:=⟨[.int .i64],[]⟩
def q0s:List PRes:=[⟨false,.tup [.int .i64,.int .i64,.int .i64],[]⟩]
def qrB(x0:Int):DT qQK:=
 .bi (qjR x0) (fun y0=>
 .br (!y0)
 (.at ((0,0,0)))
 (.bi (pj 0 (qHr (x0,IntKind.i64.wrap (2000+IntKind.i64.wrap (x0.tdiv 366))))) (fun y1=>
 .bi (qmb y1.2) (fun y2=>
 .bi (pj 0 (qHs (IntKind.i64.wrap (y1.1-y2),y1.2,1))) (fun y3=>
 .at ((y3.2.1,y3.2.2,IntKind.i64.wrap (y3.1+1))))
 (.no))
 (.no))
 (.no)))
 (.no)
def qti(x0:Int):Option qQK:=qaz (qrB x0).ev
theorem qNW(x0):qti x0=(qrB x0).ev:=qaa _
theorem zdv:FH IP 57 qX7 q0s qti:=qah (F:=F57) (L:=[(1005700,qK0),(1005701,qK1)]) (t:=qrB) qIO (qac (l:=[qad F57 0,qad F57 1]) (by kernel_rfl) ⟨qau (by kernel_rfl) zgr,qau (by kernel_rfl) zgs,trivial⟩) (by kernel_rfl) (fun v=>by kernel_rfl) (fun _=>qaa _)
def T79:Tab:=(57,FE qX7 q0s qti)::T78
theorem q8R:qan IP T79:=⟨qam zdv,qIO⟩
abbrev qCl:Type:=Int×List AV
def qDY:PArgs:=⟨[.ref 0 0 0,.int .i64,.str],[(0,.box [.own 1 0,.int .i64] false),(1,.arr 3 false)]⟩
def qEd:List PRes:=[⟨false,.tup [],[(0,.box [.own 2 0,.int .i64] false),(2,.arr 3 false)]⟩]
def qjk(x0:Int)(x1:List UInt8)(x2:Int)(x3:List AV):DT qCl:=
 .br (room (x3.length+1) 32) (.at ((x2,x3++[AV.agg [.int .i64 x0,.int .i64 x2,AV.str x1]]))) (.no)
def qdX(x0:Int)(x1:List UInt8)(x2:Int)(x3:List AV):Option qCl:=qaz (qjk x0 x1 x2 x3).ev
theorem qtH(x0 x1 x2 x3):qdX x0 x1 x2 x3=(qjk x0 x1 x2 x3).ev:=qaa _
theorem qTD:FH IP 64 qDY qEd (k4 qdX):=fh F64 (k4 qjk) q8R
def T80:Tab:=(64,FE qDY qEd (k4 qdX))::T79
theorem q8S:qan IP T80:=⟨qam qTD,q8R⟩
abbrev q7y:Type:=Int×List AV
def zab:PArgs:=⟨[.ref 0 0 0,.int .i64],[(0,.box [.own 1 0,.int .i64] false),(1,.arr 3 false)]⟩
def za2:List PRes:=[⟨false,.tup [],[(0,.box [.own 2 0,.int .i64] false),(2,.arr 3 false)]⟩]
def qBk(x0 x1:Int)(x2:List AV):DT q7y:=
 .br (decide (-9223372036854775808<=x0)&&decide (x0<=9223372036854775807))
 (.bi (qdX 2 (Lib.itoa x0) x1 x2) (fun y0=>
 .at ((y0)))
 (.no))
 (.no)
def qjT(x0 x1:Int)(x2:List AV):Option q7y:=qaz (qBk x0 x1 x2).ev
theorem qUv(x0 x1 x2):qjT x0 x1 x2=(qBk x0 x1 x2).ev:=qaa _
theorem zjX:FH IP 58 zab za2 (k3 qjT):=fh F58 (k3 qBk) q8S
def T81:Tab:=(58,FE zab za2 (k3 qjT))::T80
theorem q8T:qan IP T81:=⟨qam zjX,q8S⟩
abbrev qP4:Type:=List UInt8×Int
def qXl:PArgs:=⟨[.int .i64],[]⟩
def qZG:List PRes:=[⟨false,.tup [.str,.int .i64],[]⟩]
def qqY(x0:Int):DT qP4:=
 .bi (br (decide (x0<0)) (some true) (some (decide (x0>1000000)))) (fun y0=>
 .br (y0)
 (.at (([],1)))
 (.br (decide (-9223372036854775808<=IntKind.i64.wrap (10000+x0.tmod 10000))&&decide (IntKind.i64.wrap (10000+x0.tmod 10000)<=9223372036854775807))
 (.br (leB 1 (Lib.itoa (IntKind.i64.wrap (10000+x0.tmod 10000))).length)
 (.br (decide ((List.drop 1 (Lib.itoa (IntKind.i64.wrap (10000+x0.tmod 10000)))).length<=9223372036854775807))
 (.br (decide (-9223372036854775808<=IntKind.i64.wrap (x0.tdiv 10000))&&decide (IntKind.i64.wrap (x0.tdiv 10000)<=9223372036854775807))
 (.br (!Lib.trimRightB (List.drop 1 (Lib.itoa (IntKind.i64.wrap (10000+x0.tmod 10000)))) 48== [])
 (.br (decide (1+(Lib.trimRightB (List.drop 1 (Lib.itoa (IntKind.i64.wrap (10000+x0.tmod 10000)))) 48).length<=4611686018427387904))
 (.br (decide
 ((Lib.itoa (IntKind.i64.wrap (x0.tdiv 10000))).length+([46]++Lib.trimRightB (List.drop 1 (Lib.itoa (IntKind.i64.wrap (10000+x0.tmod 10000)))) 48).length <=
 4611686018427387904))
 (.br (decide
 ((Lib.itoa (IntKind.i64.wrap (x0.tdiv 10000))++([46]++Lib.trimRightB (List.drop 1 (Lib.itoa (IntKind.i64.wrap (10000+x0.tmod 10000)))) 48)).length+1 <=
 4611686018427387904))
 (.at ((Lib.itoa (IntKind.i64.wrap (x0.tdiv 10000))++([46]++Lib.trimRightB (List.drop 1 (Lib.itoa (IntKind.i64.wrap (10000+x0.tmod 10000)))) 48)++[37],0)))
 (.no))
 (.no))
 (.no))
 (.br (decide ((Lib.itoa (IntKind.i64.wrap (x0.tdiv 10000))).length+1<=4611686018427387904)) (.at ((Lib.itoa (IntKind.i64.wrap (x0.tdiv 10000))++[37],0))) (.no)))
 (.no))
 (.no))
 (.no))
 (.no)))
 (.no)
def qlZ(x0:Int):Option qP4:=qaz (qqY x0).ev
theorem qNi(x0):qlZ x0=(qqY x0).ev:=qaa _
theorem zcG:FH IP 121 qXl qZG qlZ:=fh zom qqY q8T
def T82:Tab:=(121,FE qXl qZG qlZ)::T81
theorem q8U:qan IP T82:=⟨qam zcG,q8T⟩
abbrev q7G:Type:=Int×List AV
def zak:PArgs:=⟨[.ref 0 0 0,.int .i64],[(0,.box [.own 1 0,.int .i64] false),(1,.arr 3 false)]⟩
def zbc:List PRes:=[⟨false,.tup [],[(0,.box [.own 2 0,.int .i64] false),(2,.arr 3 false)]⟩]
def qBF(x0 x1:Int)(x2:List AV):DT q7G:=
 .bi (qlZ x0) (fun y0=>
 .bi (qdX 3 y0.1 x1 x2) (fun y1=>
 .at ((y1)))
 (.no))
 (.no)
def qtF(x0 x1:Int)(x2:List AV):Option q7G:=qaz (qBF x0 x1 x2).ev
theorem qUF(x0 x1 x2):qtF x0 x1 x2=(qBF x0 x1 x2).ev:=qaa _
theorem zj6:FH IP 59 zak zbc (k3 qtF):=fh F59 (k3 qBF) q8U
def T83:Tab:=(59,FE zak zbc (k3 qtF))::T82
theorem q8V:qan IP T83:=⟨qam zj6,q8U⟩
abbrev q7E:Type:=Int×List AV
def zai:PArgs:=⟨[.ref 0 0 0,.agg [.str,.str,.str,.int .i64,.int .i64,.int .i64,.int .i64,.view 2,.bool,.int .i64,.int .i64,.bool,.view 2,.bool,.int .i64,.int .i64,.bool,.view 10,.view 6]],[(0,.box [.nils 3,.int .i64] false)]⟩
def zba:List PRes:=[⟨false,.tup [],[(0,.box [.own 1 0,.int .i64] false),(1,.arr 3 false)]⟩]
def qBD(x0 x1 x2:List UInt8)(x3 x4:Int)(x5 x6:Int)(x7:List AV)(x8:Bool)(x9 x10:Int)(x11:Bool)(x12:List AV)(x13:Bool)(x14 x15:Int)(x16:Bool)(x17 x18:List AV)(x19:Int):DT q7E:=
 .bi (qxb x1) (fun y0=>
 .bi (qw6 [AV.str [112,114,111,100,117,99,116],AV.str x0,AV.str [123]] x19) (fun y1=>
 .bi (qcH [AV.str [99,117,114,114,101,110,99,121],AV.str y0.1,AV.str [59]] y1.1 y1.2) (fun y2=>
 .bi (qcH [AV.str [99,97,108,101,110,100,97,114],AV.str x2,AV.str [59]] y2.1 y2.2) (fun y3=>
 .bi (qti x3) (fun y4=>
 .bi (qcH [AV.str [102,114,111,109]] y3.1 y3.2) (fun y5=>
 .bi (qjT y4.1 y5.1 y5.2) (fun y6=>
 .br (room (y6.2.length+1) 32)
 (.bi (qjT y4.2.1 y6.1 (y6.2++[AV.agg [.int .i64 (Tk.kindP [47]),.int .i64 y6.1,AV.str [47]]])) (fun y7=>
 .br (room (y7.2.length+1) 32)
 (.bi (qjT y4.2.2 y7.1 (y7.2++[AV.agg [.int .i64 (Tk.kindP [47]),.int .i64 y7.1,AV.str [47]]])) (fun y8=>
 .br (room (y8.2.length+1) 32)
 (.bi (qcH [AV.str [101,118,101,114,121]] y8.1 (y8.2++[AV.agg [.int .i64 (Tk.kindP [59]),.int .i64 y8.1,AV.str [59]]])) (fun y9=>
 .bi (qjT x4 y9.1 y9.2) (fun y10=>
 .br (room (y10.2.length+1) 32)
 (.bi (qcH [AV.str [111,118,101,114,100,114,97,102,116],AV.str [36]] y10.1
 (y10.2++[AV.agg [.int .i64 (Tk.kindP [59]),.int .i64 y10.1,AV.str [59]]])) (fun y11=>
 .bi (qjT x5 y11.1 y11.2) (fun y12=>
 .br (room (y12.2.length+1) 32)
 (.bi (qcH [AV.str [116,97,120]] y12.1 (y12.2++[AV.agg [.int .i64 (Tk.kindP [59]),.int .i64 y12.1,AV.str [59]]])) (fun y13=>
 .bi (qtF x6 y13.1 y13.2) (fun y14=>
 .br (room (y14.2.length+1) 32) (.at ((y14.1,y14.2++[AV.agg [.int .i64 (Tk.kindP [59]),.int .i64 y14.1,AV.str [59]]]))) (.no))
 (.no))
 (.no))
 (.no))
 (.no))
 (.no))
 (.no))
 (.no))
 (.no))
 (.no))
 (.no))
 (.no))
 (.no))
 (.no))
 (.no))
 (.no))
 (.no))
 (.no))
 (.no))
 (.no))
 (.no)
def qCS(x0 x1 x2:List UInt8)(x3 x4:Int)(x5 x6:Int)(x7:List AV)(x8:Bool)(x9 x10:Int)(x11:Bool)(x12:List AV)(x13:Bool)(x14 x15:Int)(x16:Bool)(x17 x18:List AV)(x19:Int):Option q7E:=qaz (qBD x0 x1 x2 x3 x4 x5 x6 x7 x8 x9 x10 x11 x12 x13 x14 x15 x16 x17 x18 x19).ev
theorem qUD(x0 x1 x2 x3 x4 x5 x6 x7 x8 x9 x10 x11 x12 x13 x14 x15 x16 x17 x18 x19):qCS x0 x1 x2 x3 x4 x5 x6 x7 x8 x9 x10 x11 x12 x13 x14 x15 x16 x17 x18 x19=(qBD x0 x1 x2 x3 x4 x5 x6 x7 x8 x9 x10 x11 x12 x13 x14 x15 x16 x17 x18 x19).ev:=qaa _
theorem zj5:FH IP 17 zai zba (k20 qCS):=fh F17 (k20 qBD) q8V
def T84:Tab:=(17,FE zai zba (k20 qCS))::T83
theorem qTc:qan IP T84:=⟨qam zj5,q8V⟩
abbrev qge:Type:=List AV×Int×Int×Int×List AV
def qVm:List PSt:=[⟨[(1001800,.junk),(0,.ref 0 0 0),(33,.view 2),(34,.int .i64),(35,.int .i64)],[(0,.box [.own 2 0,.int .i64] false),(2,.arr 3 false)],3,2⟩]
def q6u(x0:List AV)(x1 x2 x3:Int)(x4:List AV):X×St:=(.exit 0,⟨[(0,.ref 0 0 0)],[(0,.box [.own 2 0 none,.int .i64 x3] false),(2,.arr 3 x4 false)],3,2⟩)
def zm4:List (qge->X×St):=[(k5 q6u)]
def qkp(x0:List AV)(x1 x2 x3:Int)(x4:List AV):DT (Rd qge):=
 .br (decide (x2<x1))
 (.br (qaH [.int .i64,.int .i64] x0 x2)
 (.bi (qcH [AV.str [36]] x3 x4) (fun y0=>
 .bi (qjT (intOf (cellAt x0 x2 0)) y0.1 y0.2) (fun y1=>
 .br (room (y1.2.length+1) 32)
 (.bi (qtF (intOf (cellAt x0 x2 1)) y1.1 (y1.2++[AV.agg [.int .i64 (Tk.kindP [58]),.int .i64 y1.1,AV.str [58]]])) (fun y2=>
 .br (room (y2.2.length+1) 32)
 (.at (.next ((x0,x1,IntKind.i64.wrap (x2+1),y2.1,y2.2++[AV.agg [.int .i64 (Tk.kindP [59]),.int .i64 y2.1,AV.str [59]]]))))
 (.no))
 (.no))
 (.no))
 (.no))
 (.no))
 (.no))
 (.at (.done 0))
def qIm:qge->DT (Rd qge):=(fun v=>qkp v.1 v.2.1 v.2.2.1 v.2.2.2.1 v.f)
def qpV(v:qge):Option (Nat×qge):=qaz (qaf (fun v=>(qIm v).ev) v)
theorem qDa(v):qpV v=qaf (fun v=>(qIm v).ev) v:=qaa _
def qV1:qbQ:=LE (τ:=qge) (hD qVm) (qpV) zm4
theorem zml:Go.Eng.Told IP (qad F18 0).1 (qad F18 0).2 (qV1):=lp (inferInstance:Inhabited qge) (hs:=qVm) qIm qTc qDa
abbrev q7t:Type:=Int×List AV
def q95:PArgs:=⟨[.ref 0 0 0,.str,.agg [.view 2,.bool,.int .i64,.int .i64,.bool]],[(0,.box [.own 1 0,.int .i64] false),(1,.arr 3 false)]⟩
def zaW:List PRes:=[⟨false,.tup [],[(0,.box [.own 2 0,.int .i64] false),(2,.arr 3 false)]⟩]
def qA2(x0:List UInt8)(x1:List AV)(x2:Bool)(x3 x4:Int)(x5:Bool)(x6:Int)(x7:List AV):DT q7t:=
 .br (x2)
 (.br (x5)
 (.bi (qhs) (fun y0=>
 .br (qaH [.str] y0 (IntKind.i64.wrap (x3-1)))
 (.bi (qht) (fun y1=>
 .br (qaH [.str] y1 (IntKind.i64.wrap (x4-1)))
 (.bi (qcH
 [AV.str x0,AV.str [109,97,114,103,105,110,97,108],AV.str (strOf (cellAt y0 (IntKind.i64.wrap (x3-1)) 0)),AV.str (strOf (cellAt y1 (IntKind.i64.wrap (x4-1)) 0)),
 AV.str [107,101,101,112],AV.str [123]]
 x6 x7) (fun y2=>
 .bi (pj 0 (qpV (x1,(x1.length:Int),0,y2))) (fun y3=>
 .bi (qcH [AV.str [125]] y3.2.2.2.1 y3.f) (fun y4=>
 .at ((y4)))
 (.no))
 (.no))
 (.no))
 (.no))
 (.no))
 (.no))
 (.no))
 (.bi (qhs) (fun y0=>
 .br (qaH [.str] y0 (IntKind.i64.wrap (x3-1)))
 (.bi (qht) (fun y1=>
 .br (qaH [.str] y1 (IntKind.i64.wrap (x4-1)))
 (.bi (qcH
 [AV.str x0,AV.str [109,97,114,103,105,110,97,108],AV.str (strOf (cellAt y0 (IntKind.i64.wrap (x3-1)) 0)),AV.str (strOf (cellAt y1 (IntKind.i64.wrap (x4-1)) 0)),
 AV.str [100,114,111,112],AV.str [123]]
 x6 x7) (fun y2=>
 .bi (pj 0 (qpV (x1,(x1.length:Int),0,y2))) (fun y3=>
 .bi (qcH [AV.str [125]] y3.2.2.2.1 y3.f) (fun y4=>
 .at ((y4)))
 (.no))
 (.no))
 (.no))
 (.no))
 (.no))
 (.no))
 (.no)))
 (.br (x5)
 (.bi (qhs) (fun y0=>
 .br (qaH [.str] y0 (IntKind.i64.wrap (x3-1)))
 (.bi (qht) (fun y1=>
 .br (qaH [.str] y1 (IntKind.i64.wrap (x4-1)))
 (.bi (qcH
 [AV.str x0,AV.str [119,104,111,108,101],AV.str (strOf (cellAt y0 (IntKind.i64.wrap (x3-1)) 0)),AV.str (strOf (cellAt y1 (IntKind.i64.wrap (x4-1)) 0)),
 AV.str [107,101,101,112],AV.str [123]]
 x6 x7) (fun y2=>
 .bi (pj 0 (qpV (x1,(x1.length:Int),0,y2))) (fun y3=>
 .bi (qcH [AV.str [125]] y3.2.2.2.1 y3.f) (fun y4=>
 .at ((y4)))
 (.no))
 (.no))
 (.no))
 (.no))
 (.no))
 (.no))
 (.no))
 (.bi (qhs) (fun y0=>
 .br (qaH [.str] y0 (IntKind.i64.wrap (x3-1)))
 (.bi (qht) (fun y1=>
 .br (qaH [.str] y1 (IntKind.i64.wrap (x4-1)))
 (.bi (qcH
 [AV.str x0,AV.str [119,104,111,108,101],AV.str (strOf (cellAt y0 (IntKind.i64.wrap (x3-1)) 0)),AV.str (strOf (cellAt y1 (IntKind.i64.wrap (x4-1)) 0)),
 AV.str [100,114,111,112],AV.str [123]]
 x6 x7) (fun y2=>
 .bi (pj 0 (qpV (x1,(x1.length:Int),0,y2))) (fun y3=>
 .bi (qcH [AV.str [125]] y3.2.2.2.1 y3.f) (fun y4=>
 .at ((y4)))
 (.no))
 (.no))
 (.no))
 (.no))
 (.no))
 (.no))
 (.no)))
def qw0(x0:List UInt8)(x1:List AV)(x2:Bool)(x3 x4:Int)(x5:Bool)(x6:Int)(x7:List AV):Option q7t:=qaz (qA2 x0 x1 x2 x3 x4 x5 x6 x7).ev
theorem qUn(x0 x1 x2 x3 x4 x5 x6 x7):qw0 x0 x1 x2 x3 x4 x5 x6 x7=(qA2 x0 x1 x2 x3 x4 x5 x6 x7).ev:=qaa _
theorem zjR:FH IP 18 q95 zaW (k8 qw0):=qah (F:=F18) (L:=[(1001800,qV1)]) (t:=(k8 qA2)) qTc (qac (l:=[qad F18 0]) (by kernel_rfl) ⟨qau (by kernel_rfl) zml,trivial⟩) (by kernel_rfl) (fun v=>by kernel_rfl) (fun _=>qaa _)
def T85:Tab:=(18,FE q95 zaW (k8 qw0))::T84
theorem q8W:qan IP T85:=⟨qam zjR,qTc⟩
abbrev q73:Type:=List AV
def zaN:PArgs:=⟨[.ref 0 0 0,.int .i64,.str],[(0,.box [.nils 3] false)]⟩
def zbF:List PRes:=[⟨false,.tup [],[(0,.box [.own 1 0] false),(1,.arr 3 false)]⟩]
def qB8(x0:Int)(x1:List UInt8):DT q73:=
 .at ([AV.agg [.int .i64 x0,.int .i64 1,AV.str x1]])
def qmW(x0:Int)(x1:List UInt8):Option q73:=qaz (qB8 x0 x1).ev
theorem qU8(x0 x1):qmW x0 x1=(qB8 x0 x1).ev:=qaa _
theorem zkD:FH IP 180 zaN zbF (k2 qmW):=fh znz (k2 qB8) q8W
def T86:Tab:=(180,FE zaN zbF (k2 qmW))::T85
theorem q8X:qan IP T86:=⟨qam zkD,q8W⟩
abbrev q7T:Type:=List AV
def zaC:PArgs:=⟨[.ref 0 0 0,.str],[(0,.box [.nils 3] false)]⟩
def zbu:List PRes:=[⟨false,.tup [],[(0,.box [.own 1 0] false),(1,.arr 3 false)]⟩]
def qBV(x0:List UInt8):DT q7T:=
 .bi (qbS x0) (fun y0=>
 .br (y0)
 (.bi (qmW 5 x0) (fun y1=>
 .at (y1))
 (.no))
 (.bi (qmW 4 x0) (fun y1=>
 .at (y1))
 (.no)))
 (.no)
def qjW(x0:List UInt8):Option q7T:=qaz (qBV x0).ev
theorem qUW(x0):qjW x0=(qBV x0).ev:=qaa _
theorem zkr:FH IP 181 zaC zbu qjW:=fh znA qBV q8X
def T87:Tab:=(181,FE zaC zbu qjW)::T86
theorem q8Y:qan IP T87:=⟨qam zkr,q8X⟩
abbrev q7S:Type:=List AV
def zaB:PArgs:=⟨[.ref 0 0 0,.int .i64,.str],[(0,.box [.own 1 0] false),(1,.arr 3 false)]⟩
def zbt:List PRes:=[⟨false,.tup [],[(0,.box [.own 2 0] false),(2,.arr 3 false)]⟩]
def qBU(x0:Int)(x1:List UInt8)(x2:List AV):DT q7S:=
 .br (room (x2.length+1) 32) (.at (x2++[AV.agg [.int .i64 x0,.int .i64 1,AV.str x1]])) (.no)
def qjV(x0:Int)(x1:List UInt8)(x2:List AV):Option q7S:=qaz (qBU x0 x1 x2).ev
theorem qUV(x0 x1 x2):qjV x0 x1 x2=(qBU x0 x1 x2).ev:=qaa _
theorem zkq:FH IP 180 zaB zbt (k3 qjV):=fh znz (k3 qBU) q8Y
def T88:Tab:=(180,FE zaB zbt (k3 qjV))::T87
theorem q8Z:qan IP T88:=⟨qam zkq,q8Y⟩
abbrev qQ9:Type:=Int
def qYv:PArgs:=⟨[.int .i64],[]⟩
def q0Q:List PRes:=[⟨false,.int .i64,[]⟩]
def qrU(x0:Int):DT qQ9:=
 .br (x0==19)
 (.at (0))
 (.br (x0==15)
 (.at (1))
 (.br (x0==14)
 (.at (2))
 (.br (x0==16)
 (.at (3))
 (.br (x0==10)
 (.br (x0==10)
 (.at (4))
 (.br (x0==5)
 (.br (x0==5)
 (.at (5))
 (.br (x0==7)
 (.br (x0==7)
 (.at (6))
 (.br (x0==9) (.at (7)) (.at (8))))
 (.br (x0==8)
 (.at (6))
 (.br (x0==9) (.at (7)) (.at (8))))))
 (.br (x0==6)
 (.at (5))
 (.br (x0==7)
 (.br (x0==7)
 (.at (6))
 (.br (x0==9) (.at (7)) (.at (8))))
 (.br (x0==8)
 (.at (6))
 (.br (x0==9) (.at (7)) (.at (8))))))))
 (.br (x0==11)
 (.br (x0==11)
 (.at (4))
 (.br (x0==5)
 (.br (x0==5)
 (.at (5))
 (.br (x0==7)
 (.br (x0==7)
 (.at (6))
 (.br (x0==9) (.at (7)) (.at (8))))
 (.br (x0==8)
 (.at (6))
 (.br (x0==9) (.at (7)) (.at (8))))))
 (.br (x0==6)
 (.at (5))
 (.br (x0==7)
 (.br (x0==7)
 (.at (6))
 (.br (x0==9) (.at (7)) (.at (8))))
 (.br (x0==8)
 (.at (6))
 (.br (x0==9) (.at (7)) (.at (8))))))))
 (.br (x0==12)
 (.br (x0==12)
 (.at (4))
 (.br (x0==5)
 (.br (x0==5)
 (.at (5))
 (.br (x0==7)
 (.br (x0==7)
 (.at (6))
 (.br (x0==9) (.at (7)) (.at (8))))
 (.br (x0==8)
 (.at (6))
 (.br (x0==9) (.at (7)) (.at (8))))))
 (.br (x0==6)
 (.at (5))
 (.br (x0==7)
 (.br (x0==7)
 (.at (6))
 (.br (x0==9) (.at (7)) (.at (8))))
 (.br (x0==8)
 (.at (6))
 (.br (x0==9) (.at (7)) (.at (8))))))))
 (.br (x0==13)
 (.at (4))
 (.br (x0==5)
 (.br (x0==5)
 (.at (5))
 (.br (x0==7)
 (.br (x0==7)
 (.at (6))
 (.br (x0==9) (.at (7)) (.at (8))))
 (.br (x0==8)
 (.at (6))
 (.br (x0==9) (.at (7)) (.at (8))))))
 (.br (x0==6)
 (.at (5))
 (.br (x0==7)
 (.br (x0==7)
 (.at (6))
 (.br (x0==9) (.at (7)) (.at (8))))
 (.br (x0==8)
 (.at (6))
 (.br (x0==9) (.at (7)) (.at (8))))))))))))))
def qa5(x0:Int):Option qQ9:=qaz (qrU x0).ev
theorem qOf(x0):qa5 x0=(qrU x0).ev:=qaa _
theorem zd2:FH IP 183 qYv q0Q qa5:=fh zoF qrU q8Z
def T89:Tab:=(183,FE qYv q0Q qa5)::T88
theorem q80:qan IP T89:=⟨qam zd2,q8Z⟩
abbrev q7Q:Type:=List AV
def zaz:PArgs:=⟨[.ref 0 0 0,.str],[(0,.box [.own 1 0] false),(1,.arr 3 false)]⟩
def zbr:List PRes:=[⟨false,.tup [],[(0,.box [.own 2 0] false),(2,.arr 3 false)]⟩]
def qBR(x0:List UInt8)(x1:List AV):DT q7Q:=
 .bi (qbS x0) (fun y0=>
 .br (y0)
 (.bi (qjV 5 x0 x1) (fun y1=>
 .at (y1))
 (.no))
 (.bi (qjV 4 x0 x1) (fun y1=>
 .at (y1))
 (.no)))
 (.no)
def qbi(x0:List UInt8)(x1:List AV):Option q7Q:=qaz (qBR x0 x1).ev
theorem qUS(x0 x1):qbi x0 x1=(qBR x0 x1).ev:=qaa _
theorem zkn:FH IP 181 zaz zbr (k2 qbi):=fh znA (k2 qBR) q80
def T90:Tab:=(181,FE zaz zbr (k2 qbi))::T89
theorem q81:qan IP T90:=⟨qam zkn,q80⟩
abbrev qQs:Type:=List AV
def qXO:PArgs:=⟨[],[]⟩
def qZ9:List PRes:=[⟨false,.view 1,[]⟩]
def qro:DT qQs:=
 .at ([AV.view 2 [AV.agg [AV.str [111,114],.int .i64 15]],AV.view 2 [AV.agg [AV.str [97,110,100],.int .i64 14]],
 AV.view 2
 [AV.agg [AV.str [61,61],.int .i64 10],AV.agg [AV.str [33,61],.int .i64 11],AV.agg [AV.str [60],.int .i64 12],
 AV.agg [AV.str [60,61],.int .i64 13]],
 AV.view 2 [AV.agg [AV.str [43],.int .i64 5],AV.agg [AV.str [45],.int .i64 6]],
 AV.view 2 [AV.agg [AV.str [42],.int .i64 7],AV.agg [AV.str [47],.int .i64 8]]])
def ql6:Option qQs:=qaz (qro).ev
theorem qNJ:ql6=(qro).ev:=qaa _
theorem zdd:FH IP 225 qXO qZ9 (fun _=>ql6):=qah (F:=zoR) (L:=[]) (t:=(fun _=>qro)) q81 (qac (l:=[]) (by kernel_rfl) trivial) (by kernel_rfl) (fun v=>by kernel_rfl) (fun _=>qaa _)
def T91:Tab:=(225,FE qXO qZ9 (fun _=>ql6))::T90
theorem qIP:qan IP T91:=⟨qam zdd,q81⟩
abbrev qfx:Type:=Int×List AV×Int×Int×List AV×Int×Int
def qJ8:List PSt:=[⟨[(1018501,.junk),(0,.int .i64),(7,.view 1),(8,.int .i64),(9,.int .i64),(13,.view 2),(14,.int .i64),(15,.int .i64)],[],0,0⟩]
def q3H(x0:Int)(x1:List AV)(x2 x3:Int)(x4:List AV)(x5 x6:Int):X×St:=(.ret,
 ⟨[(0,.int .i64 x0),(2,.str (strOf (cellAt x4 x6 0))),(7,.view 1 x1),(8,.int .i64 x2),(9,.int .i64 x3)],[],0,0⟩)
def q3I(x0:Int)(x1:List AV)(x2 x3:Int)(x4:List AV)(x5 x6:Int):X×St:=(.exit 2,⟨[(0,.int .i64 x0),(2,.junk),(7,.view 1 x1),(8,.int .i64 x2),(9,.int .i64 x3)],[],0,0⟩)
def zhV:List (qfx->X×St):=[(k7 q3H),(k7 q3I)]
def qpo(x0:Int)(x1:List AV)(x2 x3:Int)(x4:List AV)(x5 x6:Int):DT (Rd qfx):=
 .br (decide (x6<x5))
 (.br (qaH [.str,.int .i64] x4 x6)
 (.br (intOf (cellAt x4 x6 1)==x0) (.at (.done 0)) (.at (.next ((x0,x1,x2,x3,x4,x5,IntKind.i64.wrap (x6+1))))))
 (.no))
 (.at (.done 1))
def qnB:qfx->DT (Rd qfx):=(fun v=>qpo v.1 v.2.1 v.2.2.1 v.2.2.2.1 v.f.1 v.f.2.1 v.f.2.2)
def qgB(v:qfx):Option (Nat×qfx):=qaz (qaf (fun v=>(qnB v).ev) v)
theorem qxK(v):qgB v=qaf (fun v=>(qnB v).ev) v:=qaa _
def qzX:qbQ:=LE (τ:=qfx) (hD qJ8) (qgB) zhV
theorem q1Q:Go.Eng.Told IP (qad q4d 1).1 (qad q4d 1).2 (qzX):=lp (inferInstance:Inhabited qfx) (hs:=qJ8) qnB qIP qxK
end
end Go.Proofs.H16

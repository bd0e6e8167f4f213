/- Functions over plain data. Printed by a program of mine. -/
import Derived.Test.YtgpbobelbcbcaaaGreatDoorD10_5
import Derived.KernelRfl
set_option linter.unusedVariables false
set_option linter.unusedSimpArgs false
set_option linter.unnecessarySimpa false
namespace Go.Proofs.H10
open Go Go.Eng
set_option maxRecDepth 100000
noncomputable section
def qli (G_u153q:qar) (G_u67q:qaB) (G_u156q:qas) (G_u109q:qap) (G_u132q:qaq) (x0:List AV) (x1:Int):DT qvx:=
 .bi (qgT x0 x1) (fun y0=>
 .br (y0.2)
 (.at ((1,y0.1,[],[],IntKind.i64.wrap (x1 + 1),true)))
 (.bi (qa3 x0 x1 4 [36]) (fun y1=>
 .br (y1)
 (.bi (qgT x0 (IntKind.i64.wrap (x1 + 1))) (fun y2=>
 .br (!y2.2) (.at ((0,0,[],[],IntKind.i64.wrap (x1 + 1),false))) (.at ((2,y2.1,[],[],IntKind.i64.wrap (x1 + 2),true))))
 (.no))
 (.bi (qa3 x0 x1 5 [109,105,110]) (fun y2=>
 .br (y2)
 (.bi (G_u132q x0 x1 17) (fun y3=>
 .at ((y3.1,y3.2.1,y3.2.2.1,y3.2.2.2.1,y3.2.2.2.2.1,y3.2.2.2.2.2)))
 (.no))
 (.bi (qa3 x0 x1 5 [109,97,120]) (fun y3=>
 .br (y3)
 (.bi (G_u132q x0 x1 18) (fun y4=>
 .at ((y4.1,y4.2.1,y4.2.2.1,y4.2.2.2.1,y4.2.2.2.2.1,y4.2.2.2.2.2)))
 (.no))
 (.bi (qa3 x0 x1 4 [40]) (fun y4=>
 .br (y4)
 (.bi (G_u153q x0 (IntKind.i64.wrap (x1 + 1)) 0) (fun y5=>
 .bi (br (!y5.2.2.2.2.2) (some true) (br (sm (qa3 x0 y5.2.2.2.2.1 4 [41])) (some !gv (qa3 x0 y5.2.2.2.2.1 4 [41])) none)) (fun y6=>
 .br (y6)
 (.at ((0,0,[],[],y5.2.2.2.2.1,false)))
 (.at ((y5.1,y5.2.1,y5.2.2.1,y5.2.2.2.1,IntKind.i64.wrap (y5.2.2.2.2.1 + 1),true))))
 (.no))
 (.no))
 (.bi (br (decide (x1 < (x0.length:Int))) (br (qaQ [.int .i64,.int .i64,.str] x0 x1) (some (intOf (cellAt x0 x1 0) == 1)) none) (some false)) (fun y5=>
 .br (y5)
 (.br (qaQ [.int .i64,.int .i64,.str] x0 x1) (.at ((4,0,strOf (cellAt x0 x1 2),[],IntKind.i64.wrap (x1 + 1),true))) (.no))
 (.bi (br (decide (x1 < (x0.length:Int))) (br (qaQ [.int .i64,.int .i64,.str] x0 x1) (some (intOf (cellAt x0 x1 0) == 3)) none) (some false)) (fun y6=>
 .br (y6)
 (.br (qaQ [.int .i64,.int .i64,.str] x0 x1)
 (.bi (qmJ (strOf (cellAt x0 x1 2))) (fun y7=>
 .br (y7.2 == 0) (.at ((3,y7.1,[],[],IntKind.i64.wrap (x1 + 1),true))) (.at ((0,0,[],[],x1,false))))
 (.no))
 (.no))
 (.at ((0,0,[],[],x1,false))))
 (.no)))
 (.no)))
 (.no)))
 (.no)))
 (.no)))
 (.no)))
 (.no)
def qls (G_u153q:qar) (G_u67q:qaB) (G_u156q:qas) (G_u109q:qap) (G_u132q:qaq) (x0:List AV) (x1 x2:Int):DT qvA:=
 .bi (pj 0
 (qcL G_u153q G_u67q G_u156q G_u109q G_u132q
 (Sum.inl (x0,IntKind.i64.wrap (x1 + 1),0,0,0,[],[AV.str [40],AV.str [44],AV.str [41]],x2,0,[])))) (fun y0=>
 .at ((0,0,[],[],(sl y0).2.1,false)))
 (.bi (pj 1
 (qcL G_u153q G_u67q G_u156q G_u109q G_u132q
 (Sum.inl (x0,IntKind.i64.wrap (x1 + 1),0,0,0,[],[AV.str [40],AV.str [44],AV.str [41]],x2,0,[])))) (fun y0=>
 .at (((sl y0).2.2.2.2.2.2.2.1,(sl y0).2.2.2.2.2.2.2.2.1,(sl y0).2.2.2.2.2.2.2.2.2,[],IntKind.i64.wrap ((sl y0).2.1 + 1),true)))
 (.bi (pj 2
 (qcL G_u153q G_u67q G_u156q G_u109q G_u132q
 (Sum.inl (x0,IntKind.i64.wrap (x1 + 1),0,0,0,[],[AV.str [40],AV.str [44],AV.str [41]],x2,0,[])))) (fun y0=>
 .at ((0,0,[],[],(gv (G_u153q (sl y0).1 (IntKind.i64.wrap ((sl y0).2.1 + 1)) 0)).2.2.2.2.1,false)))
 (.bi (pj 3
 (qcL G_u153q G_u67q G_u156q G_u109q G_u132q
 (Sum.inl (x0,IntKind.i64.wrap (x1 + 1),0,0,0,[],[AV.str [40],AV.str [44],AV.str [41]],x2,0,[])))) (fun y0=>
 .at (((sl y0).2.2.2.2.2.2.2.1,(sl y0).2.2.2.2.2.2.2.2.1,(sl y0).2.2.2.2.2.2.2.2.2,[],(sl y0).2.1,true)))
 (.bi (pj 4
 (qcL G_u153q G_u67q G_u156q G_u109q G_u132q
 (Sum.inl (x0,IntKind.i64.wrap (x1 + 1),0,0,0,[],[AV.str [40],AV.str [44],AV.str [41]],x2,0,[])))) (fun y0=>
 .at ((0,0,[],[],(sr y0).2.1,false)))
 (.bi (pj 5
 (qcL G_u153q G_u67q G_u156q G_u109q G_u132q
 (Sum.inl (x0,IntKind.i64.wrap (x1 + 1),0,0,0,[],[AV.str [40],AV.str [44],AV.str [41]],x2,0,[])))) (fun y0=>
 .at (((sr y0).2.2.2.2.2.2.2.1,(sr y0).2.2.2.2.2.2.2.2.1,(sr y0).2.2.2.2.2.2.2.2.2.1,(sr y0).2.2.2.2.2.2.2.2.2.2,IntKind.i64.wrap ((sr y0).2.1 + 1),true)))
 (.bi (pj 6
 (qcL G_u153q G_u67q G_u156q G_u109q G_u132q
 (Sum.inl (x0,IntKind.i64.wrap (x1 + 1),0,0,0,[],[AV.str [40],AV.str [44],AV.str [41]],x2,0,[])))) (fun y0=>
 .at ((0,0,[],[],(gv (G_u153q (sr y0).1 (IntKind.i64.wrap ((sr y0).2.1 + 1)) 0)).2.2.2.2.1,false)))
 (.bi (pj 7
 (qcL G_u153q G_u67q G_u156q G_u109q G_u132q
 (Sum.inl (x0,IntKind.i64.wrap (x1 + 1),0,0,0,[],[AV.str [40],AV.str [44],AV.str [41]],x2,0,[])))) (fun y0=>
 .at (((sr y0).2.2.2.2.2.2.2.1,(sr y0).2.2.2.2.2.2.2.2.1,(sr y0).2.2.2.2.2.2.2.2.2.1,(sr y0).2.2.2.2.2.2.2.2.2.2,(sr y0).2.1,true)))
 (.no))))))))
def qaa:Nat -> qar × qaB × qas × qap × qaq
 | 0=>(fun _ _ _=>none,fun _ _=>none,fun _ _ _ _=>none,fun _ _=>none,fun _ _ _=>none)
 | n + 1=>(fun x0 x1 x2=>(qbD ((qaa n).1) ((qaa n).2.1) ((qaa n).2.2.1) ((qaa n).2.2.2.1) ((qaa n).2.2.2.2) x0 x1 x2).ev,fun x0 x1=>(qsF ((qaa n).1) ((qaa n).2.1) ((qaa n).2.2.1) ((qaa n).2.2.2.1) ((qaa n).2.2.2.2) x0 x1).ev,fun x0 x1 x2 x3=>(qhT ((qaa n).1) ((qaa n).2.1) ((qaa n).2.2.1) ((qaa n).2.2.2.1) ((qaa n).2.2.2.2) x0 x1 x2 x3).ev,fun x0 x1=>(qli ((qaa n).1) ((qaa n).2.1) ((qaa n).2.2.1) ((qaa n).2.2.2.1) ((qaa n).2.2.2.2) x0 x1).ev,fun x0 x1 x2=>(qls ((qaa n).1) ((qaa n).2.1) ((qaa n).2.2.1) ((qaa n).2.2.2.1) ((qaa n).2.2.2.2) x0 x1 x2).ev)
def qq5 (x0:List AV) (x1 x2:Int):Option qee:=qfI fun n=>(qaa n).1 x0 x1 x2
def qOC (x0:List AV) (x1:Int):Option qCG:=qfI fun n=>(qaa n).2.1 x0 x1
def qD9 (x0:List AV) (x1 x2 x3:Int):Option qvJ:=qfI fun n=>(qaa n).2.2.1 x0 x1 x2 x3
def qD3 (x0:List AV) (x1:Int):Option qvx:=qfI fun n=>(qaa n).2.2.2.1 x0 x1
def qD6 (x0:List AV) (x1 x2:Int):Option qvA:=qfI fun n=>(qaa n).2.2.2.2 x0 x1 x2
theorem qea:∀ n,qiJ ((qaa n).1) ((qaa n).2.1) ((qaa n).2.2.1) ((qaa n).2.2.2.1) ((qaa n).2.2.2.2)
 | 0=>⟨(fun v y h=>nomatch h),(fun v y h=>nomatch h),(fun v y h=>nomatch h),(fun v y h=>nomatch h),(fun v y h=>nomatch h)⟩
 | n + 1=>have hG:=qea n
 ⟨qak (F:=F30) (L:=[(1003000,qyU ((qaa n).1) ((qaa n).2.1) ((qaa n).2.2.1) ((qaa n).2.2.2.1) ((qaa n).2.2.2.2))]) (t:=(k3 (qbD ((qaa n).1) ((qaa n).2.1) ((qaa n).2.2.1) ((qaa n).2.2.2.1) ((qaa n).2.2.2.2)))) (qca ((qaa n).1) ((qaa n).2.1) ((qaa n).2.2.1) ((qaa n).2.2.2.1) ((qaa n).2.2.2.2) hG) (qae (l:=[qah F30 0]) (by kernel_rfl) ⟨qaH (by kernel_rfl) (qSQ ((qaa n).1) ((qaa n).2.1) ((qaa n).2.2.1) ((qaa n).2.2.2.1) ((qaa n).2.2.2.2) hG),trivial⟩) (by kernel_rfl) (fun v=>by kernel_rfl) (fun v=>rfl),qak (F:=F50) (L:=[(1005000,qFN ((qaa n).1) ((qaa n).2.1) ((qaa n).2.2.1) ((qaa n).2.2.2.1) ((qaa n).2.2.2.2))]) (t:=(k2 (qsF ((qaa n).1) ((qaa n).2.1) ((qaa n).2.2.1) ((qaa n).2.2.2.1) ((qaa n).2.2.2.2)))) (qca ((qaa n).1) ((qaa n).2.1) ((qaa n).2.2.1) ((qaa n).2.2.2.1) ((qaa n).2.2.2.2) hG) (qae (l:=[qah F50 0]) (by kernel_rfl) ⟨qaH (by kernel_rfl) (qWE ((qaa n).1) ((qaa n).2.1) ((qaa n).2.2.1) ((qaa n).2.2.2.1) ((qaa n).2.2.2.2) hG),trivial⟩) (by kernel_rfl) (fun v=>by kernel_rfl) (fun v=>rfl),qak (F:=F51) (L:=[]) (t:=(k4 (qhT ((qaa n).1) ((qaa n).2.1) ((qaa n).2.2.1) ((qaa n).2.2.2.1) ((qaa n).2.2.2.2)))) (qca ((qaa n).1) ((qaa n).2.1) ((qaa n).2.2.1) ((qaa n).2.2.2.1) ((qaa n).2.2.2.2) hG) (qae (l:=[]) (by kernel_rfl) trivial) (by kernel_rfl) (fun v=>by kernel_rfl) (fun v=>rfl),qak (F:=F52) (L:=[]) (t:=(k2 (qli ((qaa n).1) ((qaa n).2.1) ((qaa n).2.2.1) ((qaa n).2.2.2.1) ((qaa n).2.2.2.2)))) (qca ((qaa n).1) ((qaa n).2.1) ((qaa n).2.2.1) ((qaa n).2.2.2.1) ((qaa n).2.2.2.2) hG) (qae (l:=[]) (by kernel_rfl) trivial) (by kernel_rfl) (fun v=>by kernel_rfl) (fun v=>rfl),qak (F:=F82) (L:=[(1008200,qF2 ((qaa n).1) ((qaa n).2.1) ((qaa n).2.2.1) ((qaa n).2.2.2.1) ((qaa n).2.2.2.2))]) (t:=(k3 (qls ((qaa n).1) ((qaa n).2.1) ((qaa n).2.2.1) ((qaa n).2.2.2.1) ((qaa n).2.2.2.2)))) (qca ((qaa n).1) ((qaa n).2.1) ((qaa n).2.2.1) ((qaa n).2.2.2.1) ((qaa n).2.2.2.2) hG) (qae (l:=[qah F82 0]) (by kernel_rfl) ⟨qaH (by kernel_rfl) (qWT ((qaa n).1) ((qaa n).2.1) ((qaa n).2.2.1) ((qaa n).2.2.2.1) ((qaa n).2.2.2.2) hG),trivial⟩) (by kernel_rfl) (fun v=>by kernel_rfl) (fun v=>rfl)⟩
theorem qRz:FH IP 30 qnL qn7 (k3 qq5):=qbk (p:=qnL) (rs:=qn7) (s:=fun n=>(k3 ((qaa n).1))) fun n=>(qea n).1
theorem qU0:FH IP 50 quJ quY (k2 qOC):=qbk (p:=quJ) (rs:=quY) (s:=fun n=>(k2 ((qaa n).2.1))) fun n=>(qea n).2.1
theorem qRC:FH IP 51 qnN qn9 (k4 qD9):=qbk (p:=qnN) (rs:=qn9) (s:=fun n=>(k4 ((qaa n).2.2.1))) fun n=>(qea n).2.2.1
theorem qQ0:FH IP 52 qnz qnV (k2 qD3):=qbk (p:=qnz) (rs:=qnV) (s:=fun n=>(k2 ((qaa n).2.2.2.1))) fun n=>(qea n).2.2.2.1
theorem qRe:FH IP 82 qnC qnY (k3 qD6):=qbk (p:=qnC) (rs:=qnY) (s:=fun n=>(k3 ((qaa n).2.2.2.2))) fun n=>(qea n).2.2.2.2
def T79:Tab:=(30,FE qnL qn7 (k3 qq5)) :: T78
theorem qT8:qao IP T79:=⟨qan qRz,qNX⟩
def T80:Tab:=(50,FE quJ quY (k2 qOC)) :: T79
theorem qUa:qao IP T80:=⟨qan qU0,qT8⟩
def T81:Tab:=(51,FE qnN qn9 (k4 qD9)) :: T80
theorem qUb:qao IP T81:=⟨qan qRC,qUa⟩
def T82:Tab:=(52,FE qnz qnV (k2 qD3)) :: T81
theorem qUc:qao IP T82:=⟨qan qQ0,qUb⟩
def T83:Tab:=(82,FE qnC qnY (k3 qD6)) :: T82
theorem qNY:qao IP T83:=⟨qan qRe,qUc⟩
abbrev qvH:Type:=Int
def qnK:PArgs:=⟨[.agg [.int .i64,.int .i64,.str,.view 4],.int .i64],[]⟩
def qn6:List PRes:=[⟨false,.int .i64,[]⟩]
abbrev qcV:Type:=Int -> Int -> (List UInt8) -> (List AV) -> Int -> Option qvH
def qqD (G_u152q:qcV):Prop:=FH IP 31 qnK qn6 (k5 G_u152q)
def qJ1 (G_u152q:qcV):Tab:=(31,FE qnK qn6 (k5 G_u152q)) :: T83
theorem ql7 (G_u152q:qcV) (hG:qqD G_u152q):qao IP (qJ1 G_u152q):=⟨qan (hG),qNY⟩
abbrev qdV:Type:=Int × Int × Int × Int × Int × List UInt8 × List AV
def qyj:List PSt:=[⟨[(1003100,.junk),(1,.int .i64),(2,.ref 0 0 0),(5,.int .i64),(6,.int .i64)],[(0,.box [.int .i64,.int .i64,.str,.view 4] false)],1,0⟩]
def qJn (x0 x1:Int) (x2 x3 x4:Int) (x5:List UInt8) (x6:List AV):X × St:=(.exit 0,⟨[(5,.int .i64 x1)],[],0,0⟩)
def qS9:List (qdV -> X × St):=[(k7 qJn)]
def qhO (G_u152q:qcV) (x0 x1:Int) (x2 x3 x4:Int) (x5:List UInt8) (x6:List AV):DT (Rd qdV):=
 .bi (br (decide (x2 < (x6.length:Int))) (some (decide (x1 <= x0))) (some false)) (fun y0=>
 .br (y0)
 (.br (qaQ [.int .i64,.int .i64,.str,.slice 4] x6 x2)
 (.bi (G_u152q (intOf (cellAt x6 x2 0)) (intOf (cellAt x6 x2 1)) (strOf (cellAt x6 x2 2)) (qai (cellAt x6 x2 3)) (IntKind.i64.wrap (x0 - x1))) (fun y1=>
 .at (.next ((x0,IntKind.i64.wrap (x1 + y1),IntKind.i64.wrap (x2 + 1),x3,x4,x5,x6))))
 (.no))
 (.no))
 (.at (.done 0)))
 (.no)
def qgs (G_u152q:qcV):qdV -> DT (Rd qdV):=(fun v=>qhO G_u152q v.1 v.2.1 v.2.2.1 v.2.2.2.1 v.2.2.2.2.1 v.2.2.2.2.2.1 v.2.2.2.2.2.2)
def qnd (G_u152q:qcV) (v:qdV):Option (Nat × qdV):=qa2 (qaw (fun v=>(qgs G_u152q v).ev) v)
theorem qhC (G_u152q v):qnd G_u152q v = qaw (fun v=>(qgs G_u152q v).ev) v:=qab _
def qyT (G_u152q:qcV):qdA:=LE (τ:=qdV) (hD qyj) (qnd G_u152q) qS9
theorem qSP (G_u152q:qcV) (hG:qqD G_u152q):Go.Eng.Told IP (qah F31 0).1 (qah F31 0).2 (qyT G_u152q):=qaF (inferInstance:Inhabited qdV) (hs:=qyj) (st:=qgs G_u152q) (L:=[]) (ql7 G_u152q hG) (qae (l:=[]) (by kernel_rfl) trivial) (qhC G_u152q) (fun v=>by kernel_rfl) (fun v=>by kernel_rfl)
def qr9 (G_u152q:qcV) (x0 x1:Int) (x2:List UInt8) (x3:List AV) (x4:Int):DT qvH:=
 .bi (pj 0 (qnd G_u152q (x4,1,0,x0,x1,x2,x3))) (fun y0=>
 .at (y0.2.1))
 (.no)
def qdi:Nat -> qcV
 | 0=>fun _ _ _ _ _=>none
 | n + 1=>fun x0 x1 x2 x3 x4=>(qr9 ((qdi n)) x0 x1 x2 x3 x4).ev
def qq4 (x0 x1:Int) (x2:List UInt8) (x3:List AV) (x4:Int):Option qvH:=qfI fun n=>(qdi n) x0 x1 x2 x3 x4
theorem qpf:∀ n,qqD ((qdi n))
 | 0=>(fun v y h=>nomatch h)
 | n + 1=>have hG:=qpf n
 qak (F:=F31) (L:=[(1003100,qyT ((qdi n)))]) (t:=(k5 (qr9 ((qdi n))))) (ql7 ((qdi n)) hG) (qae (l:=[qah F31 0]) (by kernel_rfl) ⟨qaH (by kernel_rfl) (qSP ((qdi n)) hG),trivial⟩) (by kernel_rfl) (fun v=>by kernel_rfl) (fun v=>rfl)
theorem qRy:FH IP 31 qnK qn6 (k5 qq4):=qbk (p:=qnK) (rs:=qn6) (s:=fun n=>(k5 ((qdi n)))) fun n=>(qpf n)
def T84:Tab:=(31,FE qnK qn6 (k5 qq4)) :: T83
theorem qNZ:qao IP T84:=⟨qan qRy,qNY⟩
abbrev qCg:Type:=Bool
def qG8:PArgs:=⟨[.agg [.int .i64,.int .i64,.str,.view 4],.int .i64],[]⟩
def qH3:List PRes:=[⟨false,.bool,[]⟩]
def qlD (x0 x1:Int) (x2:List UInt8) (x3:List AV) (x4:Int):DT qCg:=
 .bi (qq4 x0 x1 x2 x3 x4) (fun y0=>
 .at (decide (y0 > x4)))
 (.no)
def qdN (x0 x1:Int) (x2:List UInt8) (x3:List AV) (x4:Int):Option qCg:=qa2 (qlD x0 x1 x2 x3 x4).ev
theorem qAo (x0 x1 x2 x3 x4):qdN x0 x1 x2 x3 x4 = (qlD x0 x1 x2 x3 x4).ev:=qab _
theorem qRu:FH IP 13 qG8 qH3 (k5 qdN):=fh F13 (k5 qlD) qNZ
def T85:Tab:=(13,FE qG8 qH3 (k5 qdN)) :: T84
theorem qN0:qao IP T85:=⟨qan qRu,qNZ⟩
abbrev qvF:Type:=Int
def qnH:PArgs:=⟨[.agg [.int .i64,.int .i64,.str,.view 4]],[]⟩
def qn3:List PRes:=[⟨false,.int .i64,[]⟩]
abbrev qcT:Type:=Int -> Int -> (List UInt8) -> (List AV) -> Option qvF
def qqA (G_u147q:qcT):Prop:=FH IP 38 qnH qn3 (k4 G_u147q)
def qJY (G_u147q:qcT):Tab:=(38,FE qnH qn3 (k4 G_u147q)) :: T85
theorem ql4 (G_u147q:qcT) (hG:qqA G_u147q):qao IP (qJY G_u147q):=⟨qan (hG),qN0⟩
abbrev qdT:Type:=Int × Int × Int × Int × List UInt8 × List AV
def qyf:List PSt:=[⟨[(1003800,.junk),(1,.ref 0 0 0),(3,.int .i64),(4,.int .i64)],[(0,.box [.int .i64,.int .i64,.str,.view 4] false)],1,0⟩]
def qJf (x0 x1:Int) (x2 x3:Int) (x4:List UInt8) (x5:List AV):X × St:=(.exit 0,⟨[(3,.int .i64 x0)],[],0,0⟩)
def qS5:List (qdT -> X × St):=[(k6 qJf)]
def qkm (G_u147q:qcT) (x0 x1:Int) (x2 x3:Int) (x4:List UInt8) (x5:List AV):DT (Rd qdT):=
 .br (decide (x1 < (x5.length:Int)))
 (.br (qaQ [.int .i64,.int .i64,.str,.slice 4] x5 x1)
 (.bi (G_u147q (intOf (cellAt x5 x1 0)) (intOf (cellAt x5 x1 1)) (strOf (cellAt x5 x1 2)) (qai (cellAt x5 x1 3))) (fun y0=>
 .at (.next ((if y0 > x0 then y0 else x0,IntKind.i64.wrap (x1 + 1),x2,x3,x4,x5))))
 (.no))
 (.no))
 (.at (.done 0))
def qjl (G_u147q:qcT):qdT -> DT (Rd qdT):=(fun v=>qkm G_u147q v.1 v.2.1 v.2.2.1 v.2.2.2.1 v.2.2.2.2.1 v.2.2.2.2.2)
def qrd (G_u147q:qcT) (v:qdT):Option (Nat × qdT):=qa2 (qaw (fun v=>(qjl G_u147q v).ev) v)
theorem qpP (G_u147q v):qrd G_u147q v = qaw (fun v=>(qjl G_u147q v).ev) v:=qab _
def qyP (G_u147q:qcT):qdA:=LE (τ:=qdT) (hD qyf) (qrd G_u147q) qS5
theorem qSL (G_u147q:qcT) (hG:qqA G_u147q):Go.Eng.Told IP (qah F38 0).1 (qah F38 0).2 (qyP G_u147q):=qaF (inferInstance:Inhabited qdT) (hs:=qyf) (st:=qjl G_u147q) (L:=[]) (ql4 G_u147q hG) (qae (l:=[]) (by kernel_rfl) trivial) (qpP G_u147q) (fun v=>by kernel_rfl) (fun v=>by kernel_rfl)
def qr5 (G_u147q:qcT) (x0 x1:Int) (x2:List UInt8) (x3:List AV):DT qvF:=
 .bi (pj 0 (qrd G_u147q (0,0,x0,x1,x2,x3))) (fun y0=>
 .at (IntKind.i64.wrap (y0.1 + 1)))
 (.no)
def qe3:Nat -> qcT
 | 0=>fun _ _ _ _=>none
 | n + 1=>fun x0 x1 x2 x3=>(qr5 ((qe3 n)) x0 x1 x2 x3).ev
def qmD (x0 x1:Int) (x2:List UInt8) (x3:List AV):Option qvF:=qfI fun n=>(qe3 n) x0 x1 x2 x3
theorem qpc:∀ n,qqA ((qe3 n))
 | 0=>(fun v y h=>nomatch h)
 | n + 1=>have hG:=qpc n
 qak (F:=F38) (L:=[(1003800,qyP ((qe3 n)))]) (t:=(k4 (qr5 ((qe3 n))))) (ql4 ((qe3 n)) hG) (qae (l:=[qah F38 0]) (by kernel_rfl) ⟨qaH (by kernel_rfl) (qSL ((qe3 n)) hG),trivial⟩) (by kernel_rfl) (fun v=>by kernel_rfl) (fun v=>rfl)
theorem qRt:FH IP 38 qnH qn3 (k4 qmD):=qbk (p:=qnH) (rs:=qn3) (s:=fun n=>(k4 ((qe3 n)))) fun n=>(qpc n)
def T86:Tab:=(38,FE qnH qn3 (k4 qmD)) :: T85
theorem qN1:qao IP T86:=⟨qan qRt,qN0⟩
abbrev qM5:Type:=Int
def qPx:PArgs:=⟨[.int .i64],[]⟩
def qQi:List PRes:=[⟨false,.int .i64,[]⟩]
def qsO (x0:Int):DT qM5:=
 .bi (br (decide (x0 < 1)) (some true) (some (decide (x0 > 19)))) (fun y0=>
 .br (y0)
 (.at (-1))
 (.br (decide (x0 <= 4))
 (.at (0))
 (.bi (br (x0 == 9) (some true) (some (x0 == 16))) (fun y1=>
 .br (y1)
 (.at (1))
 (.br (x0 == 19) (.at (3)) (.at (2))))
 (.no))))
 (.no)
def qty (x0:Int):Option qM5:=qa2 (qsO x0).ev
theorem qEH (x0):qty x0 = (qsO x0).ev:=qab _
theorem qU9:FH IP 70 qPx qQi qty:=fh F70 qsO qN1
def T87:Tab:=(70,FE qPx qQi qty) :: T86
theorem qN2:qao IP T87:=⟨qan qU9,qN1⟩
abbrev qCt:Type:=Int
def qHl:PArgs:=⟨[.int .i64],[]⟩
def qIg:List PRes:=[⟨false,.int .i64,[]⟩]
def qlQ (x0:Int):DT qCt:=
 .br (x0 == 1)
 (.at (9223372036854775807))
 (.br (x0 == 2)
 (.at (1000000000000))
 (.br (x0 == 3) (.at (1000000)) (.at (0))))
def qmN (x0:Int):Option qCt:=qa2 (qlQ x0).ev
theorem qAz (x0):qmN x0 = (qlQ x0).ev:=qab _
theorem qRP:FH IP 71 qHl qIg qmN:=fh F71 qlQ qN2
def T88:Tab:=(71,FE qHl qIg qmN) :: T87
theorem qN3:qao IP T88:=⟨qan qRP,qN2⟩
abbrev qvI:Type:=Bool
def qnM:PArgs:=⟨[.agg [.int .i64,.int .i64,.str,.view 4]],[]⟩
def qn8:List PRes:=[⟨false,.bool,[]⟩]
abbrev qcW:Type:=Int -> Int -> (List UInt8) -> (List AV) -> Option qvI
def qqE (G_u154q:qcW):Prop:=FH IP 39 qnM qn8 (k4 G_u154q)
def qJ3 (G_u154q:qcW):Tab:=(39,FE qnM qn8 (k4 G_u154q)) :: T88
theorem ql8 (G_u154q:qcW) (hG:qqE G_u154q):qao IP (qJ3 G_u154q):=⟨qan (hG),qN3⟩
abbrev qdW:Type:=Int × Int × Int × List UInt8 × List AV
def qyl:List PSt:=[⟨[(1003900,.junk),(1,.ref 0 0 0),(3,.int .i64)],[(0,.box [.int .i64,.int .i64,.str,.view 4] false)],1,0⟩]
def qJu (x0 x1 x2:Int) (x3:List UInt8) (x4:List AV):X × St:=(.ret,⟨[(2,.bool false)],[],0,0⟩)
def qJv (x0 x1 x2:Int) (x3:List UInt8) (x4:List AV):X × St:=(.exit 0,⟨[(2,.junk)],[],0,0⟩)
def qTb:List (qdW -> X × St):=[(k5 qJu),(k5 qJv)]
def qkr (G_u154q:qcW) (x0 x1 x2:Int) (x3:List UInt8) (x4:List AV):DT (Rd qdW):=
 .br (decide (x0 < (x4.length:Int)))
 (.br (qaQ [.int .i64,.int .i64,.str,.slice 4] x4 x0)
 (.bi (G_u154q (intOf (cellAt x4 x0 0)) (intOf (cellAt x4 x0 1)) (strOf (cellAt x4 x0 2)) (qai (cellAt x4 x0 3))) (fun y0=>
 .br (!y0) (.at (.done 0)) (.at (.next ((IntKind.i64.wrap (x0 + 1),x1,x2,x3,x4)))))
 (.no))
 (.no))
 (.at (.done 1))
def qjn (G_u154q:qcW):qdW -> DT (Rd qdW):=(fun v=>qkr G_u154q v.1 v.2.1 v.2.2.1 v.2.2.2.1 v.2.2.2.2)
def qir (G_u154q:qcW) (v:qdW):Option (Nat × qdW):=qa2 (qaw (fun v=>(qjn G_u154q v).ev) v)
theorem qpR (G_u154q v):qir G_u154q v = qaw (fun v=>(qjn G_u154q v).ev) v:=qab _
def qyV (G_u154q:qcW):qdA:=LE (τ:=qdW) (hD qyl) (qir G_u154q) qTb
theorem qSR (G_u154q:qcW) (hG:qqE G_u154q):Go.Eng.Told IP (qah F39 0).1 (qah F39 0).2 (qyV G_u154q):=qaF (inferInstance:Inhabited qdW) (hs:=qyl) (st:=qjn G_u154q) (L:=[]) (ql8 G_u154q hG) (qae (l:=[]) (by kernel_rfl) trivial) (qpR G_u154q) (fun v=>by kernel_rfl) (fun v=>by kernel_rfl)
def qsa (G_u154q:qcW) (x0 x1:Int) (x2:List UInt8) (x3:List AV):DT qvI:=
 .bi (qty x0) (fun y0=>
 .br ((x3.length:Int) != y0)
 (.at (false))
 (.br (decide (x1 < 0))
 (.at (false))
 (.bi (qmN x0) (fun y1=>
 .br (decide (x1 > y1))
 (.at (false))
 (.br (x0 != 4)
 (.br (!x2 == [])
 (.at (false))
 (.bi (pj 0 (qir G_u154q (0,x0,x1,x2,x3))) (fun y2=>
 .at (false))
 (.bi (pj 1 (qir G_u154q (0,x0,x1,x2,x3))) (fun y2=>
 .at (true))
 (.no))))
 (.bi (pj 0 (qir G_u154q (0,x0,x1,x2,x3))) (fun y2=>
 .at (false))
 (.bi (pj 1 (qir G_u154q (0,x0,x1,x2,x3))) (fun y2=>
 .at (true))
 (.no)))))
 (.no))))
 (.no)
def qeg:Nat -> qcW
 | 0=>fun _ _ _ _=>none
 | n + 1=>fun x0 x1 x2 x3=>(qsa ((qeg n)) x0 x1 x2 x3).ev
def qq6 (x0 x1:Int) (x2:List UInt8) (x3:List AV):Option qvI:=qfI fun n=>(qeg n) x0 x1 x2 x3
theorem qpg:∀ n,qqE ((qeg n))
 | 0=>(fun v y h=>nomatch h)
 | n + 1=>have hG:=qpg n
 qak (F:=F39) (L:=[(1003900,qyV ((qeg n)))]) (t:=(k4 (qsa ((qeg n))))) (ql8 ((qeg n)) hG) (qae (l:=[qah F39 0]) (by kernel_rfl) ⟨qaH (by kernel_rfl) (qSR ((qeg n)) hG),trivial⟩) (by kernel_rfl) (fun v=>by kernel_rfl) (fun v=>rfl)
theorem qRA:FH IP 39 qnM qn8 (k4 qq6):=qbk (p:=qnM) (rs:=qn8) (s:=fun n=>(k4 ((qeg n)))) fun n=>(qpg n)
def T89:Tab:=(39,FE qnM qn8 (k4 qq6)) :: T88
theorem qDk:qao IP T89:=⟨qan qRA,qN3⟩
abbrev qf1:Type:=List AV × List UInt8 × Int
def qFq:List PSt:=[⟨[(1004400,.junk),(0,.view 1),(1,.str),(5,.int .i64)],[],0,0⟩]
def qMm (x0:List AV) (x1:List UInt8) (x2:Int):X × St:=(.exit 0,⟨[(0,.view 1 x0),(1,.str x1),(5,.int .i64 x2)],[],0,0⟩)
def qXA:List (qf1 -> X × St):=[(k3 qMm)]
def qjw (x0:List AV) (x1:List UInt8) (x2:Int):DT (Rd qf1):=
 .bi (br (decide (x2 < (x0.length:Int))) (br (qaQ [.str] x0 x2) (some (qav (strOf (cellAt x0 x2 0)) x1)) none) (some false)) (fun y0=>
 .br (y0) (.at (.next ((x0,x1,IntKind.i64.wrap (x2 + 1))))) (.at (.done 0)))
 (.no)
def qkB:qf1 -> DT (Rd qf1):=(fun v=>qjw v.1 v.2.1 v.2.2)
def qyH (v:qf1):Option (Nat × qf1):=qa2 (qaw (fun v=>(qkB v).ev) v)
theorem qt6 (v):qyH v = qaw (fun v=>(qkB v).ev) v:=qab _
def qF3:qdA:=LE (τ:=qf1) (hD qFq) (qyH) qXA
theorem qWU:Go.Eng.Told IP (qah F44 0).1 (qah F44 0).2 (qF3):=lp (inferInstance:Inhabited qf1) (hs:=qFq) qkB qDk qt6
abbrev qB6:Type:=List AV
def qGY:PArgs:=⟨[.view 1,.str],[]⟩
def qHT:List PRes:=[⟨false,.view 1,[]⟩]
def qlt (x0:List AV) (x1:List UInt8):DT qB6:=
 .bi (pj 0 (qyH (x0,x1,0))) (fun y0=>
 .bi (br (decide (y0.2.2 < (y0.1.length:Int))) (br (qaQ [.str] y0.1 y0.2.2) (some (strOf (cellAt y0.1 y0.2.2 0) == y0.2.1)) none) (some false)) (fun y1=>
 .br (y1)
 (.at (y0.1))
 (.br (leB y0.2.2 y0.1.length && true)
 (.br (decide ((List.take y0.2.2.toNat y0.1).length = 0) && decide (1 = 1))
 (.br (leB y0.2.2 y0.1.length)
 (.br (decide ((List.drop y0.2.2.toNat y0.1).length = 0) && decide (1 = 1))
 (.at ([AV.str y0.2.1]))
 (.br (decide ((List.drop y0.2.2.toNat y0.1).length ≠ 0) && room (1 + (List.drop y0.2.2.toNat y0.1).length) 16)
 (.at (AV.str y0.2.1 :: List.drop y0.2.2.toNat y0.1))
 (.no)))
 (.no))
 (.br (decide ((List.take y0.2.2.toNat y0.1).length ≠ 0) && room (List.take y0.2.2.toNat y0.1).length 16)
 (.br (room ((List.take y0.2.2.toNat y0.1).length + 1) 16)
 (.br (leB y0.2.2 y0.1.length)
 (.br (decide ((List.drop y0.2.2.toNat y0.1).length = 0) && decide (1 = 1))
 (.at (List.take y0.2.2.toNat y0.1 ++ [AV.str y0.2.1]))
 (.br (decide ((List.drop y0.2.2.toNat y0.1).length ≠ 0) && room ((List.take y0.2.2.toNat y0.1 ++ [AV.str y0.2.1]).length + (List.drop y0.2.2.toNat y0.1).length) 16)
 (.at (List.take y0.2.2.toNat y0.1 ++ [AV.str y0.2.1] ++ List.drop y0.2.2.toNat y0.1))
 (.no)))
 (.no))
 (.no))
 (.no)))
 (.no)))
 (.no))
 (.no)
def qgU (x0:List AV) (x1:List UInt8):Option qB6:=qa2 (qlt x0 x1).ev
theorem qAe (x0 x1):qgU x0 x1 = (qlt x0 x1).ev:=qab _
theorem qRf:FH IP 44 qGY qHT (k2 qgU):=qak (F:=F44) (L:=[(1004400,qF3)]) (t:=(k2 qlt)) qDk (qae (l:=[qah F44 0]) (by kernel_rfl) ⟨qaH (by kernel_rfl) qWU,trivial⟩) (by kernel_rfl) (fun v=>by kernel_rfl) (fun _=>qab _)
def T90:Tab:=(44,FE qGY qHT (k2 qgU)) :: T89
theorem qDl:qao IP T90:=⟨qan qRf,qDk⟩
abbrev qcy:Type:=(Int × List AV × Int × Int × Int × List UInt8 × List AV × List AV) ⊕ (Int × List AV × Int × Int × Int × List UInt8 × List AV) ⊕ (List AV × Int × List AV × Int × Int × Int × List UInt8 × List AV)
def qyh:List PSt:=[⟨[(1002301,.junk),(1,.ref 0 0 0),(3,.own 1 0),(4,.int .i64),(5,.view 1),(6,.int .i64)],[(0,.box [.int .i64,.int .i64,.str,.view 4] false),(1,.arr 1 false)],2,0⟩,⟨[(1002301,.junk),(1,.ref 0 0 0),(3,.nils 1),(4,.int .i64),(5,.view 1),(6,.int .i64)],[(0,.box [.int .i64,.int .i64,.str,.view 4] false)],1,0⟩,⟨[(1002301,.junk),(1,.ref 0 0 0),(3,.view 1),(4,.int .i64),(5,.view 1),(6,.int .i64)],[(0,.box [.int .i64,.int .i64,.str,.view 4] false)],1,0⟩]
def qJj (x0:Int) (x1:List AV) (x2 x3 x4:Int) (x5:List UInt8) (x6 x7:List AV):X × St:=(.exit 2,
 ⟨[(1,.ref 0 0 0),(3,.own 1 0 none),(4,.int .i64 x0)],[(0,.box [.int .i64 x3,.int .i64 x4,.str x5,.view 4 x6] false),(1,.arr 1 x7 false)],2,0⟩)
def qJk (x0:Int) (x1:List AV) (x2 x3 x4:Int) (x5:List UInt8) (x6:List AV):X × St:=(.exit 2,
 ⟨[(1,.ref 0 0 0),(3,.nils ⟨1,.nil⟩),(4,.int .i64 x0)],[(0,.box [.int .i64 x3,.int .i64 x4,.str x5,.view 4 x6] false)],1,0⟩)
def qJl (x0:List AV) (x1:Int) (x2:List AV) (x3 x4 x5:Int) (x6:List UInt8) (x7:List AV):X × St:=(.exit 2,
 ⟨[(1,.ref 0 0 0),(3,.view 1 x0),(4,.int .i64 x1)],[(0,.box [.int .i64 x4,.int .i64 x5,.str x6,.view 4 x7] false)],1,0⟩)
def qS7:List (qcy -> X × St):=[fun w=>(k8 qJj) ((sl w)),fun w=>(k7 qJk) ((sl (sr w))),fun w=>(k8 qJl) ((sr (sr w)))]
def qkn (x0:Int) (x1:List AV) (x2 x3 x4:Int) (x5:List UInt8) (x6 x7:List AV):DT (Rd qcy):=
 .br (decide (x2 < (x1.length:Int)))
 (.br (qaQ [.str] x1 x2)
 (.bi (qgU x7 (strOf (cellAt x1 x2 0))) (fun y0=>
 .at (.next ((.inr (.inr (y0,x0,x1,IntKind.i64.wrap (x2 + 1),x3,x4,x5,x6))))))
 (.no))
 (.no))
 (.at (.done 0))
def qko (x0:Int) (x1:List AV) (x2 x3 x4:Int) (x5:List UInt8) (x6:List AV):DT (Rd qcy):=
 .br (decide (x2 < (x1.length:Int)))
 (.br (qaQ [.str] x1 x2)
 (.bi (qgU [] (strOf (cellAt x1 x2 0))) (fun y0=>
 .at (.next ((.inr (.inr (y0,x0,x1,IntKind.i64.wrap (x2 + 1),x3,x4,x5,x6))))))
 (.no))
 (.no))
 (.at (.done 1))
def qkp (x0:List AV) (x1:Int) (x2:List AV) (x3 x4 x5:Int) (x6:List UInt8) (x7:List AV):DT (Rd qcy):=
 .br (decide (x3 < (x2.length:Int)))
 (.br (qaQ [.str] x2 x3)
 (.bi (qgU x0 (strOf (cellAt x2 x3 0))) (fun y0=>
 .at (.next ((.inr (.inr (y0,x1,x2,IntKind.i64.wrap (x3 + 1),x4,x5,x6,x7))))))
 (.no))
 (.no))
 (.at (.done 2))
def qdz:qcy -> DT (Rd qcy):=(Sum.elim (fun v=>qkn v.1 v.2.1 v.2.2.1 v.2.2.2.1 v.2.2.2.2.1 v.2.2.2.2.2.1 v.2.2.2.2.2.2.1 v.2.2.2.2.2.2.2) (Sum.elim (fun v=>qko v.1 v.2.1 v.2.2.1 v.2.2.2.1 v.2.2.2.2.1 v.2.2.2.2.2.1 v.2.2.2.2.2.2) (fun v=>qkp v.1 v.2.1 v.2.2.1 v.2.2.2.1 v.2.2.2.2.1 v.2.2.2.2.2.1 v.2.2.2.2.2.2.1 v.2.2.2.2.2.2.2)))
def qdr (v:qcy):Option (Nat × qcy):=qa2 (qaw (fun v=>(qdz v).ev) v)
theorem qj6 (v):qdr v = qaw (fun v=>(qdz v).ev) v:=qab _
def qyR:qdA:=LE (τ:=qcy) (hD qyh) (qdr) qS7
theorem qSN:Go.Eng.Told IP (qah F23 1).1 (qah F23 1).2 (qyR):=qaF (inferInstance:Inhabited qcy) (hs:=qyh) (st:=qdz) (L:=[]) qDl (qae (l:=[]) (by kernel_rfl) trivial) (qj6) (fun v=>match v with | (.inl v)=>by kernel_rfl | (.inr (.inl v))=>by kernel_rfl | (.inr (.inr v))=>by kernel_rfl) (fun v=>match v with | (.inl v)=>by kernel_rfl | (.inr (.inl v))=>by kernel_rfl | (.inr (.inr v))=>by kernel_rfl)
abbrev qlW:Type:=List AV
def qnI:PArgs:=⟨[.agg [.int .i64,.int .i64,.str,.view 4]],[]⟩
def qn4:List PRes:=[⟨false,.view 1,[]⟩]
abbrev qci:Type:=Int -> Int -> (List UInt8) -> (List AV) -> Option qlW
def qqB (G_u149q:qci):Prop:=FH IP 23 qnI qn4 (k4 G_u149q)
def qJZ (G_u149q:qci):Tab:=(23,FE qnI qn4 (k4 G_u149q)) :: T90
theorem ql5 (G_u149q:qci) (hG:qqB G_u149q):qao IP (qJZ G_u149q):=⟨qan (hG),qDl⟩
abbrev qck:Type:=(Int × Int × Int × List UInt8 × List AV × List AV) ⊕ (Int × Int × Int × List UInt8 × List AV) ⊕ (List AV × Int × Int × Int × List UInt8 × List AV)
def qyg:List PSt:=[⟨[(1002300,.junk),(1,.ref 0 0 0),(3,.own 1 0),(4,.int .i64)],[(0,.box [.int .i64,.int .i64,.str,.view 4] false),(1,.arr 1 false)],2,0⟩,⟨[(1002300,.junk),(1,.ref 0 0 0),(3,.nils 1),(4,.int .i64)],[(0,.box [.int .i64,.int .i64,.str,.view 4] false)],1,0⟩,⟨[(1002300,.junk),(1,.ref 0 0 0),(3,.view 1),(4,.int .i64)],[(0,.box [.int .i64,.int .i64,.str,.view 4] false)],1,0⟩]
def qJg (x0 x1 x2:Int) (x3:List UInt8) (x4 x5:List AV):X × St:=(.exit 0,⟨[(3,.own 0 0 none)],[(0,.arr 1 x5 false)],1,0⟩)
def qJh (x0 x1 x2:Int) (x3:List UInt8) (x4:List AV):X × St:=(.exit 0,⟨[(3,.nils ⟨1,.nil⟩)],[],0,0⟩)
def qJi (x0:List AV) (x1 x2 x3:Int) (x4:List UInt8) (x5:List AV):X × St:=(.exit 0,⟨[(3,.view 1 x0)],[],0,0⟩)
def qS6:List (qck -> X × St):=[fun w=>(k6 qJg) ((sl w)),fun w=>(k5 qJh) ((sl (sr w))),fun w=>(k6 qJi) ((sr (sr w)))]
def qfE (G_u149q:qci) (x0 x1 x2:Int) (x3:List UInt8) (x4 x5:List AV):DT (Rd qck):=
 .br (decide (x0 < (x4.length:Int)))
 (.br (qaQ [.int .i64,.int .i64,.str,.slice 4] x4 x0)
 (.bi (G_u149q (intOf (cellAt x4 x0 0)) (intOf (cellAt x4 x0 1)) (strOf (cellAt x4 x0 2)) (qai (cellAt x4 x0 3))) (fun y0=>
 .bi (pj 0 (qdr (Sum.inl (x0,y0,0,x1,x2,x3,x4,x5)))) (fun y1=>
 .at (.next ((.inl (IntKind.i64.wrap ((sl y1).1 + 1),(sl y1).2.2.2.1,(sl y1).2.2.2.2.1,(sl y1).2.2.2.2.2.1,(sl y1).2.2.2.2.2.2.1,(sl y1).2.2.2.2.2.2.2)))))
 (.bi (pj 1 (qdr (Sum.inl (x0,y0,0,x1,x2,x3,x4,x5)))) (fun y1=>
 .at (.next ((.inr (.inl (IntKind.i64.wrap ((sl (sr y1)).1 + 1),(sl (sr y1)).2.2.2.1,(sl (sr y1)).2.2.2.2.1,(sl (sr y1)).2.2.2.2.2.1,(sl (sr y1)).2.2.2.2.2.2))))))
 (.bi (pj 2 (qdr (Sum.inl (x0,y0,0,x1,x2,x3,x4,x5)))) (fun y1=>
 .at (.next ((.inr (.inr ((sr (sr y1)).1,IntKind.i64.wrap ((sr (sr y1)).2.1 + 1),(sr (sr y1)).2.2.2.2.1,(sr (sr y1)).2.2.2.2.2.1,(sr (sr y1)).2.2.2.2.2.2.1,(sr (sr y1)).2.2.2.2.2.2.2))))))
 (.no))))
 (.no))
 (.no))
 (.at (.done 0))
def qfF (G_u149q:qci) (x0 x1 x2:Int) (x3:List UInt8) (x4:List AV):DT (Rd qck):=
 .br (decide (x0 < (x4.length:Int)))
 (.br (qaQ [.int .i64,.int .i64,.str,.slice 4] x4 x0)
 (.bi (G_u149q (intOf (cellAt x4 x0 0)) (intOf (cellAt x4 x0 1)) (strOf (cellAt x4 x0 2)) (qai (cellAt x4 x0 3))) (fun y0=>
 .bi (pj 0 (qdr (Sum.inr (Sum.inl (x0,y0,0,x1,x2,x3,x4))))) (fun y1=>
 .at (.next ((.inl (IntKind.i64.wrap ((sl y1).1 + 1),(sl y1).2.2.2.1,(sl y1).2.2.2.2.1,(sl y1).2.2.2.2.2.1,(sl y1).2.2.2.2.2.2.1,(sl y1).2.2.2.2.2.2.2)))))
 (.bi (pj 1 (qdr (Sum.inr (Sum.inl (x0,y0,0,x1,x2,x3,x4))))) (fun y1=>
 .at (.next ((.inr (.inl (IntKind.i64.wrap ((sl (sr y1)).1 + 1),(sl (sr y1)).2.2.2.1,(sl (sr y1)).2.2.2.2.1,(sl (sr y1)).2.2.2.2.2.1,(sl (sr y1)).2.2.2.2.2.2))))))
 (.bi (pj 2 (qdr (Sum.inr (Sum.inl (x0,y0,0,x1,x2,x3,x4))))) (fun y1=>
 .at (.next ((.inr (.inr ((sr (sr y1)).1,IntKind.i64.wrap ((sr (sr y1)).2.1 + 1),(sr (sr y1)).2.2.2.2.1,(sr (sr y1)).2.2.2.2.2.1,(sr (sr y1)).2.2.2.2.2.2.1,(sr (sr y1)).2.2.2.2.2.2.2))))))
 (.no))))
 (.no))
 (.no))
 (.at (.done 1))
def qfG (G_u149q:qci) (x0:List AV) (x1 x2 x3:Int) (x4:List UInt8) (x5:List AV):DT (Rd qck):=
 .br (decide (x1 < (x5.length:Int)))
 (.br (qaQ [.int .i64,.int .i64,.str,.slice 4] x5 x1)
 (.bi (G_u149q (intOf (cellAt x5 x1 0)) (intOf (cellAt x5 x1 1)) (strOf (cellAt x5 x1 2)) (qai (cellAt x5 x1 3))) (fun y0=>
 .bi (pj 0 (qdr (Sum.inr (Sum.inr (x0,x1,y0,0,x2,x3,x4,x5))))) (fun y1=>
 .at (.next ((.inl (IntKind.i64.wrap ((sl y1).1 + 1),(sl y1).2.2.2.1,(sl y1).2.2.2.2.1,(sl y1).2.2.2.2.2.1,(sl y1).2.2.2.2.2.2.1,(sl y1).2.2.2.2.2.2.2)))))
 (.bi (pj 1 (qdr (Sum.inr (Sum.inr (x0,x1,y0,0,x2,x3,x4,x5))))) (fun y1=>
 .at (.next ((.inr (.inl (IntKind.i64.wrap ((sl (sr y1)).1 + 1),(sl (sr y1)).2.2.2.1,(sl (sr y1)).2.2.2.2.1,(sl (sr y1)).2.2.2.2.2.1,(sl (sr y1)).2.2.2.2.2.2))))))
 (.bi (pj 2 (qdr (Sum.inr (Sum.inr (x0,x1,y0,0,x2,x3,x4,x5))))) (fun y1=>
 .at (.next ((.inr (.inr ((sr (sr y1)).1,IntKind.i64.wrap ((sr (sr y1)).2.1 + 1),(sr (sr y1)).2.2.2.2.1,(sr (sr y1)).2.2.2.2.2.1,(sr (sr y1)).2.2.2.2.2.2.1,(sr (sr y1)).2.2.2.2.2.2.2))))))
 (.no))))
 (.no))
 (.no))
 (.at (.done 2))
def qbQ (G_u149q:qci):qck -> DT (Rd qck):=(Sum.elim (fun v=>qfE G_u149q v.1 v.2.1 v.2.2.1 v.2.2.2.1 v.2.2.2.2.1 v.2.2.2.2.2) (Sum.elim (fun v=>qfF G_u149q v.1 v.2.1 v.2.2.1 v.2.2.2.1 v.2.2.2.2) (fun v=>qfG G_u149q v.1 v.2.1 v.2.2.1 v.2.2.2.1 v.2.2.2.2.1 v.2.2.2.2.2)))
def qes (G_u149q:qci) (v:qck):Option (Nat × qck):=qa2 (qaw (fun v=>(qbQ G_u149q v).ev) v)
theorem qj5 (G_u149q v):qes G_u149q v = qaw (fun v=>(qbQ G_u149q v).ev) v:=qab _
def qyQ (G_u149q:qci):qdA:=LE (τ:=qck) (hD qyg) (qes G_u149q) qS6
theorem qSM (G_u149q:qci) (hG:qqB G_u149q):Go.Eng.Told IP (qah F23 0).1 (qah F23 0).2 (qyQ G_u149q):=qaF (inferInstance:Inhabited qck) (hs:=qyg) (st:=qbQ G_u149q) (L:=[(1002301,qyR)]) (ql5 G_u149q hG) (qae (l:=[qah F23 1]) (by kernel_rfl) ⟨qaH (by kernel_rfl) qSN,trivial⟩) (qj5 G_u149q) (fun v=>match v with | (.inl v)=>by kernel_rfl | (.inr (.inl v))=>by kernel_rfl | (.inr (.inr v))=>by kernel_rfl) (fun v=>match v with | (.inl v)=>by kernel_rfl | (.inr (.inl v))=>by kernel_rfl | (.inr (.inr v))=>by kernel_rfl)
def qr6 (G_u149q:qci) (x0 x1:Int) (x2:List UInt8) (x3:List AV):DT qlW:=
 .br (x0 == 4)
 (.bi (pj 0 (qes G_u149q (Sum.inl (0,x0,x1,x2,x3,[AV.str x2])))) (fun y0=>
 .at ((sl y0).2.2.2.2.2))
 (.bi (pj 1 (qes G_u149q (Sum.inl (0,x0,x1,x2,x3,[AV.str x2])))) (fun y0=>
 .at ([]))
 (.bi (pj 2 (qes G_u149q (Sum.inl (0,x0,x1,x2,x3,[AV.str x2])))) (fun y0=>
 .at ((sr (sr y0)).1))
 (.no))))
 (.bi (pj 0 (qes G_u149q (Sum.inr (Sum.inl (0,x0,x1,x2,x3))))) (fun y0=>
 .at ((sl y0).2.2.2.2.2))
 (.bi (pj 1 (qes G_u149q (Sum.inr (Sum.inl (0,x0,x1,x2,x3))))) (fun y0=>
 .at ([]))
 (.bi (pj 2 (qes G_u149q (Sum.inr (Sum.inl (0,x0,x1,x2,x3))))) (fun y0=>
 .at ((sr (sr y0)).1))
 (.no))))
def qdh:Nat -> qci
 | 0=>fun _ _ _ _=>none
 | n + 1=>fun x0 x1 x2 x3=>(qr6 ((qdh n)) x0 x1 x2 x3).ev
def qmE (x0 x1:Int) (x2:List UInt8) (x3:List AV):Option qlW:=qfI fun n=>(qdh n) x0 x1 x2 x3
theorem qpd:∀ n,qqB ((qdh n))
 | 0=>(fun v y h=>nomatch h)
 | n + 1=>have hG:=qpd n
 qak (F:=F23) (L:=[(1002300,qyQ ((qdh n)))]) (t:=(k4 (qr6 ((qdh n))))) (ql5 ((qdh n)) hG) (qae (l:=[qah F23 0,qah F23 1]) (by kernel_rfl) ⟨qaH (by kernel_rfl) (qSM ((qdh n)) hG),qQv (by kernel_rfl),trivial⟩) (by kernel_rfl) (fun v=>by kernel_rfl) (fun v=>rfl)
theorem qRv:FH IP 23 qnI qn4 (k4 qmE):=qbk (p:=qnI) (rs:=qn4) (s:=fun n=>(k4 ((qdh n)))) fun n=>(qpd n)
def T91:Tab:=(23,FE qnI qn4 (k4 qmE)) :: T90
theorem qDm:qao IP T91:=⟨qan qRv,qDl⟩
abbrev qdZ:Type:=List UInt8 × Int
def qyo:List PSt:=[⟨[(1007200,.junk),(0,.str),(3,.int .i64)],[],0,0⟩]
def qJA (x0:List UInt8) (x1:Int):X × St:=(.ret,⟨[(2,.bool false)],[],0,0⟩)
def qJB (x0:List UInt8) (x1:Int):X × St:=(.exit 0,⟨[(2,.junk)],[],0,0⟩)
def qTe:List (qdZ -> X × St):=[(k2 qJA),(k2 qJB)]
def qku (x0:List UInt8) (x1:Int):DT (Rd qdZ):=
 .br (decide (x1 < (x0.length:Int)))
 (.br (inB x0.length x1)
 (.bi (br (decide (qaA x0 x1 < 97)) (some true) (br (inB x0.length x1) (some (decide (qaA x0 x1 > 122))) none)) (fun y0=>
 .bi (br y0 (br (inB x0.length x1) (br (decide (qaA x0 x1 < 48)) (some true) (br (inB x0.length x1) (some (decide (qaA x0 x1 > 57))) none)) none) (some false)) (fun y1=>
 .bi (br y1 (br (inB x0.length x1) (some (qaA x0 x1 != 95)) none) (some false)) (fun y2=>
 .br (y2) (.at (.done 0)) (.at (.next ((x0,IntKind.i64.wrap (x1 + 1))))))
 (.no))
 (.no))
 (.no))
 (.no))
 (.at (.done 1))
def qjq:qdZ -> DT (Rd qdZ):=(fun v=>qku v.1 v.2)
def qng (v:qdZ):Option (Nat × qdZ):=qa2 (qaw (fun v=>(qjq v).ev) v)
theorem qpU (v):qng v = qaw (fun v=>(qjq v).ev) v:=qab _
def qyX:qdA:=LE (τ:=qdZ) (hD qyo) (qng) qTe
theorem qST:Go.Eng.Told IP (qah F72 0).1 (qah F72 0).2 (qyX):=lp (inferInstance:Inhabited qdZ) (hs:=qyo) qjq qDm qpU
abbrev qCn:Type:=Bool
def qHf:PArgs:=⟨[.str],[]⟩
def qIa:List PRes:=[⟨false,.bool,[]⟩]
def qlL (x0:List UInt8):DT qCn:=
 .bi (br (decide ((x0.length:Int) < 1)) (some true) (some (decide ((x0.length:Int) > 16)))) (fun y0=>
 .bi (br y0 (some true) (br (inB x0.length 0) (some (decide (qaA x0 0 < 97))) none)) (fun y1=>
 .bi (br y1 (some true) (br (inB x0.length 0) (some (decide (qaA x0 0 > 122))) none)) (fun y2=>
 .br (y2)
 (.at (false))
 (.bi (pj 0 (qng (x0,0))) (fun y3=>
 .at (false))
 (.bi (pj 1 (qng (x0,0))) (fun y3=>
 .at (true))
 (.no))))
 (.no))
 (.no))
 (.no)
def qmI (x0:List UInt8):Option qCn:=qa2 (qlL x0).ev
theorem qAv (x0):qmI x0 = (qlL x0).ev:=qab _
theorem qRI:FH IP 72 qHf qIa qmI:=qak (F:=F72) (L:=[(1007200,qyX)]) (t:=qlL) qDm (qae (l:=[qah F72 0]) (by kernel_rfl) ⟨qaH (by kernel_rfl) qST,trivial⟩) (by kernel_rfl) (fun v=>by kernel_rfl) (fun _=>qab _)
def T92:Tab:=(72,FE qHf qIa qmI) :: T91
theorem qN4:qao IP T92:=⟨qan qRI,qDm⟩
abbrev qCd:Type:=List AV
def qG5:PArgs:=⟨[],[]⟩
def qH0:List PRes:=[⟨false,.view 1,[]⟩]
def qjA:DT qCd:=
 .at ([AV.str [112,114,111,100,117,99,116],AV.str [99,117,114,114,101,110,99,121],AV.str [99,97,108,101,110,100,97,114],AV.str [102,114,111,109],
 AV.str [101,118,101,114,121],AV.str [111,118,101,114,100,114,97,102,116],AV.str [116,97,120],AV.str [99,114,101,100,105,116],
 AV.str [100,101,98,105,116],AV.str [109,97,114,103,105,110,97,108],AV.str [119,104,111,108,101],AV.str [97,99,116,51,54,48],
 AV.str [97,99,116,51,54,53],AV.str [97,99,116,117,97,108],AV.str [116,104,105,114,116,121],AV.str [100,111,119,110],AV.str [117,112],
 AV.str [102,108,111,111,114],AV.str [99,101,105,108],AV.str [104,97,108,102,95,117,112],AV.str [104,97,108,102,95,101,118,101,110],
 AV.str [107,101,101,112],AV.str [100,114,111,112],AV.str [102,101,101],AV.str [108,105,109,105,116],AV.str [119,104,101,110],
 AV.str [97,109,111,117,110,116,95,111,102],AV.str [115,105,110,103,108,101],AV.str [100,97,105,108,121],AV.str [109,111,110,116,104,108,121],
 AV.str [109,111,110,116,104],AV.str [114,101,116,117,114,110],AV.str [99,108,111,115,101],AV.str [101,118,101,110,116],AV.str [105,102],
 AV.str [116,104,101,110],AV.str [101,108,115,101],AV.str [97,110,100],AV.str [111,114],AV.str [110,111,116],AV.str [109,105,110],AV.str [109,97,120]])
def qjT:Option qCd:=qa2 (qjA).ev
theorem qpr:qjT = (qjA).ev:=qab _
theorem qRq:FH IP 91 qG5 qH0 (fun _=>qjT):=qak (F:=F91) (L:=[]) (t:=(fun _=>qjA)) qN4 (qae (l:=[]) (by kernel_rfl) trivial) (by kernel_rfl) (fun v=>by kernel_rfl) (fun _=>qab _)
def T93:Tab:=(91,FE qG5 qH0 (fun _=>qjT)) :: T92
theorem qDn:qao IP T93:=⟨qan qRq,qN4⟩
abbrev qd2:Type:=List UInt8 × List AV × Int
def qyr:List PSt:=[⟨[(1007300,.junk),(0,.str),(3,.view 1),(4,.int .i64)],[],0,0⟩]
def qJF (x0:List UInt8) (x1:List AV) (x2:Int):X × St:=(.ret,⟨[(2,.bool true)],[],0,0⟩)
def qJG (x0:List UInt8) (x1:List AV) (x2:Int):X × St:=(.exit 0,⟨[(2,.junk)],[],0,0⟩)
def qTh:List (qd2 -> X × St):=[(k3 qJF),(k3 qJG)]
def qfH (x0:List UInt8) (x1:List AV) (x2:Int):DT (Rd qd2):=
 .br (decide (x2 < (x1.length:Int)))
 (.br (qaQ [.str] x1 x2)
 (.br (strOf (cellAt x1 x2 0) == x0) (.at (.done 0)) (.at (.next ((x0,x1,IntKind.i64.wrap (x2 + 1))))))
 (.no))
 (.at (.done 1))
def qgt:qd2 -> DT (Rd qd2):=(fun v=>qfH v.1 v.2.1 v.2.2)
def qj7 (v:qd2):Option (Nat × qd2):=qa2 (qaw (fun v=>(qgt v).ev) v)
theorem qj8 (v):qj7 v = qaw (fun v=>(qgt v).ev) v:=qab _
def qy0:qdA:=LE (τ:=qd2) (hD qyr) (qj7) qTh
theorem qSW:Go.Eng.Told IP (qah F73 0).1 (qah F73 0).2 (qy0):=lp (inferInstance:Inhabited qd2) (hs:=qyr) qgt qDn qj8
abbrev qCp:Type:=Bool
def qHh:PArgs:=⟨[.str],[]⟩
def qIc:List PRes:=[⟨false,.bool,[]⟩]
def qjB (x0:List UInt8):DT qCp:=
 .bi (qjT) (fun y0=>
 .bi (pj 0 (qj7 (x0,y0,0))) (fun y1=>
 .at (true))
 (.bi (pj 1 (qj7 (x0,y0,0))) (fun y1=>
 .at (false))
 (.no)))
 (.no)
def qil (x0:List UInt8):Option qCp:=qa2 (qjB x0).ev
theorem qps (x0):qil x0 = (qjB x0).ev:=qab _
theorem qRK:FH IP 73 qHh qIc qil:=qak (F:=F73) (L:=[(1007300,qy0)]) (t:=qjB) qDn (qae (l:=[qah F73 0]) (by kernel_rfl) ⟨qaH (by kernel_rfl) qSW,trivial⟩) (by kernel_rfl) (fun v=>by kernel_rfl) (fun _=>qab _)
def T94:Tab:=(73,FE qHh qIc qil) :: T93
theorem qN5:qao IP T94:=⟨qan qRK,qDn⟩
abbrev qM7:Type:=Bool
def qPz:PArgs:=⟨[.str],[]⟩
def qQk:List PRes:=[⟨false,.bool,[]⟩]
def qsQ (x0:List UInt8):DT qM7:=
 .bi (qmI x0) (fun y0=>
 .bi (br y0 (br (sm (qil x0)) (some !gv (qil x0)) none) (some false)) (fun y1=>
 .at (y1))
 (.no))
 (.no)
def qtz (x0:List UInt8):Option qM7:=qa2 (qsQ x0).ev
theorem qEJ (x0):qtz x0 = (qsQ x0).ev:=qab _
theorem qVb:FH IP 40 qPz qQk qtz:=fh F40 qsQ qN5
def T95:Tab:=(40,FE qPz qQk qtz) :: T94
theorem qDo:qao IP T95:=⟨qan qVb,qN5⟩
abbrev qfR:Type:=List AV × Int
def qFe:List PSt:=[⟨[(1001800,.junk),(3,.view 1),(4,.int .i64)],[],0,0⟩]
def qLW (x0:List AV) (x1:Int):X × St:=(.ret,⟨[(2,.int .i64 4)],[],0,0⟩)
def qLX (x0:List AV) (x1:Int):X × St:=(.exit 0,⟨[(2,.junk)],[],0,0⟩)
def qXo:List (qfR -> X × St):=[(k2 qLW),(k2 qLX)]
def qov (x0:List AV) (x1:Int):DT (Rd qfR):=
 .br (decide (x1 < (x0.length:Int)))
 (.br (qaQ [.str] x0 x1)
 (.bi (qtz (strOf (cellAt x0 x1 0))) (fun y0=>
 .br (!y0) (.at (.done 0)) (.at (.next ((x0,IntKind.i64.wrap (x1 + 1))))))
 (.no))
 (.no))
 (.at (.done 1))
def qou:qfR -> DT (Rd qfR):=(fun v=>qov v.1 v.2)
def qtU (v:qfR):Option (Nat × qfR):=qa2 (qaw (fun v=>(qou v).ev) v)
theorem qtV (v):qtU v = qaw (fun v=>(qou v).ev) v:=qab _
def qFR:qdA:=LE (τ:=qfR) (hD qFe) (qtU) qXo
theorem qWI:Go.Eng.Told IP (qah F18 0).1 (qah F18 0).2 (qFR):=lp (inferInstance:Inhabited qfR) (hs:=qFe) qou qDo qtV
end
end Go.Proofs.H10

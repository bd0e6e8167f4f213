/- Functions over plain data. Printed by a program of mine. -/
import Derived.Test.YtgpbobelbcbcaaaGreatDoorD10_3
import Derived.KernelRfl
set_option linter.unusedVariables false
set_option linter.unusedSimpArgs false
set_option linter.unnecessarySimpa false
namespace Go.Proofs.H10
open Go Go.Eng
set_option maxRecDepth 100000
noncomputable section
def qeh:Nat -> qcX
 | 0=>fun _ _ _ _ _ _ _ _=>none
 | n + 1=>fun x0 x1 x2 x3 x4 x5 x6 x7=>(qlO ((qeh n)) x0 x1 x2 x3 x4 x5 x6 x7).ev
def qaJ (x0 x1:Int) (x2:List UInt8) (x3:List AV) (x4 x5:Int) (x6:List UInt8) (x7:List AV):Option qvL:=qfI fun n=>(qeh n) x0 x1 x2 x3 x4 x5 x6 x7
theorem qph:∀ n,qqG ((qeh n))
 | 0=>(fun v y h=>nomatch h)
 | n + 1=>have hG:=qph n
 qak (F:=F12) (L:=[(1001200,qy2 ((qeh n)))]) (t:=(k8 (qlO ((qeh n))))) (ql9 ((qeh n)) hG) (qae (l:=[qah F12 0]) (by kernel_rfl) ⟨qaH (by kernel_rfl) (qSY ((qeh n)) hG),trivial⟩) (by kernel_rfl) (fun v=>by kernel_rfl) (fun v=>rfl)
theorem qRN:FH IP 12 qnP qob (k8 qaJ):=qbk (p:=qnP) (rs:=qob) (s:=fun n=>(k8 ((qeh n)))) fun n=>(qph n)
def T62:Tab:=(12,FE qnP qob (k8 qaJ)) :: T61
theorem qNP:qao IP T62:=⟨qan qRN,qNO⟩
abbrev qvE:Type:=(List AV) ⊕ (Unit)
def qnG:PArgs:=⟨[.agg [.int .i64,.int .i64,.str,.view 4]],[]⟩
def qn2:List PRes:=[⟨false,.own 0 0,[(0,.arr 1 false)]⟩,⟨false,.nils 1,[]⟩]
abbrev qcw:Type:=Int -> Int -> (List UInt8) -> (List AV) -> Option qvE
def qqz (G_u139q:qcw):Prop:=FH IP 41 qnG qn2 (k4 G_u139q)
def qJX (G_u139q:qcw):Tab:=(41,FE qnG qn2 (k4 G_u139q)) :: T62
theorem ql3 (G_u139q:qcw) (hG:qqz G_u139q):qao IP (qJX G_u139q):=⟨qan (hG),qNP⟩
abbrev qel:Type:=(List AV × Int × Int × List AV) ⊕ (List AV × Int × Int)
def qFt:List PSt:=[⟨[(1004100,.junk),(3,.own 0 0),(13,.view 4),(14,.int .i64),(15,.int .i64)],[(0,.arr 1 false)],1,0⟩,⟨[(1004100,.junk),(3,.nils 1),(13,.view 4),(14,.int .i64),(15,.int .i64)],[],0,0⟩]
def qMp (x0:List AV) (x1 x2:Int) (x3:List AV):X × St:=(.exit 0,⟨[(3,.own 0 0 none)],[(0,.arr 1 x3 false)],1,0⟩)
def qMq (x0:List AV) (x1 x2:Int):X × St:=(.exit 0,⟨[(3,.nils ⟨1,.nil⟩)],[],0,0⟩)
def qXD:List (qel -> X × St):=[fun w=>(k4 qMp) ((sl w)),fun w=>(k3 qMq) ((sr w))]
def qhp (G_u139q:qcw) (x0:List AV) (x1 x2:Int) (x3:List AV):DT (Rd qel):=
 .br (decide (x2 < x1))
 (.br (qaQ [.int .i64,.int .i64,.str,.slice 4] x0 x2)
 (.bi (pl (G_u139q (intOf (cellAt x0 x2 0)) (intOf (cellAt x0 x2 1)) (strOf (cellAt x0 x2 2)) (qai (cellAt x0 x2 3)))) (fun y0=>
 .br (decide (y0.length = 0) && decide (1 = 1))
 (.at (.next ((.inl (x0,x1,IntKind.i64.wrap (x2 + 1),x3)))))
 (.br (decide (y0.length ≠ 0) && room (x3.length + y0.length) 16) (.at (.next ((.inl (x0,x1,IntKind.i64.wrap (x2 + 1),x3 ++ y0))))) (.no)))
 (.bi (pr (G_u139q (intOf (cellAt x0 x2 0)) (intOf (cellAt x0 x2 1)) (strOf (cellAt x0 x2 2)) (qai (cellAt x0 x2 3)))) (fun y0=>
 .at (.next ((.inl (x0,x1,IntKind.i64.wrap (x2 + 1),x3)))))
 (.no)))
 (.no))
 (.at (.done 0))
def qhq (G_u139q:qcw) (x0:List AV) (x1 x2:Int):DT (Rd qel):=
 .br (decide (x2 < x1))
 (.br (qaQ [.int .i64,.int .i64,.str,.slice 4] x0 x2)
 (.bi (pl (G_u139q (intOf (cellAt x0 x2 0)) (intOf (cellAt x0 x2 1)) (strOf (cellAt x0 x2 2)) (qai (cellAt x0 x2 3)))) (fun y0=>
 .br (decide (y0.length = 0) && decide (1 = 1))
 (.at (.next ((.inr (x0,x1,IntKind.i64.wrap (x2 + 1))))))
 (.br (decide (y0.length ≠ 0) && room y0.length 16) (.at (.next ((.inl (x0,x1,IntKind.i64.wrap (x2 + 1),y0))))) (.no)))
 (.bi (pr (G_u139q (intOf (cellAt x0 x2 0)) (intOf (cellAt x0 x2 1)) (strOf (cellAt x0 x2 2)) (qai (cellAt x0 x2 3)))) (fun y0=>
 .at (.next ((.inr (x0,x1,IntKind.i64.wrap (x2 + 1))))))
 (.no)))
 (.no))
 (.at (.done 1))
def qxv (G_u139q:qcw):qel -> DT (Rd qel):=(Sum.elim (fun v=>qhp G_u139q v.1 v.2.1 v.2.2.1 v.2.2.2) (fun v=>qhq G_u139q v.1 v.2.1 v.2.2))
def qi7 (G_u139q:qcw) (v:qel):Option (Nat × qel):=qa2 (qaw (fun v=>(qxv G_u139q v).ev) v)
theorem qt9 (G_u139q v):qi7 G_u139q v = qaw (fun v=>(qxv G_u139q v).ev) v:=qab _
def qF6 (G_u139q:qcw):qdA:=LE (τ:=qel) (hD qFt) (qi7 G_u139q) qXD
theorem qWX (G_u139q:qcw) (hG:qqz G_u139q):Go.Eng.Told IP (qah F41 0).1 (qah F41 0).2 (qF6 G_u139q):=qaF (inferInstance:Inhabited qel) (hs:=qFt) (st:=qxv G_u139q) (L:=[]) (ql3 G_u139q hG) (qae (l:=[]) (by kernel_rfl) trivial) (qt9 G_u139q) (fun v=>match v with | (.inl v)=>by kernel_rfl | (.inr v)=>by kernel_rfl) (fun v=>match v with | (.inl v)=>by kernel_rfl | (.inr v)=>by kernel_rfl)
def qlw (G_u139q:qcw) (x0 x1:Int) (x2:List UInt8) (x3:List AV):DT qvE:=
 .br (x0 == 4)
 (.bi (pj 0 (qi7 G_u139q (Sum.inl (x3,(x3.length:Int),0,[AV.str x2])))) (fun y0=>
 .at ((.inl ((sl y0).2.2.2))))
 (.bi (pj 1 (qi7 G_u139q (Sum.inl (x3,(x3.length:Int),0,[AV.str x2])))) (fun y0=>
 .at ((.inr ())))
 (.no)))
 (.bi (pj 0 (qi7 G_u139q (Sum.inr (x3,(x3.length:Int),0)))) (fun y0=>
 .at ((.inl ((sl y0).2.2.2))))
 (.bi (pj 1 (qi7 G_u139q (Sum.inr (x3,(x3.length:Int),0)))) (fun y0=>
 .at ((.inr ())))
 (.no)))
def qb2:Nat -> qcw
 | 0=>fun _ _ _ _=>none
 | n + 1=>fun x0 x1 x2 x3=>(qlw ((qb2 n)) x0 x1 x2 x3).ev
def qmz (x0 x1:Int) (x2:List UInt8) (x3:List AV):Option qvE:=qfI fun n=>(qb2 n) x0 x1 x2 x3
theorem qpb:∀ n,qqz ((qb2 n))
 | 0=>(fun v y h=>nomatch h)
 | n + 1=>have hG:=qpb n
 qak (F:=F41) (L:=[(1004100,qF6 ((qb2 n)))]) (t:=(k4 (qlw ((qb2 n))))) (ql3 ((qb2 n)) hG) (qae (l:=[qah F41 0]) (by kernel_rfl) ⟨qaH (by kernel_rfl) (qWX ((qb2 n)) hG),trivial⟩) (by kernel_rfl) (fun v=>by kernel_rfl) (fun v=>rfl)
theorem qRl:FH IP 41 qnG qn2 (k4 qmz):=qbk (p:=qnG) (rs:=qn2) (s:=fun n=>(k4 ((qb2 n)))) fun n=>(qpb n)
def T63:Tab:=(41,FE qnG qn2 (k4 qmz)) :: T62
theorem qNQ:qao IP T63:=⟨qan qRl,qNP⟩
abbrev qB7:Type:=List AV
def qGZ:PArgs:=⟨[.agg [.int .i64,.int .i64,.str,.view 4]],[]⟩
def qHU:List PRes:=[⟨false,.view 1,[]⟩]
def qlu (x0 x1:Int) (x2:List UInt8) (x3:List AV):DT qB7:=
 .bi (pl (qmz x0 x1 x2 x3)) (fun y0=>
 .br (y0.all isS && (decide (y0.length ≠ 0) && decide (y0.length < 4611686018427387904)))
 (.br ((List.map AV.str (qfb (List.map sOf y0))).all isS &&
 (decide ((List.map AV.str (qfb (List.map sOf y0))).length ≠ 0) && decide ((List.map AV.str (qfb (List.map sOf y0))).length < 4611686018427387904)))
 (.br (qkj
 [(48,
 Blk.arr 1
 (List.map AV.str
 (Lib.compact (List.map sOf (List.map AV.str (qfb (List.map sOf y0)))) ++
 List.replicate ((List.map AV.str (qfb (List.map sOf y0))).length - (Lib.compact (List.map sOf (List.map AV.str (qfb (List.map sOf y0))))).length) []))
 false),
 (0,Blk.box [.int .i64 x0,.int .i64 x1,AV.str x2,AV.view 4 x3] false)]
 qdH (AV.own 48 0 (some (Lib.compact (List.map sOf (List.map AV.str (qfb (List.map sOf y0))))).length)))
 (.at (List.take (Lib.compact (List.map sOf (List.map AV.str (qfb (List.map sOf y0))))).length
 (List.map AV.str
 (Lib.compact (List.map sOf (List.map AV.str (qfb (List.map sOf y0)))) ++
 List.replicate ((List.map AV.str (qfb (List.map sOf y0))).length - (Lib.compact (List.map sOf (List.map AV.str (qfb (List.map sOf y0))))).length) []))))
 (.no))
 (.no))
 (.no))
 (.bi (pr (qmz x0 x1 x2 x3)) (fun y0=>
 .at ([]))
 (.no))
def qif (x0 x1:Int) (x2:List UInt8) (x3:List AV):Option qB7:=qa2 (qlu x0 x1 x2 x3).ev
theorem qAf (x0 x1 x2 x3):qif x0 x1 x2 x3 = (qlu x0 x1 x2 x3).ev:=qab _
theorem qRg:FH IP 22 qGZ qHU (k4 qif):=fh F22 (k4 qlu) qNQ
def T64:Tab:=(22,FE qGZ qHU (k4 qif)) :: T63
theorem qDe:qao IP T64:=⟨qan qRg,qNQ⟩
abbrev qfN:Type:=List AV × List AV × Int
def qE9:List PSt:=[⟨[(1002100,.junk),(0,.view 1),(1,.view 1),(5,.int .i64)],[],0,0⟩]
def qLL (x0 x1:List AV) (x2:Int):X × St:=(.ret,⟨[(4,.bool false)],[],0,0⟩)
def qLM (x0 x1:List AV) (x2:Int):X × St:=(.exit 0,⟨[(4,.junk)],[],0,0⟩)
def qXj:List (qfN -> X × St):=[(k3 qLL),(k3 qLM)]
def qhk (x0 x1:List AV) (x2:Int):DT (Rd qfN):=
 .br (decide (x2 < (x0.length:Int)))
 (.br (qaQ [.str] x0 x2)
 (.br (qaQ [.str] x1 x2)
 (.br (!strOf (cellAt x0 x2 0) == strOf (cellAt x1 x2 0)) (.at (.done 0)) (.at (.next ((x0,x1,IntKind.i64.wrap (x2 + 1))))))
 (.no))
 (.no))
 (.at (.done 1))
def qxq:qfN -> DT (Rd qfN):=(fun v=>qhk v.1 v.2.1 v.2.2)
def qtP (v:qfN):Option (Nat × qfN):=qa2 (qaw (fun v=>(qxq v).ev) v)
theorem qtQ (v):qtP v = qaw (fun v=>(qxq v).ev) v:=qab _
def qFM:qdA:=LE (τ:=qfN) (hD qE9) (qtP) qXj
theorem qWD:Go.Eng.Told IP (qah F21 0).1 (qah F21 0).2 (qFM):=lp (inferInstance:Inhabited qfN) (hs:=qE9) qxq qDe qtQ
abbrev qMW:Type:=Bool
def qPo:PArgs:=⟨[.view 1,.view 1],[]⟩
def qP9:List PRes:=[⟨false,.bool,[]⟩]
def qsE (x0 x1:List AV):DT qMW:=
 .br ((x0.length:Int) != (x1.length:Int))
 (.at (false))
 (.bi (pj 0 (qtP (x0,x1,0))) (fun y0=>
 .at (false))
 (.bi (pj 1 (qtP (x0,x1,0))) (fun y0=>
 .at (true))
 (.no)))
def qh1 (x0 x1:List AV):Option qMW:=qa2 (qsE x0 x1).ev
theorem qEy (x0 x1):qh1 x0 x1 = (qsE x0 x1).ev:=qab _
theorem qUZ:FH IP 21 qPo qP9 (k2 qh1):=qak (F:=F21) (L:=[(1002100,qFM)]) (t:=(k2 qsE)) qDe (qae (l:=[qah F21 0]) (by kernel_rfl) ⟨qaH (by kernel_rfl) qWD,trivial⟩) (by kernel_rfl) (fun v=>by kernel_rfl) (fun _=>qab _)
def T65:Tab:=(21,FE qPo qP9 (k2 qh1)) :: T64
theorem qNR:qao IP T65:=⟨qan qUZ,qDe⟩
abbrev qvK:Type:=Bool
def qnO:PArgs:=⟨[.agg [.int .i64,.int .i64,.str,.view 4],.agg [.int .i64,.int .i64,.str,.view 4]],[]⟩
def qoa:List PRes:=[⟨false,.bool,[]⟩]
abbrev qcx:Type:=Int -> Int -> (List UInt8) -> (List AV) -> Int -> Int -> (List UInt8) -> (List AV) -> Option qvK
abbrev qQB:Type:=Bool
def qHq:PArgs:=⟨[.view 4,.view 4,.fn (.func 24) []],[]⟩
def qIl:List PRes:=[⟨false,.bool,[]⟩]
abbrev qgC:Type:=(List AV) -> (List AV) -> Option qQB
def qqF (G_u157q:qcx) (G_u1q:qgC):Prop:=FH IP 24 qnO qoa (k8 G_u157q) /\ FH IP 45 qHq qIl (k2 G_u1q)
def qJ4 (G_u157q:qcx) (G_u1q:qgC):Tab:=(24,FE qnO qoa (k8 G_u157q)) :: (45,FE qHq qIl (k2 G_u1q)) :: T65
theorem qh9 (G_u157q:qcx) (G_u1q:qgC) (hG:qqF G_u157q G_u1q):qao IP (qJ4 G_u157q G_u1q):=⟨qan (hG.1),qan (hG.2),qNR⟩
abbrev qiM:Type:=List AV × List AV × Int × Int
def qOH:List PSt:=[⟨[(1004500,.junk),(1,.view 4),(2,.fn (.func 24) []),(15,.view 4),(16,.int .i64),(17,.int .i64)],[],0,0⟩]
def qS2 (x0 x1:List AV) (x2 x3:Int):X × St:=(.ret,⟨[(6,.bool false)],[],0,0⟩)
def qS3 (x0 x1:List AV) (x2 x3:Int):X × St:=(.exit 0,⟨[(6,.junk)],[],0,0⟩)
def q0A:List (qiM -> X × St):=[(k4 qS2),(k4 qS3)]
def qrN (G_u157q:qcx) (G_u1q:qgC) (x0 x1:List AV) (x2 x3:Int):DT (Rd qiM):=
 .br (decide (x3 < x2))
 (.br (qaQ [.int .i64,.int .i64,.str,.slice 4] x1 x3)
 (.br (qaQ [.int .i64,.int .i64,.str,.slice 4] x0 x3)
 (.bi (G_u157q (intOf (cellAt x1 x3 0)) (intOf (cellAt x1 x3 1)) (strOf (cellAt x1 x3 2)) (qai (cellAt x1 x3 3)) (intOf (cellAt x0 x3 0)) (intOf (cellAt x0 x3 1))
 (strOf (cellAt x0 x3 2)) (qai (cellAt x0 x3 3))) (fun y0=>
 .br (!y0) (.at (.done 0)) (.at (.next ((x0,x1,x2,IntKind.i64.wrap (x3 + 1))))))
 (.no))
 (.no))
 (.no))
 (.at (.done 1))
def qvd (G_u157q:qcx) (G_u1q:qgC):qiM -> DT (Rd qiM):=(fun v=>qrN G_u157q G_u1q v.1 v.2.1 v.2.2.1 v.2.2.2)
def qFA (G_u157q:qcx) (G_u1q:qgC) (v:qiM):Option (Nat × qiM):=qa2 (qaw (fun v=>(qvd G_u157q G_u1q v).ev) v)
theorem qyy (G_u157q G_u1q v):qFA G_u157q G_u1q v = qaw (fun v=>(qvd G_u157q G_u1q v).ev) v:=qab _
def qOO (G_u157q:qcx) (G_u1q:qgC):qdA:=LE (τ:=qiM) (hD qOH) (qFA G_u157q G_u1q) q0A
theorem q0p (G_u157q:qcx) (G_u1q:qgC) (hG:qqF G_u157q G_u1q):Go.Eng.Told IP (qah F45 0).1 (qah F45 0).2 (qOO G_u157q G_u1q):=qaF (inferInstance:Inhabited qiM) (hs:=qOH) (st:=qvd G_u157q G_u1q) (L:=[]) (qh9 G_u157q G_u1q hG) (qae (l:=[]) (by kernel_rfl) trivial) (qyy G_u157q G_u1q) (fun v=>by kernel_rfl) (fun v=>by kernel_rfl)
def qlG (G_u157q:qcx) (G_u1q:qgC) (x0 x1:Int) (x2:List UInt8) (x3:List AV) (x4 x5:Int) (x6:List UInt8) (x7:List AV):DT qvK:=
 .bi (br (x0 == x4) (some (x1 == x5)) (some false)) (fun y0=>
 .bi (br y0 (some (x2 == x6)) (some false)) (fun y1=>
 .bi (br y1 (br (sm (G_u1q x3 x7)) (some (gv (G_u1q x3 x7))) none) (some false)) (fun y2=>
 .at (y2))
 (.no))
 (.no))
 (.no)
def qzA (G_u157q:qcx) (G_u1q:qgC) (x0 x1:List AV):DT qQB:=
 .br ((x0.length:Int) != (x1.length:Int))
 (.at (false))
 (.bi (pj 0 (qFA G_u157q G_u1q (x1,x0,(x0.length:Int),0))) (fun y0=>
 .at (false))
 (.bi (pj 1 (qFA G_u157q G_u1q (x1,x0,(x0.length:Int),0))) (fun y0=>
 .at (true))
 (.no)))
def qa9:Nat -> qcx × qgC
 | 0=>(fun _ _ _ _ _ _ _ _=>none,fun _ _=>none)
 | n + 1=>(fun x0 x1 x2 x3 x4 x5 x6 x7=>(qlG ((qa9 n).1) ((qa9 n).2) x0 x1 x2 x3 x4 x5 x6 x7).ev,fun x0 x1=>(qzA ((qa9 n).1) ((qa9 n).2) x0 x1).ev)
def qcD (x0 x1:Int) (x2:List UInt8) (x3:List AV) (x4 x5:Int) (x6:List UInt8) (x7:List AV):Option qvK:=qfI fun n=>(qa9 n).1 x0 x1 x2 x3 x4 x5 x6 x7
def qVs (x0 x1:List AV):Option qQB:=qfI fun n=>(qa9 n).2 x0 x1
theorem qjK:∀ n,qqF ((qa9 n).1) ((qa9 n).2)
 | 0=>⟨(fun v y h=>nomatch h),(fun v y h=>nomatch h)⟩
 | n + 1=>have hG:=qjK n
 ⟨qak (F:=F24) (L:=[]) (t:=(k8 (qlG ((qa9 n).1) ((qa9 n).2)))) (qh9 ((qa9 n).1) ((qa9 n).2) hG) (qae (l:=[]) (by kernel_rfl) trivial) (by kernel_rfl) (fun v=>by kernel_rfl) (fun v=>rfl),qak (F:=F45) (L:=[(1004500,qOO ((qa9 n).1) ((qa9 n).2))]) (t:=(k2 (qzA ((qa9 n).1) ((qa9 n).2)))) (qh9 ((qa9 n).1) ((qa9 n).2) hG) (qae (l:=[qah F45 0]) (by kernel_rfl) ⟨qaH (by kernel_rfl) (q0p ((qa9 n).1) ((qa9 n).2) hG),trivial⟩) (by kernel_rfl) (fun v=>by kernel_rfl) (fun v=>rfl)⟩
theorem qRD:FH IP 24 qnO qoa (k8 qcD):=qbk (p:=qnO) (rs:=qoa) (s:=fun n=>(k8 ((qa9 n).1))) fun n=>(qjK n).1
theorem qYP:FH IP 45 qHq qIl (k2 qVs):=qbk (p:=qHq) (rs:=qIl) (s:=fun n=>(k2 ((qa9 n).2))) fun n=>(qjK n).2
def T66:Tab:=(24,FE qnO qoa (k8 qcD)) :: T65
theorem qT6:qao IP T66:=⟨qan qRD,qNR⟩
def T67:Tab:=(45,FE qHq qIl (k2 qVs)) :: T66
theorem qNS:qao IP T67:=⟨qan qYP,qT6⟩
abbrev qCl:Type:=Bool
def qHd:PArgs:=⟨[],[]⟩
def qH8:List PRes:=[⟨false,.bool,[]⟩]
def qlJ:DT qCl:=
 .bi (qcq [97]) (fun y0=>
 .bi (qcq [98]) (fun y1=>
 .bi (qjW 5
 [AV.agg [.int .i64 y0.1,.int .i64 y0.2.1,AV.str y0.2.2.1,AV.view 4 y0.2.2.2],
 AV.agg [.int .i64 y1.1,.int .i64 y1.2.1,AV.str y1.2.2.1,AV.view 4 y1.2.2.2]]) (fun y2=>
 .bi (qcq [99]) (fun y3=>
 .bi (qjW 7
 [AV.agg [.int .i64 y2.1,.int .i64 y2.2.1,AV.str y2.2.2.1,AV.view 4 y2.2.2.2],
 AV.agg [.int .i64 y3.1,.int .i64 y3.2.1,AV.str y3.2.2.1,AV.view 4 y3.2.2.2]]) (fun y4=>
 .bi (qf8 y4.1 y4.2.1 y4.2.2.1 y4.2.2.2) (fun y5=>
 .bi (br (y5.2 != 0) (some true) (some ((y5.1.length:Int) != 7))) (fun y6=>
 .bi (br y6 (some true) (br (qaQ [.int .i64,.int .i64,.str] y5.1 0) (some !strOf (cellAt y5.1 0 2) == [40]) none)) (fun y7=>
 .bi (br y7 (some true) (br (qaQ [.int .i64,.int .i64,.str] y5.1 4) (some !strOf (cellAt y5.1 4 2) == [41]) none)) (fun y8=>
 .br (y8)
 (.at (false))
 (.br (Tk.paB IP 10 y5.1 0)
 (.br (Decidable.rec (fun h=>(fun x=>false) h) (fun h=>(fun x=>true) h) (Int.decLe 3 (y5.1.length:Int)) && leB 1 3)
 (.br (Tk.paB IP 10 (List.take 2 (List.drop 1 y5.1)) 0)
 (.br (Tk.paB IP 10 y5.1 1)
 (.bi (br (Tk.paE IP 10 y5.1 0 == 0) (some (Tk.paK IP 10 y5.1 0 == 7)) (some false)) (fun y9=>
 .bi (br y9
 (br (sm (qaJ y4.1 y4.2.1 y4.2.2.1 y4.2.2.2 (Tk.paO IP 10 y5.1 0) (Tk.paN IP 10 y5.1 0) (Tk.paS IP 10 y5.1 0) (Tk.paX IP 10 y5.1 0)))
 (some (gv (qaJ y4.1 y4.2.1 y4.2.2.1 y4.2.2.2 (Tk.paO IP 10 y5.1 0) (Tk.paN IP 10 y5.1 0) (Tk.paS IP 10 y5.1 0) (Tk.paX IP 10 y5.1 0)))) none)
 (some false)) (fun y10=>
 .bi (br y10 (some (Tk.paE IP 10 (List.take 2 (List.drop 1 y5.1)) 0 == 2)) (some false)) (fun y11=>
 .bi (br y11 (some (Tk.paK IP 10 (List.take 2 (List.drop 1 y5.1)) 0 == 2)) (some false)) (fun y12=>
 .bi (br y12 (some (Tk.paE IP 10 y5.1 1 == 0)) (some false)) (fun y13=>
 .bi (br y13 (some (Tk.paK IP 10 y5.1 1 == 4)) (some false)) (fun y14=>
 .bi (br y14 (some (Tk.paO IP 10 y5.1 1 == 5)) (some false)) (fun y15=>
 .bi (br y15 (br (sm (qe9 y4.1 y4.2.1 y4.2.2.1 y4.2.2.2)) (some (gv (qe9 y4.1 y4.2.1 y4.2.2.1 y4.2.2.2) == 5)) none) (some false)) (fun y16=>
 .br (y16)
 (.bi (qif y4.1 y4.2.1 y4.2.2.1 y4.2.2.2) (fun y17=>
 .bi (br (sm (qh1 y17 [AV.str [97],AV.str [98],AV.str [99]])) (some (gv (qh1 y17 [AV.str [97],AV.str [98],AV.str [99]]))) none) (fun y18=>
 .bi (br y18
 (br (sm (qcq [109,105,110]))
 (br
 (sm
 (qeT (gv (qcq [109,105,110])).1 (gv (qcq [109,105,110])).2.1 (gv (qcq [109,105,110])).2.2.1
 (gv (qcq [109,105,110])).2.2.2))
 (some
 (gv
 (qeT (gv (qcq [109,105,110])).1 (gv (qcq [109,105,110])).2.1 (gv (qcq [109,105,110])).2.2.1
 (gv (qcq [109,105,110])).2.2.2) ==
 4))
 none)
 none)
 (some false)) (fun y19=>
 .bi (br y19
 (br (sm (qcD y4.1 y4.2.1 y4.2.2.1 y4.2.2.2 (Tk.paO IP 10 y5.1 0) (Tk.paN IP 10 y5.1 0) (Tk.paS IP 10 y5.1 0) (Tk.paX IP 10 y5.1 0)))
 (some (gv (qcD y4.1 y4.2.1 y4.2.2.1 y4.2.2.2 (Tk.paO IP 10 y5.1 0) (Tk.paN IP 10 y5.1 0) (Tk.paS IP 10 y5.1 0) (Tk.paX IP 10 y5.1 0)))) none)
 (some false)) (fun y20=>
 .bi (br y20
 (br (sm (qcD y4.1 y4.2.1 y4.2.2.1 y4.2.2.2 (Tk.paO IP 10 y5.1 1) (Tk.paN IP 10 y5.1 1) (Tk.paS IP 10 y5.1 1) (Tk.paX IP 10 y5.1 1)))
 (some !gv (qcD y4.1 y4.2.1 y4.2.2.1 y4.2.2.2 (Tk.paO IP 10 y5.1 1) (Tk.paN IP 10 y5.1 1) (Tk.paS IP 10 y5.1 1) (Tk.paX IP 10 y5.1 1))) none)
 (some false)) (fun y21=>
 .at (y21))
 (.no))
 (.no))
 (.no))
 (.no))
 (.no))
 (.at (false)))
 (.no))
 (.no))
 (.no))
 (.no))
 (.no))
 (.no))
 (.no))
 (.no))
 (.no))
 (.no))
 (.no))
 (.no)))
 (.no))
 (.no))
 (.no))
 (.no))
 (.no))
 (.no))
 (.no))
 (.no))
 (.no)
def qbp:Option qCl:=qa2 (qlJ).ev
theorem qAt:qbp = (qlJ).ev:=qab _
theorem qRG:FH IP 9 qHd qH8 (fun _=>qbp):=qak (F:=F9) (L:=[]) (t:=(fun _=>qlJ)) qNS (qae (l:=[]) (by kernel_rfl) trivial) (by kernel_rfl) (fun v=>by kernel_rfl) (fun _=>qab _)
def T68:Tab:=(9,FE qHd qH8 (fun _=>qbp)) :: T67
theorem qNT:qao IP T68:=⟨qan qRG,qNS⟩
abbrev qCr:Type:=Int
def qHj:PArgs:=⟨[.int .i64],[]⟩
def qIe:List PRes:=[⟨false,.int .i64,[]⟩]
def qgy (x0:Int):DT qCr:=
 .br (x0 == 19)
 (.at (0))
 (.br (x0 == 15)
 (.at (1))
 (.br (x0 == 14)
 (.at (2))
 (.br (x0 == 16)
 (.at (3))
 (.br (x0 == 10)
 (.br (x0 == 10)
 (.at (4))
 (.br (x0 == 5)
 (.br (x0 == 5)
 (.at (5))
 (.br (x0 == 7)
 (.br (x0 == 7)
 (.at (6))
 (.br (x0 == 9) (.at (7)) (.at (8))))
 (.br (x0 == 8)
 (.at (6))
 (.br (x0 == 9) (.at (7)) (.at (8))))))
 (.br (x0 == 6)
 (.at (5))
 (.br (x0 == 7)
 (.br (x0 == 7)
 (.at (6))
 (.br (x0 == 9) (.at (7)) (.at (8))))
 (.br (x0 == 8)
 (.at (6))
 (.br (x0 == 9) (.at (7)) (.at (8))))))))
 (.br (x0 == 11)
 (.br (x0 == 11)
 (.at (4))
 (.br (x0 == 5)
 (.br (x0 == 5)
 (.at (5))
 (.br (x0 == 7)
 (.br (x0 == 7)
 (.at (6))
 (.br (x0 == 9) (.at (7)) (.at (8))))
 (.br (x0 == 8)
 (.at (6))
 (.br (x0 == 9) (.at (7)) (.at (8))))))
 (.br (x0 == 6)
 (.at (5))
 (.br (x0 == 7)
 (.br (x0 == 7)
 (.at (6))
 (.br (x0 == 9) (.at (7)) (.at (8))))
 (.br (x0 == 8)
 (.at (6))
 (.br (x0 == 9) (.at (7)) (.at (8))))))))
 (.br (x0 == 12)
 (.br (x0 == 12)
 (.at (4))
 (.br (x0 == 5)
 (.br (x0 == 5)
 (.at (5))
 (.br (x0 == 7)
 (.br (x0 == 7)
 (.at (6))
 (.br (x0 == 9) (.at (7)) (.at (8))))
 (.br (x0 == 8)
 (.at (6))
 (.br (x0 == 9) (.at (7)) (.at (8))))))
 (.br (x0 == 6)
 (.at (5))
 (.br (x0 == 7)
 (.br (x0 == 7)
 (.at (6))
 (.br (x0 == 9) (.at (7)) (.at (8))))
 (.br (x0 == 8)
 (.at (6))
 (.br (x0 == 9) (.at (7)) (.at (8))))))))
 (.br (x0 == 13)
 (.at (4))
 (.br (x0 == 5)
 (.br (x0 == 5)
 (.at (5))
 (.br (x0 == 7)
 (.br (x0 == 7)
 (.at (6))
 (.br (x0 == 9) (.at (7)) (.at (8))))
 (.br (x0 == 8)
 (.at (6))
 (.br (x0 == 9) (.at (7)) (.at (8))))))
 (.br (x0 == 6)
 (.at (5))
 (.br (x0 == 7)
 (.br (x0 == 7)
 (.at (6))
 (.br (x0 == 9) (.at (7)) (.at (8))))
 (.br (x0 == 8)
 (.at (6))
 (.br (x0 == 9) (.at (7)) (.at (8))))))))))))))
def qeo (x0:Int):Option qCr:=qa2 (qgy x0).ev
theorem qhA (x0):qeo x0 = (qgy x0).ev:=qab _
theorem qRM:FH IP 62 qHj qIe qeo:=fh F62 qgy qNT
def T77:Tab:=(62,FE qHj qIe qeo) :: T68
theorem qDj:qao IP T77:=⟨qan qRM,qNT⟩
end
end Go.Proofs.H10

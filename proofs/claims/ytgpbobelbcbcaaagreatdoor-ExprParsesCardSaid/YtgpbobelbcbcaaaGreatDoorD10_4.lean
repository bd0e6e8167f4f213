/- Functions over plain data. Printed by a program of mine. -/
import Derived.Test.YtgpbobelbcbcaaaGreatDoorD10_3
import Derived.KernelRfl
set_option linter.unusedVariables false
set_option linter.unusedSimpArgs false
set_option linter.unnecessarySimpa false
namespace Go.Proofs.H10
open Go Go.Eng
set_option maxRecDepth 100000
noncomputable section
def qeh:Nat -> qcX
 | 0=>fun _ _ _ _ _ _ _ _=>none
 | n + 1=>fun x0 x1 x2 x3 x4 x5 x6 x7=>(qlO ((qeh n)) x0 x1 x2 x3 x4 x5 x6 x7).ev
def qaJ (x0 x1:Int) (x2:List UInt8) (x3:List AV) (x4 x5:Int) (x6:List UInt8) (x7:List AV):Option qvL:=qfI fun n=>(qeh n) x0 x1 x2 x3 x4 x5 x6 x7
theorem qph:∀ n,qqG ((qeh n))
 | 0=>(fun v y h=>nomatch h)
 | n + 1=>have hG:=qph n
 qak (F:=F12) (L:=[(1001200,qy2 ((qeh n)))]) (t:=(k8 (qlO ((qeh n))))) (ql9 ((qeh n)) hG) (qae (l:=[qah F12 0]) (by kernel_rfl) ⟨qaH (by kernel_rfl) (qSY ((qeh n)) hG),trivial⟩) (by kernel_rfl) (fun v=>by kernel_rfl) (fun v=>rfl)
theorem qRN:FH IP 12 qnP qob (k8 qaJ):=qbk (p:=qnP) (rs:=qob) (s:=fun n=>(k8 ((qeh n)))) fun n=>(qph n)
def T62:Tab:=(12,FE qnP qob (k8 qaJ)) :: T61
theorem qNP:qao IP T62:=⟨qan qRN,qNO⟩
abbrev qvE:Type:=(List AV) ⊕ (Unit)
def qnG:PArgs:=⟨[.agg [.int .i64,.int .i64,.str,.view 4]],[]⟩
def qn2:List PRes:=[⟨false,.own 0 0,[(0,.arr 1 false)]⟩,⟨false,.nils 1,[]⟩]
abbrev qcw:Type:=Int -> Int -> (List UInt8) -> (List AV) -> Option qvE
def qqz (G_u139q:qcw):Prop:=FH IP 41 qnG qn2 (k4 G_u139q)
def qJX (G_u139q:qcw):Tab:=(41,FE qnG qn2 (k4 G_u139q)) :: T62
theorem ql3 (G_u139q:qcw) (hG:qqz G_u139q):qao IP (qJX G_u139q):=⟨qan (hG),qNP⟩
abbrev qel:Type:=(List AV × Int × Int × List AV) ⊕ (List AV × Int × Int)
def qFt:List PSt:=[⟨[(1004100,.junk),(3,.own 0 0),(13,.view 4),(14,.int .i64),(15,.int .i64)],[(0,.arr 1 false)],1,0⟩,⟨[(1004100,.junk),(3,.nils 1),(13,.view 4),(14,.int .i64),(15,.int .i64)],[],0,0⟩]
def qMp (x0:List AV) (x1 x2:Int) (x3:List AV):X × St:=(.exit 0,⟨[(3,.own 0 0 none)],[(0,.arr 1 x3 false)],1,0⟩)
def qMq (x0:List AV) (x1 x2:Int):X × St:=(.exit 0,⟨[(3,.nils ⟨1,.nil⟩)],[],0,0⟩)
def qXD:List (qel -> X × St):=[fun w=>(k4 qMp) ((sl w)),fun w=>(k3 qMq) ((sr w))]
def qhp (G_u139q:qcw) (x0:List AV) (x1 x2:Int) (x3:List AV):DT (Rd qel):=
 .br (decide (x2 < x1))
 (.br (qaQ [.int .i64,.int .i64,.str,.slice 4] x0 x2)
 (.bi (pl (G_u139q (intOf (cellAt x0 x2 0)) (intOf (cellAt x0 x2 1)) (strOf (cellAt x0 x2 2)) (qai (cellAt x0 x2 3)))) (fun y0=>
 .br (decide (y0.length = 0) && decide (1 = 1))
 (.at (.next ((.inl (x0,x1,IntKind.i64.wrap (x2 + 1),x3)))))
 (.br (decide (y0.length ≠ 0) && room (x3.length + y0.length) 16) (.at (.next ((.inl (x0,x1,IntKind.i64.wrap (x2 + 1),x3 ++ y0))))) (.no)))
 (.bi (pr (G_u139q (intOf (cellAt x0 x2 0)) (intOf (cellAt x0 x2 1)) (strOf (cellAt x0 x2 2)) (qai (cellAt x0 x2 3)))) (fun y0=>
 .at (.next ((.inl (x0,x1,IntKind.i64.wrap (x2 + 1),x3)))))
 (.no)))
 (.no))
 (.at (.done 0))
def qhq (G_u139q:qcw) (x0:List AV) (x1 x2:Int):DT (Rd qel):=
 .br (decide (x2 < x1))
 (.br (qaQ [.int .i64,.int .i64,.str,.slice 4] x0 x2)
 (.bi (pl (G_u139q (intOf (cellAt x0 x2 0)) (intOf (cellAt x0 x2 1)) (strOf (cellAt x0 x2 2)) (qai (cellAt x0 x2 3)))) (fun y0=>
 .br (decide (y0.length = 0) && decide (1 = 1))
 (.at (.next ((.inr (x0,x1,IntKind.i64.wrap (x2 + 1))))))
 (.br (decide (y0.length ≠ 0) && room y0.length 16) (.at (.next ((.inl (x0,x1,IntKind.i64.wrap (x2 + 1),y0))))) (.no)))
 (.bi (pr (G_u139q (intOf (cellAt x0 x2 0)) (intOf (cellAt x0 x2 1)) (strOf (cellAt x0 x2 2)) (qai (cellAt x0 x2 3)))) (fun y0=>
 .at (.next ((.inr (x0,x1,IntKind.i64.wrap (x2 + 1))))))
 (.no)))
 (.no))
 (.at (.done 1))
def qxv (G_u139q:qcw):qel -> DT (Rd qel):=(Sum.elim (fun v=>qhp G_u139q v.1 v.2.1 v.2.2.1 v.2.2.2) (fun v=>qhq G_u139q v.1 v.2.1 v.2.2))
def qi7 (G_u139q:qcw) (v:qel):Option (Nat × qel):=qa2 (qaw (fun v=>(qxv G_u139q v).ev) v)
theorem qt9 (G_u139q v):qi7 G_u139q v = qaw (fun v=>(qxv G_u139q v).ev) v:=qab _
def qF6 (G_u139q:qcw):qdA:=LE (τ:=qel) (hD qFt) (qi7 G_u139q) qXD
theorem qWX (G_u139q:qcw) (hG:qqz G_u139q):Go.Eng.Told IP (qah F41 0).1 (qah F41 0).2 (qF6 G_u139q):=qaF (inferInstance:Inhabited qel) (hs:=qFt) (st:=qxv G_u139q) (L:=[]) (ql3 G_u139q hG) (qae (l:=[]) (by kernel_rfl) trivial) (qt9 G_u139q) (fun v=>match v with | (.inl v)=>by kernel_rfl | (.inr v)=>by kernel_rfl) (fun v=>match v with | (.inl v)=>by kernel_rfl | (.inr v)=>by kernel_rfl)
def qlw (G_u139q:qcw) (x0 x1:Int) (x2:List UInt8) (x3:List AV):DT qvE:=
 .br (x0 == 4)
 (.bi (pj 0 (qi7 G_u139q (Sum.inl (x3,(x3.length:Int),0,[AV.str x2])))) (fun y0=>
 .at ((.inl ((sl y0).2.2.2))))
 (.bi (pj 1 (qi7 G_u139q (Sum.inl (x3,(x3.length:Int),0,[AV.str x2])))) (fun y0=>
 .at ((.inr ())))
 (.no)))
 (.bi (pj 0 (qi7 G_u139q (Sum.inr (x3,(x3.length:Int),0)))) (fun y0=>
 .at ((.inl ((sl y0).2.2.2))))
 (.bi (pj 1 (qi7 G_u139q (Sum.inr (x3,(x3.length:Int),0)))) (fun y0=>
 .at ((.inr ())))
 (.no)))
def qb2:Nat -> qcw
 | 0=>fun _ _ _ _=>none
 | n + 1=>fun x0 x1 x2 x3=>(qlw ((qb2 n)) x0 x1 x2 x3).ev
def qmz (x0 x1:Int) (x2:List UInt8) (x3:List AV):Option qvE:=qfI fun n=>(qb2 n) x0 x1 x2 x3
theorem qpb:∀ n,qqz ((qb2 n))
 | 0=>(fun v y h=>nomatch h)
 | n + 1=>have hG:=qpb n
 qak (F:=F41) (L:=[(1004100,qF6 ((qb2 n)))]) (t:=(k4 (qlw ((qb2 n))))) (ql3 ((qb2 n)) hG) (qae (l:=[qah F41 0]) (by kernel_rfl) ⟨qaH (by kernel_rfl) (qWX ((qb2 n)) hG),trivial⟩) (by kernel_rfl) (fun v=>by kernel_rfl) (fun v=>rfl)
theorem qRl:FH IP 41 qnG qn2 (k4 qmz):=qbk (p:=qnG) (rs:=qn2) (s:=fun n=>(k4 ((qb2 n)))) fun n=>(qpb n)
def T63:Tab:=(41,FE qnG qn2 (k4 qmz)) :: T62
theorem qNQ:qao IP T63:=⟨qan qRl,qNP⟩
abbrev qB7:Type:=List AV
def qGZ:PArgs:=⟨[.agg [.int .i64,.int .i64,.str,.view 4]],[]⟩
def qHU:List PRes:=[⟨false,.view 1,[]⟩]
def qlu (x0 x1:Int) (x2:List UInt8) (x3:List AV):DT qB7:=
 .bi (pl (qmz x0 x1 x2 x3)) (fun y0=>
 .br (y0.all isS && (decide (y0.length ≠ 0) && decide (y0.length < 4611686018427387904)))
 (.br ((List.map AV.str (qfb (List.map sOf y0))).all isS &&
 (decide ((List.map AV.str (qfb (List.map sOf y0))).length ≠ 0) && decide ((List.map AV.str (qfb (List.map sOf y0))).length < 4611686018427387904)))
 (.br (qkj
 [(48,
 Blk.arr 1
 (List.map AV.str
 (Lib.compact (List.map sOf (List.map AV.str (qfb (List.map sOf y0)))) ++
 List.replicate ((List.map AV.str (qfb (List.map sOf y0))).length - (Lib.compact (List.map sOf (List.map AV.str (qfb (List.map sOf y0))))).length) []))
 false),
 (0,Blk.box [.int .i64 x0,.int .i64 x1,AV.str x2,AV.view 4 x3] false)]
 qdH (AV.own 48 0 (some (Lib.compact (List.map sOf (List.map AV.str (qfb (List.map sOf y0))))).length)))
 (.at (List.take (Lib.compact (List.map sOf (List.map AV.str (qfb (List.map sOf y0))))).length
 (List.map AV.str
 (Lib.compact (List.map sOf (List.map AV.str (qfb (List.map sOf y0)))) ++
 List.replicate ((List.map AV.str (qfb (List.map sOf y0))).length - (Lib.compact (List.map sOf (List.map AV.str (qfb (List.map sOf y0))))).length) []))))
 (.no))
 (.no))
 (.no))
 (.bi (pr (qmz x0 x1 x2 x3)) (fun y0=>
 .at ([]))
 (.no))
def qif (x0 x1:Int) (x2:List UInt8) (x3:List AV):Option qB7:=qa2 (qlu x0 x1 x2 x3).ev
theorem qAf (x0 x1 x2 x3):qif x0 x1 x2 x3 = (qlu x0 x1 x2 x3).ev:=qab _
theorem qRg:FH IP 22 qGZ qHU (k4 qif):=fh F22 (k4 qlu) qNQ
def T64:Tab:=(22,FE qGZ qHU (k4 qif)) :: T63
theorem qDe:qao IP T64:=⟨qan qRg,qNQ⟩
abbrev qfN:Type:=List AV × List AV × Int
def qE9:List PSt:=[⟨[(1002100,.junk),(0,.view 1),(1,.view 1),(5,.int .i64)],[],0,0⟩]
def qLL (x0 x1:List AV) (x2:Int):X × St:=(.ret,⟨[(4,.bool false)],[],0,0⟩)
def qLM (x0 x1:List AV) (x2:Int):X × St:=(.exit 0,⟨[(4,.junk)],[],0,0⟩)
def qXj:List (qfN -> X × St):=[(k3 qLL),(k3 qLM)]
def qhk (x0 x1:List AV) (x2:Int):DT (Rd qfN):=
 .br (decide (x2 < (x0.length:Int)))
 (.br (qaQ [.str] x0 x2)
 (.br (qaQ [.str] x1 x2)
 (.br (!strOf (cellAt x0 x2 0) == strOf (cellAt x1 x2 0)) (.at (.done 0)) (.at (.next ((x0,x1,IntKind.i64.wrap (x2 + 1))))))
 (.no))
 (.no))
 (.at (.done 1))
def qxq:qfN -> DT (Rd qfN):=(fun v=>qhk v.1 v.2.1 v.2.2)
def qtP (v:qfN):Option (Nat × qfN):=qa2 (qaw (fun v=>(qxq v).ev) v)
theorem qtQ (v):qtP v = qaw (fun v=>(qxq v).ev) v:=qab _
def qFM:qdA:=LE (τ:=qfN) (hD qE9) (qtP) qXj
theorem qWD:Go.Eng.Told IP (qah F21 0).1 (qah F21 0).2 (qFM):=lp (inferInstance:Inhabited qfN) (hs:=qE9) qxq qDe qtQ
abbrev qMW:Type:=Bool
def qPo:PArgs:=⟨[.view 1,.view 1],[]⟩
def qP9:List PRes:=[⟨false,.bool,[]⟩]
def qsE (x0 x1:List AV):DT qMW:=
 .br ((x0.length:Int) != (x1.length:Int))
 (.at (false))
 (.bi (pj 0 (qtP (x0,x1,0))) (fun y0=>
 .at (false))
 (.bi (pj 1 (qtP (x0,x1,0))) (fun y0=>
 .at (true))
 (.no)))
def qh1 (x0 x1:List AV):Option qMW:=qa2 (qsE x0 x1).ev
theorem qEy (x0 x1):qh1 x0 x1 = (qsE x0 x1).ev:=qab _
theorem qUZ:FH IP 21 qPo qP9 (k2 qh1):=qak (F:=F21) (L:=[(1002100,qFM)]) (t:=(k2 qsE)) qDe (qae (l:=[qah F21 0]) (by kernel_rfl) ⟨qaH (by kernel_rfl) qWD,trivial⟩) (by kernel_rfl) (fun v=>by kernel_rfl) (fun _=>qab _)
def T65:Tab:=(21,FE qPo qP9 (k2 qh1)) :: T64
theorem qNR:qao IP T65:=⟨qan qUZ,qDe⟩
abbrev qvK:Type:=Bool
def qnO:PArgs:=⟨[.agg [.int .i64,.int .i64,.str,.view 4],.agg [.int .i64,.int .i64,.str,.view 4]],[]⟩
def qoa:List PRes:=[⟨false,.bool,[]⟩]
abbrev qcx:Type:=Int -> Int -> (List UInt8) -> (List AV) -> Int -> Int -> (List UInt8) -> (List AV) -> Option qvK
abbrev qQB:Type:=Bool
def qHq:PArgs:=⟨[.view 4,.view 4,.fn (.func 24) []],[]⟩
def qIl:List PRes:=[⟨false,.bool,[]⟩]
abbrev qgC:Type:=(List AV) -> (List AV) -> Option qQB
def qqF (G_u157q:qcx) (G_u1q:qgC):Prop:=FH IP 24 qnO qoa (k8 G_u157q) /\ FH IP 45 qHq qIl (k2 G_u1q)
def qJ4 (G_u157q:qcx) (G_u1q:qgC):Tab:=(24,FE qnO qoa (k8 G_u157q)) :: (45,FE qHq qIl (k2 G_u1q)) :: T65
theorem qh9 (G_u157q:qcx) (G_u1q:qgC) (hG:qqF G_u157q G_u1q):qao IP (qJ4 G_u157q G_u1q):=⟨qan (hG.1),qan (hG.2),qNR⟩
abbrev qiM:Type:=List AV × List AV × Int × Int
def qOH:List PSt:=[⟨[(1004500,.junk),(1,.view 4),(2,.fn (.func 24) []),(15,.view 4),(16,.int .i64),(17,.int .i64)],[],0,0⟩]
def qS2 (x0 x1:List AV) (x2 x3:Int):X × St:=(.ret,⟨[(6,.bool false)],[],0,0⟩)
def qS3 (x0 x1:List AV) (x2 x3:Int):X × St:=(.exit 0,⟨[(6,.junk)],[],0,0⟩)
def q0A:List (qiM -> X × St):=[(k4 qS2),(k4 qS3)]
def qrN (G_u157q:qcx) (G_u1q:qgC) (x0 x1:List AV) (x2 x3:Int):DT (Rd qiM):=
 .br (decide (x3 < x2))
 (.br (qaQ [.int .i64,.int .i64,.str,.slice 4] x1 x3)
 (.br (qaQ [.int .i64,.int .i64,.str,.slice 4] x0 x3)
 (.bi (G_u157q (intOf (cellAt x1 x3 0)) (intOf (cellAt x1 x3 1)) (strOf (cellAt x1 x3 2)) (qai (cellAt x1 x3 3)) (intOf (cellAt x0 x3 0)) (intOf (cellAt x0 x3 1))
 (strOf (cellAt x0 x3 2)) (qai (cellAt x0 x3 3))) (fun y0=>
 .br (!y0) (.at (.done 0)) (.at (.next ((x0,x1,x2,IntKind.i64.wrap (x3 + 1))))))
 (.no))
 (.no))
 (.no))
 (.at (.done 1))
def qvd (G_u157q:qcx) (G_u1q:qgC):qiM -> DT (Rd qiM):=(fun v=>qrN G_u157q G_u1q v.1 v.2.1 v.2.2.1 v.2.2.2)
def qFA (G_u157q:qcx) (G_u1q:qgC) (v:qiM):Option (Nat × qiM):=qa2 (qaw (fun v=>(qvd G_u157q G_u1q v).ev) v)
theorem qyy (G_u157q G_u1q v):qFA G_u157q G_u1q v = qaw (fun v=>(qvd G_u157q G_u1q v).ev) v:=qab _
def qOO (G_u157q:qcx) (G_u1q:qgC):qdA:=LE (τ:=qiM) (hD qOH) (qFA G_u157q G_u1q) q0A
theorem q0p (G_u157q:qcx) (G_u1q:qgC) (hG:qqF G_u157q G_u1q):Go.Eng.Told IP (qah F45 0).1 (qah F45 0).2 (qOO G_u157q G_u1q):=qaF (inferInstance:Inhabited qiM) (hs:=qOH) (st:=qvd G_u157q G_u1q) (L:=[]) (qh9 G_u157q G_u1q hG) (qae (l:=[]) (by kernel_rfl) trivial) (qyy G_u157q G_u1q) (fun v=>by kernel_rfl) (fun v=>by kernel_rfl)
def qlG (G_u157q:qcx) (G_u1q:qgC) (x0 x1:Int) (x2:List UInt8) (x3:List AV) (x4 x5:Int) (x6:List UInt8) (x7:List AV):DT qvK:=
 .bi (br (x0 == x4) (some (x1 == x5)) (some false)) (fun y0=>
 .bi (br y0 (some (x2 == x6)) (some false)) (fun y1=>
 .bi (br y1 (br (sm (G_u1q x3 x7)) (some (gv (G_u1q x3 x7))) none) (some false)) (fun y2=>
 .at (y2))
 (.no))
 (.no))
 (.no)
def qzA (G_u157q:qcx) (G_u1q:qgC) (x0 x1:List AV):DT qQB:=
 .br ((x0.length:Int) != (x1.length:Int))
 (.at (false))
 (.bi (pj 0 (qFA G_u157q G_u1q (x1,x0,(x0.length:Int),0))) (fun y0=>
 .at (false))
 (.bi (pj 1 (qFA G_u157q G_u1q (x1,x0,(x0.length:Int),0))) (fun y0=>
 .at (true))
 (.no)))
def qa9:Nat -> qcx × qgC
 | 0=>(fun _ _ _ _ _ _ _ _=>none,fun _ _=>none)
 | n + 1=>(fun x0 x1 x2 x3 x4 x5 x6 x7=>(qlG ((qa9 n).1) ((qa9 n).2) x0 x1 x2 x3 x4 x5 x6 x7).ev,fun x0 x1=>(qzA ((qa9 n).1) ((qa9 n).2) x0 x1).ev)
def qcD (x0 x1:Int) (x2:List UInt8) (x3:List AV) (x4 x5:Int) (x6:List UInt8) (x7:List AV):Option qvK:=qfI fun n=>(qa9 n).1 x0 x1 x2 x3 x4 x5 x6 x7
def qVs (x0 x1:List AV):Option qQB:=qfI fun n=>(qa9 n).2 x0 x1
theorem qjK:∀ n,qqF ((qa9 n).1) ((qa9 n).2)
 | 0=>⟨(fun v y h=>nomatch h),(fun v y h=>nomatch h)⟩
 | n + 1=>have hG:=qjK n
 ⟨qak (F:=F24) (L:=[]) (t:=(k8 (qlG ((qa9 n).1) ((qa9 n).2)))) (qh9 ((qa9 n).1) ((qa9 n).2) hG) (qae (l:=[]) (by kernel_rfl) trivial) (by kernel_rfl) (fun v=>by kernel_rfl) (fun v=>rfl),qak (F:=F45) (L:=[(1004500,qOO ((qa9 n).1) ((qa9 n).2))]) (t:=(k2 (qzA ((qa9 n).1) ((qa9 n).2)))) (qh9 ((qa9 n).1) ((qa9 n).2) hG) (qae (l:=[qah F45 0]) (by kernel_rfl) ⟨qaH (by kernel_rfl) (q0p ((qa9 n).1) ((qa9 n).2) hG),trivial⟩) (by kernel_rfl) (fun v=>by kernel_rfl) (fun v=>rfl)⟩
theorem qRD:FH IP 24 qnO qoa (k8 qcD):=qbk (p:=qnO) (rs:=qoa) (s:=fun n=>(k8 ((qa9 n).1))) fun n=>(qjK n).1
theorem qYP:FH IP 45 qHq qIl (k2 qVs):=qbk (p:=qHq) (rs:=qIl) (s:=fun n=>(k2 ((qa9 n).2))) fun n=>(qjK n).2
def T66:Tab:=(24,FE qnO qoa (k8 qcD)) :: T65
theorem qT6:qao IP T66:=⟨qan qRD,qNR⟩
def T67:Tab:=(45,FE qHq qIl (k2 qVs)) :: T66
theorem qNS:qao IP T67:=⟨qan qYP,qT6⟩
abbrev qCl:Type:=Bool
def qHd:PArgs:=⟨[],[]⟩
def qH8:List PRes:=[⟨false,.bool,[]⟩]
def qlJ:DT qCl:=
 .bi (qcq [97]) (fun y0=>
 .bi (qcq [98]) (fun y1=>
 .bi (qjW 5
 [AV.agg [.int .i64 y0.1,.int .i64 y0.2.1,AV.str y0.2.2.1,AV.view 4 y0.2.2.2],
 AV.agg [.int .i64 y1.1,.int .i64 y1.2.1,AV.str y1.2.2.1,AV.view 4 y1.2.2.2]]) (fun y2=>
 .bi (qcq [99]) (fun y3=>
 .bi (qjW 7
 [AV.agg [.int .i64 y2.1,.int .i64 y2.2.1,AV.str y2.2.2.1,AV.view 4 y2.2.2.2],
 AV.agg [.int .i64 y3.1,.int .i64 y3.2.1,AV.str y3.2.2.1,AV.view 4 y3.2.2.2]]) (fun y4=>
 .bi (qf8 y4.1 y4.2.1 y4.2.2.1 y4.2.2.2) (fun y5=>
 .bi (br (y5.2 != 0) (some true) (some ((y5.1.length:Int) != 7))) (fun y6=>
 .bi (br y6 (some true) (br (qaQ [.int .i64,.int .i64,.str] y5.1 0) (some !strOf (cellAt y5.1 0 2) == [40]) none)) (fun y7=>
 .bi (br y7 (some true) (br (qaQ [.int .i64,.int .i64,.str] y5.1 4) (some !strOf (cellAt y5.1 4 2) == [41]) none)) (fun y8=>
 .br (y8)
 (.at (false))
 (.br (Tk.paB IP 10 y5.1 0)
 (.br (Decidable.rec (fun h=>(fun x=>false) h) (fun h=>(fun x=>true) h) (Int.decLe 3 (y5.1.length:Int)) && leB 1 3)
 (.br (Tk.paB IP 10 (List.take 2 (List.drop 1 y5.1)) 0)
 (.br (Tk.paB IP 10 y5.1 1)
 (.bi (br (Tk.paE IP 10 y5.1 0 == 0) (some (Tk.paK IP 10 y5.1 0 == 7)) (some false)) (fun y9=>
 .bi (br y9
 (br (sm (qaJ y4.1 y4.2.1 y4.2.2.1 y4.2.2.2 (Tk.paO IP 10 y5.1 0) (Tk.paN IP 10 y5.1 0) (Tk.paS IP 10 y5.1 0) (Tk.paX IP 10 y5.1 0)))
 (some (gv (qaJ y4.1 y4.2.1 y4.2.2.1 y4.2.2.2 (Tk.paO IP 10 y5.1 0) (Tk.paN IP 10 y5.1 0) (Tk.paS IP 10 y5.1 0) (Tk.paX IP 10 y5.1 0)))) none)
 (some false)) (fun y10=>
 .bi (br y10 (some (Tk.paE IP 10 (List.take 2 (List.drop 1 y5.1)) 0 == 2)) (some false)) (fun y11=>
 .bi (br y11 (some (Tk.paK IP 10 (List.take 2 (List.drop 1 y5.1)) 0 == 2)) (some false)) (fun y12=>
 .bi (br y12 (some (Tk.paE IP 10 y5.1 1 == 0)) (some false)) (fun y13=>
 .bi (br y13 (some (Tk.paK IP 10 y5.1 1 == 4)) (some false)) (fun y14=>
 .bi (br y14 (some (Tk.paO IP 10 y5.1 1 == 5)) (some false)) (fun y15=>
 .bi (br y15 (br (sm (qe9 y4.1 y4.2.1 y4.2.2.1 y4.2.2.2)) (some (gv (qe9 y4.1 y4.2.1 y4.2.2.1 y4.2.2.2) == 5)) none) (some false)) (fun y16=>
 .br (y16)
 (.bi (qif y4.1 y4.2.1 y4.2.2.1 y4.2.2.2) (fun y17=>
 .bi (br (sm (qh1 y17 [AV.str [97],AV.str [98],AV.str [99]])) (some (gv (qh1 y17 [AV.str [97],AV.str [98],AV.str [99]]))) none) (fun y18=>
 .bi (br y18
 (br (sm (qcq [109,105,110]))
 (br
 (sm
 (qeT (gv (qcq [109,105,110])).1 (gv (qcq [109,105,110])).2.1 (gv (qcq [109,105,110])).2.2.1
 (gv (qcq [109,105,110])).2.2.2))
 (some
 (gv
 (qeT (gv (qcq [109,105,110])).1 (gv (qcq [109,105,110])).2.1 (gv (qcq [109,105,110])).2.2.1
 (gv (qcq [109,105,110])).2.2.2) ==
 4))
 none)
 none)
 (some false)) (fun y19=>
 .bi (br y19
 (br (sm (qcD y4.1 y4.2.1 y4.2.2.1 y4.2.2.2 (Tk.paO IP 10 y5.1 0) (Tk.paN IP 10 y5.1 0) (Tk.paS IP 10 y5.1 0) (Tk.paX IP 10 y5.1 0)))
 (some (gv (qcD y4.1 y4.2.1 y4.2.2.1 y4.2.2.2 (Tk.paO IP 10 y5.1 0) (Tk.paN IP 10 y5.1 0) (Tk.paS IP 10 y5.1 0) (Tk.paX IP 10 y5.1 0)))) none)
 (some false)) (fun y20=>
 .bi (br y20
 (br (sm (qcD y4.1 y4.2.1 y4.2.2.1 y4.2.2.2 (Tk.paO IP 10 y5.1 1) (Tk.paN IP 10 y5.1 1) (Tk.paS IP 10 y5.1 1) (Tk.paX IP 10 y5.1 1)))
 (some !gv (qcD y4.1 y4.2.1 y4.2.2.1 y4.2.2.2 (Tk.paO IP 10 y5.1 1) (Tk.paN IP 10 y5.1 1) (Tk.paS IP 10 y5.1 1) (Tk.paX IP 10 y5.1 1))) none)
 (some false)) (fun y21=>
 .at (y21))
 (.no))
 (.no))
 (.no))
 (.no))
 (.no))
 (.at (false)))
 (.no))
 (.no))
 (.no))
 (.no))
 (.no))
 (.no))
 (.no))
 (.no))
 (.no))
 (.no))
 (.no))
 (.no)))
 (.no))
 (.no))
 (.no))
 (.no))
 (.no))
 (.no))
 (.no))
 (.no))
 (.no)
def qbp:Option qCl:=qa2 (qlJ).ev
theorem qAt:qbp = (qlJ).ev:=qab _
theorem qRG:FH IP 9 qHd qH8 (fun _=>qbp):=qak (F:=F9) (L:=[]) (t:=(fun _=>qlJ)) qNS (qae (l:=[]) (by kernel_rfl) trivial) (by kernel_rfl) (fun v=>by kernel_rfl) (fun _=>qab _)
def T68:Tab:=(9,FE qHd qH8 (fun _=>qbp)) :: T67
theorem qNT:qao IP T68:=⟨qan qRG,qNS⟩
abbrev qCx:Type:=Bool
def qHp:PArgs:=⟨[.view 3,.int .i64,.int .i64,.str],[]⟩
def qIk:List PRes:=[⟨false,.bool,[]⟩]
def qlU (x0:List AV) (x1 x2:Int) (x3:List UInt8):DT qCx:=
 .bi (br (decide (x1 < (x0.length:Int))) (br (qaQ [.int .i64,.int .i64,.str] x0 x1) (some (intOf (cellAt x0 x1 0) == x2)) none) (some false)) (fun y0=>
 .bi (br y0 (br (qaQ [.int .i64,.int .i64,.str] x0 x1) (some (strOf (cellAt x0 x1 2) == x3)) none) (some false)) (fun y1=>
 .at (y1))
 (.no))
 (.no)
def qa3 (x0:List AV) (x1 x2:Int) (x3:List UInt8):Option qCx:=qa2 (qlU x0 x1 x2 x3).ev
theorem qAD (x0 x1 x2 x3):qa3 x0 x1 x2 x3 = (qlU x0 x1 x2 x3).ev:=qab _
theorem qRT:FH IP 49 qHp qIk (k4 qa3):=fh F49 (k4 qlU) qNT
def T69:Tab:=(49,FE qHp qIk (k4 qa3)) :: T68
theorem qDf:qao IP T69:=⟨qan qRT,qNT⟩
abbrev qfV:Type:=List UInt8 × Int
def qFi:List PSt:=[⟨[(1012900,.junk),(0,.str),(3,.int .i64)],[],0,0⟩]
def qL3 (x0:List UInt8) (x1:Int):X × St:=(.ret,⟨[(0,.str x0),(2,.bool false)],[],0,0⟩)
def qL4 (x0:List UInt8) (x1:Int):X × St:=(.exit 0,⟨[(0,.str x0),(2,.junk)],[],0,0⟩)
def qXs:List (qfV -> X × St):=[(k2 qL3),(k2 qL4)]
def qoA (x0:List UInt8) (x1:Int):DT (Rd qfV):=
 .br (decide (x1 < (x0.length:Int)))
 (.br (inB x0.length x1)
 (.bi (br (decide (qaA x0 x1 < 48)) (some true) (br (inB x0.length x1) (some (decide (qaA x0 x1 > 57))) none)) (fun y0=>
 .br (y0) (.at (.done 0)) (.at (.next ((x0,IntKind.i64.wrap (x1 + 1))))))
 (.no))
 (.no))
 (.at (.done 1))
def qoz:qfV -> DT (Rd qfV):=(fun v=>qoA v.1 v.2)
def qtZ (v:qfV):Option (Nat × qfV):=qa2 (qaw (fun v=>(qoz v).ev) v)
theorem qt3 (v):qtZ v = qaw (fun v=>(qoz v).ev) v:=qab _
def qFV:qdA:=LE (τ:=qfV) (hD qFi) (qtZ) qXs
theorem qWM:Go.Eng.Told IP (qah qTw 0).1 (qah qTw 0).2 (qFV):=lp (inferInstance:Inhabited qfV) (hs:=qFi) qoz qDf qt3
abbrev qNe:Type:=Bool
def qPG:PArgs:=⟨[.str],[]⟩
def qQr:List PRes:=[⟨false,.bool,[]⟩]
def qsX (x0:List UInt8):DT qNe:=
 .bi (pj 0 (qtZ (x0,0))) (fun y0=>
 .at (false))
 (.bi (pj 1 (qtZ (x0,0))) (fun y0=>
 .bi (br (y0.1 == [48]) (some true) (br (decide ((y0.1.length:Int) > 0)) (br (inB y0.1.length 0) (some (qaA y0.1 0 != 48)) none) (some false))) (fun y1=>
 .at (y1))
 (.no))
 (.no))
def qpE (x0:List UInt8):Option qNe:=qa2 (qsX x0).ev
theorem qEQ (x0):qpE x0 = (qsX x0).ev:=qab _
theorem qVj:FH IP 129 qPG qQr qpE:=qak (F:=qTw) (L:=[(1012900,qFV)]) (t:=qsX) qDf (qae (l:=[qah qTw 0]) (by kernel_rfl) ⟨qaH (by kernel_rfl) qWM,trivial⟩) (by kernel_rfl) (fun v=>by kernel_rfl) (fun _=>qab _)
def T70:Tab:=(129,FE qPG qQr qpE) :: T69
theorem qDg:qao IP T70:=⟨qan qVj,qDf⟩
abbrev qfW:Type:=Bool × List UInt8 × Int × Int × Int
def qFj:List PSt:=[⟨[(1010400,.junk),(4,.bool),(5,.str),(6,.int .u64),(7,.int .u64),(8,.int .i64)],[],0,0⟩]
def qL5 (x0:Bool) (x1:List UInt8) (x2 x3 x4:Int):X × St:=(.ret,⟨[(2,.int .i64 0),(3,.int .i64 6),(4,.bool x0),(7,.int .u64 x3)],[],0,0⟩)
def qL6 (x0:Bool) (x1:List UInt8) (x2 x3 x4:Int):X × St:=(.exit 0,⟨[(2,.junk),(3,.junk),(4,.bool x0),(7,.int .u64 x3)],[],0,0⟩)
def qXt:List (qfW -> X × St):=[(k5 qL5),(k5 qL6)]
def qhm (x0:Bool) (x1:List UInt8) (x2 x3 x4:Int):DT (Rd qfW):=
 .br (decide (x4 < (x1.length:Int)))
 (.br (inB x1.length x4)
 (.br (decide (x3 > IntKind.u64.wrap ((IntKind.u64.wrap (x2 - IntKind.u64.wrap (IntKind.u8.wrap (qaA x1 x4 - 48)))).tdiv 10)))
 (.at (.done 0))
 (.at (.next ((x0,x1,x2,IntKind.u64.wrap (IntKind.u64.wrap (x3 * 10) + IntKind.u64.wrap (IntKind.u8.wrap (qaA x1 x4 - 48))),IntKind.i64.wrap (x4 + 1))))))
 (.no))
 (.at (.done 1))
def qoB:qfW -> DT (Rd qfW):=(fun v=>qhm v.1 v.2.1 v.2.2.1 v.2.2.2.1 v.2.2.2.2)
def qeu (v:qfW):Option (Nat × qfW):=qa2 (qaw (fun v=>(qoB v).ev) v)
theorem qi4 (v):qeu v = qaw (fun v=>(qoB v).ev) v:=qab _
def qFW:qdA:=LE (τ:=qfW) (hD qFj) (qeu) qXt
theorem qWN:Go.Eng.Told IP (qah qTo 0).1 (qah qTo 0).2 (qFW):=lp (inferInstance:Inhabited qfW) (hs:=qFj) qoB qDg qi4
abbrev qkI:Type:=Int × Int
def qPH:PArgs:=⟨[.str],[]⟩
def qQs:List PRes:=[⟨false,.tup [.int .i64,.int .i64],[]⟩]
def qsY (x0:List UInt8):DT qkI:=
 .bi (br (decide ((x0.length:Int) > 0)) (br (inB x0.length 0) (some (qaA x0 0 == 45)) none) (some false)) (fun y0=>
 .br (y0)
 (.br (leB 1 x0.length)
 (.bi (qpE (List.drop 1 x0)) (fun y1=>
 .bi (br (!y1) (some true) (br y0 (some (List.drop 1 x0 == [48])) (some false))) (fun y2=>
 .br (y2)
 (.at ((0,2)))
 (.br (y0)
 (.bi (pj 0 (qeu (y0,List.drop 1 x0,9223372036854775808,0,0))) (fun y3=>
 .at ((0,6)))
 (.bi (pj 1 (qeu (y0,List.drop 1 x0,9223372036854775808,0,0))) (fun y3=>
 .br (y3.1) (.at ((IntKind.i64.wrap (IntKind.u64.wrap (IntKind.u64.wrap (-1 - y3.2.2.2.1) + 1)),0))) (.at ((IntKind.i64.wrap y3.2.2.2.1,0))))
 (.no)))
 (.bi (pj 0 (qeu (y0,List.drop 1 x0,9223372036854775807,0,0))) (fun y3=>
 .at ((0,6)))
 (.bi (pj 1 (qeu (y0,List.drop 1 x0,9223372036854775807,0,0))) (fun y3=>
 .br (y3.1) (.at ((IntKind.i64.wrap (IntKind.u64.wrap (IntKind.u64.wrap (-1 - y3.2.2.2.1) + 1)),0))) (.at ((IntKind.i64.wrap y3.2.2.2.1,0))))
 (.no)))))
 (.no))
 (.no))
 (.no))
 (.bi (qpE x0) (fun y1=>
 .bi (br (!y1) (some true) (br y0 (some (x0 == [48])) (some false))) (fun y2=>
 .br (y2)
 (.at ((0,2)))
 (.br (y0)
 (.bi (pj 0 (qeu (y0,x0,9223372036854775808,0,0))) (fun y3=>
 .at ((0,6)))
 (.bi (pj 1 (qeu (y0,x0,9223372036854775808,0,0))) (fun y3=>
 .br (y3.1) (.at ((IntKind.i64.wrap (IntKind.u64.wrap (IntKind.u64.wrap (-1 - y3.2.2.2.1) + 1)),0))) (.at ((IntKind.i64.wrap y3.2.2.2.1,0))))
 (.no)))
 (.bi (pj 0 (qeu (y0,x0,9223372036854775807,0,0))) (fun y3=>
 .at ((0,6)))
 (.bi (pj 1 (qeu (y0,x0,9223372036854775807,0,0))) (fun y3=>
 .br (y3.1) (.at ((IntKind.i64.wrap (IntKind.u64.wrap (IntKind.u64.wrap (-1 - y3.2.2.2.1) + 1)),0))) (.at ((IntKind.i64.wrap y3.2.2.2.1,0))))
 (.no)))))
 (.no))
 (.no)))
 (.no)
def qtC (x0:List UInt8):Option qkI:=qa2 (qsY x0).ev
theorem qER (x0):qtC x0 = (qsY x0).ev:=qab _
theorem qVk:FH IP 104 qPH qQs qtC:=qak (F:=qTo) (L:=[(1010400,qFW)]) (t:=qsY) qDg (qae (l:=[qah qTo 0]) (by kernel_rfl) ⟨qaH (by kernel_rfl) qWN,trivial⟩) (by kernel_rfl) (fun v=>by kernel_rfl) (fun _=>qab _)
def T71:Tab:=(104,FE qPH qQs qtC) :: T70
theorem qNU:qao IP T71:=⟨qan qVk,qDg⟩
abbrev qB3:Type:=Int × Bool
def qGV:PArgs:=⟨[.view 3,.int .i64],[]⟩
def qHQ:List PRes:=[⟨false,.tup [.int .i64,.bool],[]⟩]
def qlq (x0:List AV) (x1:Int):DT qB3:=
 .bi (br (decide (x1 >= (x0.length:Int))) (some true) (br (qaQ [.int .i64,.int .i64,.str] x0 x1) (some (intOf (cellAt x0 x1 0) != 2)) none)) (fun y0=>
 .br (y0)
 (.at ((0,false)))
 (.br (qaQ [.int .i64,.int .i64,.str] x0 x1)
 (.bi (qtC (strOf (cellAt x0 x1 2))) (fun y1=>
 .bi (br (y1.2 == 0) (some (decide (y1.1 >= 0))) (some false)) (fun y2=>
 .at ((y1.1,y2)))
 (.no))
 (.no))
 (.no)))
 (.no)
def qgT (x0:List AV) (x1:Int):Option qB3:=qa2 (qlq x0 x1).ev
theorem qAc (x0 x1):qgT x0 x1 = (qlq x0 x1).ev:=qab _
theorem qRb:FH IP 81 qGV qHQ (k2 qgT):=fh F81 (k2 qlq) qNU
def T72:Tab:=(81,FE qGV qHQ (k2 qgT)) :: T71
theorem qNV:qao IP T72:=⟨qan qRb,qNU⟩
abbrev qCe:Type:=Bool
def qG6:PArgs:=⟨[.int .u8],[]⟩
def qH1:List PRes:=[⟨false,.bool,[]⟩]
def qlB (x0:Int):DT qCe:=
 .bi (br (decide (x0 >= 48)) (some (decide (x0 <= 57))) (some false)) (fun y0=>
 .at (y0))
 (.no)
def qgW (x0:Int):Option qCe:=qa2 (qlB x0).ev
theorem qAm (x0):qgW x0 = (qlB x0).ev:=qab _
theorem qRr:FH IP 107 qG6 qH1 qgW:=fh qX8 qlB qNV
def T73:Tab:=(107,FE qG6 qH1 qgW) :: T72
theorem qDh:qao IP T73:=⟨qan qRr,qNV⟩
abbrev qdS:Type:=List UInt8 × Int
def qye:List PSt:=[⟨[(1010600,.junk),(0,.str),(3,.int .i64)],[],0,0⟩]
def qJe (x0:List UInt8) (x1:Int):X × St:=(.exit 0,⟨[(0,.str x0),(3,.int .i64 x1)],[],0,0⟩)
def qS4:List (qdS -> X × St):=[(k2 qJe)]
def qkl (x0:List UInt8) (x1:Int):DT (Rd qdS):=
 .bi (br (decide (x1 < (x0.length:Int))) (br (inB x0.length x1) (br (sm (qgW (qaA x0 x1))) (some (gv (qgW (qaA x0 x1)))) none) none) (some false)) (fun y0=>
 .br (y0) (.at (.next ((x0,IntKind.i64.wrap (x1 + 1))))) (.at (.done 0)))
 (.no)
def qjk:qdS -> DT (Rd qdS):=(fun v=>qkl v.1 v.2)
def qrc (v:qdS):Option (Nat × qdS):=qa2 (qaw (fun v=>(qjk v).ev) v)
theorem qpO (v):qrc v = qaw (fun v=>(qjk v).ev) v:=qab _
def qyO:qdA:=LE (τ:=qdS) (hD qye) (qrc) qS4
theorem qSK:Go.Eng.Told IP (qah qTq 0).1 (qah qTq 0).2 (qyO):=lp (inferInstance:Inhabited qdS) (hs:=qye) qjk qDh qpO
abbrev qCf:Type:=Int
def qG7:PArgs:=⟨[.str],[]⟩
def qH2:List PRes:=[⟨false,.int .i64,[]⟩]
def qlC (x0:List UInt8):DT qCf:=
 .bi (pj 0 (qrc (x0,0))) (fun y0=>
 .bi (br (decide (y0.2 > 1)) (br (inB y0.1.length 0) (some (qaA y0.1 0 == 48)) none) (some false)) (fun y1=>
 .br (y1) (.at (0)) (.at (y0.2)))
 (.no))
 (.no)
def qjU (x0:List UInt8):Option qCf:=qa2 (qlC x0).ev
theorem qAn (x0):qjU x0 = (qlC x0).ev:=qab _
theorem qRs:FH IP 106 qG7 qH2 qjU:=qak (F:=qTq) (L:=[(1010600,qyO)]) (t:=qlC) qDh (qae (l:=[qah qTq 0]) (by kernel_rfl) ⟨qaH (by kernel_rfl) qSK,trivial⟩) (by kernel_rfl) (fun v=>by kernel_rfl) (fun _=>qab _)
def T74:Tab:=(106,FE qG7 qH2 qjU) :: T73
theorem qDi:qao IP T74:=⟨qan qRs,qDh⟩
abbrev qd3:Type:=List UInt8 × Int
def qys:List PSt:=[⟨[(1010500,.junk),(0,.str),(4,.int .i64)],[],0,0⟩]
def qJH (x0:List UInt8) (x1:Int):X × St:=(.ret,⟨[(2,.bool false)],[],0,0⟩)
def qJI (x0:List UInt8) (x1:Int):X × St:=(.exit 0,⟨[(2,.junk)],[],0,0⟩)
def qTi:List (qd3 -> X × St):=[(k2 qJH),(k2 qJI)]
def qkx (x0:List UInt8) (x1:Int):DT (Rd qd3):=
 .br (decide (x1 < (x0.length:Int)))
 (.br (inB x0.length x1)
 (.bi (qgW (qaA x0 x1)) (fun y0=>
 .br (!y0) (.at (.done 0)) (.at (.next ((x0,IntKind.i64.wrap (x1 + 1))))))
 (.no))
 (.no))
 (.at (.done 1))
def qgu:qd3 -> DT (Rd qd3):=(fun v=>qkx v.1 v.2)
def qj9 (v:qd3):Option (Nat × qd3):=qa2 (qaw (fun v=>(qgu v).ev) v)
theorem qpV (v):qj9 v = qaw (fun v=>(qgu v).ev) v:=qab _
def qy1:qdA:=LE (τ:=qd3) (hD qys) (qj9) qTi
theorem qSX:Go.Eng.Told IP (qah qTp 0).1 (qah qTp 0).2 (qy1):=lp (inferInstance:Inhabited qd3) (hs:=qys) qgu qDi qpV
abbrev qCq:Type:=Bool
def qHi:PArgs:=⟨[.str],[]⟩
def qId:List PRes:=[⟨false,.bool,[]⟩]
def qlN (x0:List UInt8):DT qCq:=
 .bi (qjU x0) (fun y0=>
 .bi (br (y0 == 0) (some true) (br (inB x0.length (IntKind.i64.wrap ((x0.length:Int) - 1))) (some (qaA x0 (IntKind.i64.wrap ((x0.length:Int) - 1)) != 37)) none)) (fun y1=>
 .br (y1)
 (.at (false))
 (.br (leB (IntKind.i64.wrap ((x0.length:Int) - 1)) x0.length && leB y0 (IntKind.i64.wrap ((x0.length:Int) - 1)).toNat)
 (.br (List.take ((IntKind.i64.wrap ((x0.length:Int) - 1)).toNat - y0.toNat) (List.drop y0.toNat x0) == [])
 (.at (true))
 (.bi (br (decide (((List.take ((IntKind.i64.wrap ((x0.length:Int) - 1)).toNat - y0.toNat) (List.drop y0.toNat x0)).length:Int) < 2)) (some true)
 (some (decide (((List.take ((IntKind.i64.wrap ((x0.length:Int) - 1)).toNat - y0.toNat) (List.drop y0.toNat x0)).length:Int) > 5)))) (fun y2=>
 .bi (br y2 (some true)
 (br (inB (List.take ((IntKind.i64.wrap ((x0.length:Int) - 1)).toNat - y0.toNat) (List.drop y0.toNat x0)).length 0)
 (some (qaA (List.take ((IntKind.i64.wrap ((x0.length:Int) - 1)).toNat - y0.toNat) (List.drop y0.toNat x0)) 0 != 46)) none)) (fun y3=>
 .bi (br y3 (some true)
 (br
 (inB (List.take ((IntKind.i64.wrap ((x0.length:Int) - 1)).toNat - y0.toNat) (List.drop y0.toNat x0)).length
 (IntKind.i64.wrap (((List.take ((IntKind.i64.wrap ((x0.length:Int) - 1)).toNat - y0.toNat) (List.drop y0.toNat x0)).length:Int) - 1)))
 (some
 (qaA (List.take ((IntKind.i64.wrap ((x0.length:Int) - 1)).toNat - y0.toNat) (List.drop y0.toNat x0))
 (IntKind.i64.wrap (((List.take ((IntKind.i64.wrap ((x0.length:Int) - 1)).toNat - y0.toNat) (List.drop y0.toNat x0)).length:Int) - 1)) ==
 48))
 none)) (fun y4=>
 .br (y4)
 (.at (false))
 (.bi (pj 0 (qj9 (List.take ((IntKind.i64.wrap ((x0.length:Int) - 1)).toNat - y0.toNat) (List.drop y0.toNat x0),1))) (fun y5=>
 .at (false))
 (.bi (pj 1 (qj9 (List.take ((IntKind.i64.wrap ((x0.length:Int) - 1)).toNat - y0.toNat) (List.drop y0.toNat x0),1))) (fun y5=>
 .at (true))
 (.no))))
 (.no))
 (.no))
 (.no)))
 (.no)))
 (.no))
 (.no)
def qmL (x0:List UInt8):Option qCq:=qa2 (qlN x0).ev
theorem qAx (x0):qmL x0 = (qlN x0).ev:=qab _
theorem qRL:FH IP 105 qHi qId qmL:=qak (F:=qTp) (L:=[(1010500,qy1)]) (t:=qlN) qDi (qae (l:=[qah qTp 0]) (by kernel_rfl) ⟨qaH (by kernel_rfl) qSX,trivial⟩) (by kernel_rfl) (fun v=>by kernel_rfl) (fun _=>qab _)
def T75:Tab:=(105,FE qHi qId qmL) :: T74
theorem qxO:qao IP T75:=⟨qan qRL,qDi⟩
abbrev qd0:Type:=List UInt8 × Int × Int × Int × Int
def qyp:List PSt:=[⟨[(1008300,.junk),(0,.str),(4,.int .i64),(5,.int .i64),(6,.int .i64),(7,.int .i64)],[],0,0⟩]
def qJC (x0:List UInt8) (x1 x2:Int) (x3 x4:Int):X × St:=(.ret,
 ⟨[(2,.int .i64 0),(3,.int .i64 1),
 (5,.int .i64 (IntKind.i64.wrap (IntKind.i64.wrap (10 * x2) + IntKind.i64.wrap (IntKind.u8.wrap (qaA x0 x4 - 48))))),(6,.int .i64 x3)],[],0,0⟩)
def qJD (x0:List UInt8) (x1 x2:Int) (x3 x4:Int):X × St:=(.exit 0,⟨[(2,.junk),(3,.junk),(5,.int .i64 x2),(6,.int .i64 x3)],[],0,0⟩)
def qTf:List (qd0 -> X × St):=[(k5 qJC),(k5 qJD)]
def qkv (x0:List UInt8) (x1 x2:Int) (x3 x4:Int):DT (Rd qd0):=
 .br (decide (x4 < IntKind.i64.wrap ((x0.length:Int) - 1)))
 (.br (inB x0.length x4)
 (.bi (qgW (qaA x0 x4)) (fun y0=>
 .br (y0)
 (.br (inB x0.length x4)
 (.br (decide (IntKind.i64.wrap (IntKind.i64.wrap (10 * x2) + IntKind.i64.wrap (IntKind.u8.wrap (qaA x0 x4 - 48))) > 1000000))
 (.at (.done 0))
 (.br (decide (x4 > x1))
 (.at (.next ((x0,x1,IntKind.i64.wrap (IntKind.i64.wrap (10 * x2) + IntKind.i64.wrap (IntKind.u8.wrap (qaA x0 x4 - 48))),IntKind.i64.wrap (x3 + 1),IntKind.i64.wrap (x4 + 1)))))
 (.at (.next ((x0,x1,IntKind.i64.wrap (IntKind.i64.wrap (10 * x2) + IntKind.i64.wrap (IntKind.u8.wrap (qaA x0 x4 - 48))),x3,IntKind.i64.wrap (x4 + 1)))))))
 (.no))
 (.at (.next ((x0,x1,x2,x3,IntKind.i64.wrap (x4 + 1))))))
 (.no))
 (.no))
 (.at (.done 1))
def qhP:qd0 -> DT (Rd qd0):=(fun v=>qkv v.1 v.2.1 v.2.2.1 v.2.2.2.1 v.2.2.2.2)
def qg2 (v:qd0):Option (Nat × qd0):=qa2 (qaw (fun v=>(qhP v).ev) v)
theorem qfv (v):qg2 v = qaw (fun v=>(qhP v).ev) v:=qab _
def qyY:qdA:=LE (τ:=qd0) (hD qyp) (qg2) qTf
theorem qSU:Go.Eng.Told IP (qah F83 0).1 (qah F83 0).2 (qyY):=lp (inferInstance:Inhabited qd0) (hs:=qyp) qhP qxO qfv
abbrev qd1:Type:=Int × Int
def qyq:List PSt:=[⟨[(1008301,.junk),(5,.int .i64),(6,.int .i64)],[],0,0⟩]
def qJE (x0 x1:Int):X × St:=(.exit 2,⟨[(5,.int .i64 x0)],[],0,0⟩)
def qTg:List (qd1 -> X × St):=[(k2 qJE)]
def qkw (x0 x1:Int):DT (Rd qd1):=
 .br (decide (x1 < 4)) (.at (.next ((IntKind.i64.wrap (10 * x0),IntKind.i64.wrap (x1 + 1))))) (.at (.done 0))
def qjr:qd1 -> DT (Rd qd1):=(fun v=>qkw v.1 v.2)
def qrf (v:qd1):Option (Nat × qd1):=qa2 (qaw (fun v=>(qjr v).ev) v)
theorem qhD (v):qrf v = qaw (fun v=>(qjr v).ev) v:=qab _
def qyZ:qdA:=LE (τ:=qd1) (hD qyq) (qrf) qTg
theorem qSV:Go.Eng.Told IP (qah F83 1).1 (qah F83 1).2 (qyZ):=lp (inferInstance:Inhabited qd1) (hs:=qyq) qjr qxO qhD
abbrev qCo:Type:=Int × Int
def qHg:PArgs:=⟨[.str],[]⟩
def qIb:List PRes:=[⟨false,.tup [.int .i64,.int .i64],[]⟩]
def qlM (x0:List UInt8):DT qCo:=
 .bi (qmL x0) (fun y0=>
 .br (!y0)
 (.at ((0,2)))
 (.bi (qjU x0) (fun y1=>
 .bi (pj 0 (qg2 (x0,y1,0,0,0))) (fun y2=>
 .at ((0,1)))
 (.bi (pj 1 (qg2 (x0,y1,0,0,0))) (fun y2=>
 .bi (pj 0 (qrf (y2.2.2.1,y2.2.2.2.1))) (fun y3=>
 .br (decide (y3.1 > 1000000)) (.at ((0,1))) (.at ((y3.1,0))))
 (.no))
 (.no)))
 (.no)))
 (.no)
def qmJ (x0:List UInt8):Option qCo:=qa2 (qlM x0).ev
theorem qAw (x0):qmJ x0 = (qlM x0).ev:=qab _
theorem qRJ:FH IP 83 qHg qIb qmJ:=qak (F:=F83) (L:=[(1008300,qyY),(1008301,qyZ)]) (t:=qlM) qxO (qae (l:=[qah F83 0,qah F83 1]) (by kernel_rfl) ⟨qaH (by kernel_rfl) qSU,qaH (by kernel_rfl) qSV,trivial⟩) (by kernel_rfl) (fun v=>by kernel_rfl) (fun _=>qab _)
def T76:Tab:=(83,FE qHg qIb qmJ) :: T75
theorem qNW:qao IP T76:=⟨qan qRJ,qxO⟩
abbrev qCr:Type:=Int
def qHj:PArgs:=⟨[.int .i64],[]⟩
def qIe:List PRes:=[⟨false,.int .i64,[]⟩]
def qgy (x0:Int):DT qCr:=
 .br (x0 == 19)
 (.at (0))
 (.br (x0 == 15)
 (.at (1))
 (.br (x0 == 14)
 (.at (2))
 (.br (x0 == 16)
 (.at (3))
 (.br (x0 == 10)
 (.br (x0 == 10)
 (.at (4))
 (.br (x0 == 5)
 (.br (x0 == 5)
 (.at (5))
 (.br (x0 == 7)
 (.br (x0 == 7)
 (.at (6))
 (.br (x0 == 9) (.at (7)) (.at (8))))
 (.br (x0 == 8)
 (.at (6))
 (.br (x0 == 9) (.at (7)) (.at (8))))))
 (.br (x0 == 6)
 (.at (5))
 (.br (x0 == 7)
 (.br (x0 == 7)
 (.at (6))
 (.br (x0 == 9) (.at (7)) (.at (8))))
 (.br (x0 == 8)
 (.at (6))
 (.br (x0 == 9) (.at (7)) (.at (8))))))))
 (.br (x0 == 11)
 (.br (x0 == 11)
 (.at (4))
 (.br (x0 == 5)
 (.br (x0 == 5)
 (.at (5))
 (.br (x0 == 7)
 (.br (x0 == 7)
 (.at (6))
 (.br (x0 == 9) (.at (7)) (.at (8))))
 (.br (x0 == 8)
 (.at (6))
 (.br (x0 == 9) (.at (7)) (.at (8))))))
 (.br (x0 == 6)
 (.at (5))
 (.br (x0 == 7)
 (.br (x0 == 7)
 (.at (6))
 (.br (x0 == 9) (.at (7)) (.at (8))))
 (.br (x0 == 8)
 (.at (6))
 (.br (x0 == 9) (.at (7)) (.at (8))))))))
 (.br (x0 == 12)
 (.br (x0 == 12)
 (.at (4))
 (.br (x0 == 5)
 (.br (x0 == 5)
 (.at (5))
 (.br (x0 == 7)
 (.br (x0 == 7)
 (.at (6))
 (.br (x0 == 9) (.at (7)) (.at (8))))
 (.br (x0 == 8)
 (.at (6))
 (.br (x0 == 9) (.at (7)) (.at (8))))))
 (.br (x0 == 6)
 (.at (5))
 (.br (x0 == 7)
 (.br (x0 == 7)
 (.at (6))
 (.br (x0 == 9) (.at (7)) (.at (8))))
 (.br (x0 == 8)
 (.at (6))
 (.br (x0 == 9) (.at (7)) (.at (8))))))))
 (.br (x0 == 13)
 (.at (4))
 (.br (x0 == 5)
 (.br (x0 == 5)
 (.at (5))
 (.br (x0 == 7)
 (.br (x0 == 7)
 (.at (6))
 (.br (x0 == 9) (.at (7)) (.at (8))))
 (.br (x0 == 8)
 (.at (6))
 (.br (x0 == 9) (.at (7)) (.at (8))))))
 (.br (x0 == 6)
 (.at (5))
 (.br (x0 == 7)
 (.br (x0 == 7)
 (.at (6))
 (.br (x0 == 9) (.at (7)) (.at (8))))
 (.br (x0 == 8)
 (.at (6))
 (.br (x0 == 9) (.at (7)) (.at (8))))))))))))))
def qeo (x0:Int):Option qCr:=qa2 (qgy x0).ev
theorem qhA (x0):qeo x0 = (qgy x0).ev:=qab _
theorem qRM:FH IP 62 qHj qIe qeo:=fh F62 qgy qNW
def T77:Tab:=(62,FE qHj qIe qeo) :: T76
theorem qDj:qao IP T77:=⟨qan qRM,qNW⟩
end
end Go.Proofs.H10

/- Functions over plain data. Printed by a program of mine. -/
import Derived.Test.YtpoebijgpbaccaaGreatD53z_5
import Derived.KernelRfl
set_option linter.unusedVariables false
set_option linter.unusedSimpArgs false
set_option linter.unnecessarySimpa false
namespace Go.Proofs.H53z
open Go Go.Eng
set_option maxRecDepth 100000
noncomputable section
abbrev qd2:Type:=(List AV × Int × Int × Int) ⊕ (List AV × Int × Int × Int × List AV)
def qF5:List PSt:=[⟨[(1008901,.junk),(0,.view 4),(1,.int .i64),(5,.nils 1),(6,.int .i64),(7,.int .i64)],[],0,0⟩,⟨[(1008901,.junk),(0,.view 4),(1,.int .i64),(5,.own 0 0),(6,.int .i64),(7,.int .i64)],[(0,.arr 1 false)],1,0⟩]
def qOZ (x0:List AV) (x1 x2 x3:Int):X × St:=(.exit 2,
 ⟨[(0,.view 4 x0),(1,.int .i64 x1),(5,.nils ⟨1,.nil⟩),(6,.int .i64 x2),(7,.int .i64 x3)],[],0,0⟩)
def qO0 (x0:List AV) (x1 x2 x3:Int) (x4:List AV):X × St:=(.exit 2,
 ⟨[(0,.view 4 x0),(1,.int .i64 x1),(5,.own 0 0 none),(6,.int .i64 x2),(7,.int .i64 x3)],[(0,.arr 1 x4 false)],1,0⟩)
def q1t:List (qd2 -> X × St):=[fun w=>(k4 qOZ) ((sl w)),fun w=>(k5 qO0) ((sr w))]
def qLu (x0:List AV) (x1 x2 x3:Int):DT (Rd qd2):=
 .br (decide (x3 > 0)) (.no) (.at (.done 0))
def qvi (x0:List AV) (x1 x2 x3:Int) (x4:List AV):DT (Rd qd2):=
 .br (decide (x3 > 0))
 (.br (inB x4.length (IntKind.i64.wrap (x3 - 1)))
 (.br (okP [.int .i64] x4 (IntKind.i64.wrap (x3 - 1)).toNat 0)
 (.br (qaw [.int .i64,.int .i64,.int .i64,.str] x0 x2)
 (.br (decide (intOf (qb2 x4 (IntKind.i64.wrap (x3 - 1)).toNat 0) > intOf (cellAt x0 x2 0)))
 (.at (.next ((.inr (x0,x1,x2,IntKind.i64.wrap (x3 - 1),x4)))))
 (.at (.done 1)))
 (.no))
 (.no))
 (.no))
 (.at (.done 1))
def qq3:qd2 -> DT (Rd qd2):=(Sum.elim (fun v=>qLu v.1 v.2.1 v.2.2.1 v.2.2.2) (fun v=>qvi v.1 v.2.1 v.2.2.1 v.2.2.2.1 v.2.2.2.2))
def qjz (v:qd2):Option (Nat × qd2):=qaC (qah (fun v=>(qq3 v).ev) v)
theorem qmU (v):qjz v = qah (fun v=>(qq3 v).ev) v:=qaa _
def qHh:qbi:=LE (τ:=qd2) (hD qF5) (qjz) q1t
theorem q0o:Go.Eng.Told IP (qab F89 1).1 (qab F89 1).2 (qHh):=qaj (inferInstance:Inhabited qd2) (hs:=qF5) (st:=qq3) (L:=[]) qx4 (qae (l:=[]) (by kernel_rfl) trivial) (qmU) (fun v=>match v with | (.inl v)=>by kernel_rfl | (.inr v)=>by kernel_rfl) (fun v=>match v with | (.inl v)=>by kernel_rfl | (.inr v)=>by kernel_rfl)
abbrev qdy:Type:=(List AV × Int × Int) ⊕ (List AV × Int × Int × List AV)
def qF4:List PSt:=[⟨[(1008900,.junk),(0,.view 4),(1,.int .i64),(5,.nils 1),(6,.int .i64)],[],0,0⟩,⟨[(1008900,.junk),(0,.view 4),(1,.int .i64),(5,.own 0 0),(6,.int .i64)],[(0,.arr 1 false)],1,0⟩]
def qOX (x0:List AV) (x1 x2:Int):X × St:=(.exit 0,⟨[(5,.nils ⟨1,.nil⟩)],[],0,0⟩)
def qOY (x0:List AV) (x1 x2:Int) (x3:List AV):X × St:=(.exit 0,⟨[(5,.own 0 0 none)],[(0,.arr 1 x3 false)],1,0⟩)
def q1s:List (qdy -> X × St):=[fun w=>(k3 qOX) ((sl w)),fun w=>(k4 qOY) ((sr w))]
def qvg (x0:List AV) (x1 x2:Int):DT (Rd qdy):=
 .br (decide (x2 < (x0.length:Int)))
 (.br (qaw [.int .i64,.int .i64,.int .i64,.str] x0 x2)
 (.bi (qfZ x0 (intOf (cellAt x0 x2 0))) (fun y0=>
 .bi (br y0 (some true)
 (br (qaw [.int .i64,.int .i64,.int .i64,.str] x0 x2)
 (br (sm (qga x0 (intOf (cellAt x0 x2 0)) x1)) (some !gv (qga x0 (intOf (cellAt x0 x2 0)) x1)) none) none)) (fun y1=>
 .br (y1)
 (.at (.next ((.inl (x0,x1,IntKind.i64.wrap (x2 + 1))))))
 (.bi (pj 0 (qjz (Sum.inl (x0,x1,x2,0)))) (fun y2=>
 .br (decide ((sl y2).2.2.2 > 0))
 (.no)
 (.br (leB (sl y2).2.2.2 0 && true)
 (.br (qaw [.int .i64,.int .i64,.int .i64,.str] (sl y2).1 (sl y2).2.2.1)
 (.br (leB (sl y2).2.2.2 0)
 (.at (.next ((.inr ((sl y2).1,(sl y2).2.1,IntKind.i64.wrap ((sl y2).2.2.1 + 1),[.int .i64 (intOf (cellAt (sl y2).1 (sl y2).2.2.1 0))])))))
 (.no))
 (.no))
 (.no)))
 (.bi (pj 1 (qjz (Sum.inl (x0,x1,x2,0)))) (fun y2=>
 .br (decide ((sr y2).2.2.2.1 > 0))
 (.br (inB (sr y2).2.2.2.2.length (IntKind.i64.wrap ((sr y2).2.2.2.1 - 1)))
 (.br (okP [.int .i64] (sr y2).2.2.2.2 (IntKind.i64.wrap ((sr y2).2.2.2.1 - 1)).toNat 0)
 (.br (qaw [.int .i64,.int .i64,.int .i64,.str] (sr y2).1 (sr y2).2.2.1)
 (.br (intOf (qb2 (sr y2).2.2.2.2 (IntKind.i64.wrap ((sr y2).2.2.2.1 - 1)).toNat 0) == intOf (cellAt (sr y2).1 (sr y2).2.2.1 0))
 (.at (.next ((.inr ((sr y2).1,(sr y2).2.1,IntKind.i64.wrap ((sr y2).2.2.1 + 1),(sr y2).2.2.2.2)))))
 (.br (leB (sr y2).2.2.2.1 (sr y2).2.2.2.2.length && true && decide (0 + (sr y2).2.2.2.1.toNat <= (sr y2).2.2.2.2.length))
 (.br (decide ((List.take ((sr y2).2.2.2.1.toNat - 0) (sr y2).2.2.2.2).length = 0) && decide (0 + ((sr y2).2.2.2.1.toNat - 0) <= (sr y2).2.2.2.2.length))
 (.br (qaw [.int .i64,.int .i64,.int .i64,.str] (sr y2).1 (sr y2).2.2.1)
 (.br (leB (sr y2).2.2.2.1 (sr y2).2.2.2.2.length && true)
 (.br (decide ((qaF (sr y2).2.2.2.2 (0 + (sr y2).2.2.2.1.toNat)).length = 0) && decide (1 = 1))
 (.at (.next ((.inr ((sr y2).1,(sr y2).2.1,IntKind.i64.wrap ((sr y2).2.2.1 + 1),[.int .i64 (intOf (cellAt (sr y2).1 (sr y2).2.2.1 0))])))))
 (.br (decide ((qaF (sr y2).2.2.2.2 (0 + (sr y2).2.2.2.1.toNat)).length ≠ 0) && room (1 + (qaF (sr y2).2.2.2.2 (0 + (sr y2).2.2.2.1.toNat)).length) 8)
 (.at (.next ((.inr ((sr y2).1,(sr y2).2.1,IntKind.i64.wrap ((sr y2).2.2.1 + 1),.int .i64 (intOf (cellAt (sr y2).1 (sr y2).2.2.1 0)) :: qaF (sr y2).2.2.2.2 (0 + (sr y2).2.2.2.1.toNat))))))
 (.no)))
 (.no))
 (.no))
 (.br (decide ((List.take ((sr y2).2.2.2.1.toNat - 0) (sr y2).2.2.2.2).length ≠ 0) &&
 (decide (0 + ((sr y2).2.2.2.1.toNat - 0) <= (sr y2).2.2.2.2.length) && room (List.take ((sr y2).2.2.2.1.toNat - 0) (sr y2).2.2.2.2).length 8))
 (.br (qaw [.int .i64,.int .i64,.int .i64,.str] (sr y2).1 (sr y2).2.2.1)
 (.br (room ((List.take ((sr y2).2.2.2.1.toNat - 0) (sr y2).2.2.2.2).length + 1) 8)
 (.br (leB (sr y2).2.2.2.1 (sr y2).2.2.2.2.length && true)
 (.br (decide ((qaF (sr y2).2.2.2.2 (0 + (sr y2).2.2.2.1.toNat)).length = 0) && decide (1 = 1))
 (.at (.next ((.inr ((sr y2).1,(sr y2).2.1,IntKind.i64.wrap ((sr y2).2.2.1 + 1),List.take ((sr y2).2.2.2.1.toNat - 0) (sr y2).2.2.2.2 ++ [AV.int IntKind.i64 (intOf (cellAt (sr y2).1 (sr y2).2.2.1 0))])))))
 (.br (decide ((qaF (sr y2).2.2.2.2 (0 + (sr y2).2.2.2.1.toNat)).length ≠ 0) &&
 room
 ((List.take ((sr y2).2.2.2.1.toNat - 0) (sr y2).2.2.2.2 ++ [AV.int IntKind.i64 (intOf (cellAt (sr y2).1 (sr y2).2.2.1 0))]).length +
 (qaF (sr y2).2.2.2.2 (0 + (sr y2).2.2.2.1.toNat)).length)
 8)
 (.at (.next ((.inr ((sr y2).1,(sr y2).2.1,IntKind.i64.wrap ((sr y2).2.2.1 + 1),List.take ((sr y2).2.2.2.1.toNat - 0) (sr y2).2.2.2.2 ++ [AV.int IntKind.i64 (intOf (cellAt (sr y2).1 (sr y2).2.2.1 0))] ++
 qaF (sr y2).2.2.2.2 (0 + (sr y2).2.2.2.1.toNat))))))
 (.no)))
 (.no))
 (.no))
 (.no))
 (.no)))
 (.no)))
 (.no))
 (.no))
 (.no))
 (.br (leB (sr y2).2.2.2.1 (sr y2).2.2.2.2.length && true && decide (0 + (sr y2).2.2.2.1.toNat <= (sr y2).2.2.2.2.length))
 (.br (decide ((List.take ((sr y2).2.2.2.1.toNat - 0) (sr y2).2.2.2.2).length = 0) && decide (0 + ((sr y2).2.2.2.1.toNat - 0) <= (sr y2).2.2.2.2.length))
 (.br (qaw [.int .i64,.int .i64,.int .i64,.str] (sr y2).1 (sr y2).2.2.1)
 (.br (leB (sr y2).2.2.2.1 (sr y2).2.2.2.2.length && true)
 (.br (decide ((qaF (sr y2).2.2.2.2 (0 + (sr y2).2.2.2.1.toNat)).length = 0) && decide (1 = 1))
 (.at (.next ((.inr ((sr y2).1,(sr y2).2.1,IntKind.i64.wrap ((sr y2).2.2.1 + 1),[.int .i64 (intOf (cellAt (sr y2).1 (sr y2).2.2.1 0))])))))
 (.br (decide ((qaF (sr y2).2.2.2.2 (0 + (sr y2).2.2.2.1.toNat)).length ≠ 0) && room (1 + (qaF (sr y2).2.2.2.2 (0 + (sr y2).2.2.2.1.toNat)).length) 8)
 (.at (.next ((.inr ((sr y2).1,(sr y2).2.1,IntKind.i64.wrap ((sr y2).2.2.1 + 1),.int .i64 (intOf (cellAt (sr y2).1 (sr y2).2.2.1 0)) :: qaF (sr y2).2.2.2.2 (0 + (sr y2).2.2.2.1.toNat))))))
 (.no)))
 (.no))
 (.no))
 (.br (decide ((List.take ((sr y2).2.2.2.1.toNat - 0) (sr y2).2.2.2.2).length ≠ 0) &&
 (decide (0 + ((sr y2).2.2.2.1.toNat - 0) <= (sr y2).2.2.2.2.length) && room (List.take ((sr y2).2.2.2.1.toNat - 0) (sr y2).2.2.2.2).length 8))
 (.br (qaw [.int .i64,.int .i64,.int .i64,.str] (sr y2).1 (sr y2).2.2.1)
 (.br (room ((List.take ((sr y2).2.2.2.1.toNat - 0) (sr y2).2.2.2.2).length + 1) 8)
 (.br (leB (sr y2).2.2.2.1 (sr y2).2.2.2.2.length && true)
 (.br (decide ((qaF (sr y2).2.2.2.2 (0 + (sr y2).2.2.2.1.toNat)).length = 0) && decide (1 = 1))
 (.at (.next ((.inr ((sr y2).1,(sr y2).2.1,IntKind.i64.wrap ((sr y2).2.2.1 + 1),List.take ((sr y2).2.2.2.1.toNat - 0) (sr y2).2.2.2.2 ++ [AV.int IntKind.i64 (intOf (cellAt (sr y2).1 (sr y2).2.2.1 0))])))))
 (.br (decide ((qaF (sr y2).2.2.2.2 (0 + (sr y2).2.2.2.1.toNat)).length ≠ 0) &&
 room
 ((List.take ((sr y2).2.2.2.1.toNat - 0) (sr y2).2.2.2.2 ++ [AV.int IntKind.i64 (intOf (cellAt (sr y2).1 (sr y2).2.2.1 0))]).length +
 (qaF (sr y2).2.2.2.2 (0 + (sr y2).2.2.2.1.toNat)).length)
 8)
 (.at (.next ((.inr ((sr y2).1,(sr y2).2.1,IntKind.i64.wrap ((sr y2).2.2.1 + 1),List.take ((sr y2).2.2.2.1.toNat - 0) (sr y2).2.2.2.2 ++ [AV.int IntKind.i64 (intOf (cellAt (sr y2).1 (sr y2).2.2.1 0))] ++
 qaF (sr y2).2.2.2.2 (0 + (sr y2).2.2.2.1.toNat))))))
 (.no)))
 (.no))
 (.no))
 (.no))
 (.no)))
 (.no)))
 (.no))))
 (.no))
 (.no))
 (.no))
 (.at (.done 0))
def qvh (x0:List AV) (x1 x2:Int) (x3:List AV):DT (Rd qdy):=
 .br (decide (x2 < (x0.length:Int)))
 (.br (qaw [.int .i64,.int .i64,.int .i64,.str] x0 x2)
 (.bi (qfZ x0 (intOf (cellAt x0 x2 0))) (fun y0=>
 .bi (br y0 (some true)
 (br (qaw [.int .i64,.int .i64,.int .i64,.str] x0 x2)
 (br (sm (qga x0 (intOf (cellAt x0 x2 0)) x1)) (some !gv (qga x0 (intOf (cellAt x0 x2 0)) x1)) none) none)) (fun y1=>
 .br (y1)
 (.at (.next ((.inr (x0,x1,IntKind.i64.wrap (x2 + 1),x3)))))
 (.bi (pj 0 (qjz (Sum.inr (x0,x1,x2,(x3.length:Int),x3)))) (fun y2=>
 .br (decide ((sl y2).2.2.2 > 0))
 (.no)
 (.br (leB (sl y2).2.2.2 0 && true)
 (.br (qaw [.int .i64,.int .i64,.int .i64,.str] (sl y2).1 (sl y2).2.2.1)
 (.br (leB (sl y2).2.2.2 0)
 (.at (.next ((.inr ((sl y2).1,(sl y2).2.1,IntKind.i64.wrap ((sl y2).2.2.1 + 1),[.int .i64 (intOf (cellAt (sl y2).1 (sl y2).2.2.1 0))])))))
 (.no))
 (.no))
 (.no)))
 (.bi (pj 1 (qjz (Sum.inr (x0,x1,x2,(x3.length:Int),x3)))) (fun y2=>
 .br (decide ((sr y2).2.2.2.1 > 0))
 (.br (inB (sr y2).2.2.2.2.length (IntKind.i64.wrap ((sr y2).2.2.2.1 - 1)))
 (.br (okP [.int .i64] (sr y2).2.2.2.2 (IntKind.i64.wrap ((sr y2).2.2.2.1 - 1)).toNat 0)
 (.br (qaw [.int .i64,.int .i64,.int .i64,.str] (sr y2).1 (sr y2).2.2.1)
 (.br (intOf (qb2 (sr y2).2.2.2.2 (IntKind.i64.wrap ((sr y2).2.2.2.1 - 1)).toNat 0) == intOf (cellAt (sr y2).1 (sr y2).2.2.1 0))
 (.at (.next ((.inr ((sr y2).1,(sr y2).2.1,IntKind.i64.wrap ((sr y2).2.2.1 + 1),(sr y2).2.2.2.2)))))
 (.br (leB (sr y2).2.2.2.1 (sr y2).2.2.2.2.length && true && decide (0 + (sr y2).2.2.2.1.toNat <= (sr y2).2.2.2.2.length))
 (.br (decide ((List.take ((sr y2).2.2.2.1.toNat - 0) (sr y2).2.2.2.2).length = 0) && decide (0 + ((sr y2).2.2.2.1.toNat - 0) <= (sr y2).2.2.2.2.length))
 (.br (qaw [.int .i64,.int .i64,.int .i64,.str] (sr y2).1 (sr y2).2.2.1)
 (.br (leB (sr y2).2.2.2.1 (sr y2).2.2.2.2.length && true)
 (.br (decide ((qaF (sr y2).2.2.2.2 (0 + (sr y2).2.2.2.1.toNat)).length = 0) && decide (1 = 1))
 (.at (.next ((.inr ((sr y2).1,(sr y2).2.1,IntKind.i64.wrap ((sr y2).2.2.1 + 1),[.int .i64 (intOf (cellAt (sr y2).1 (sr y2).2.2.1 0))])))))
 (.br (decide ((qaF (sr y2).2.2.2.2 (0 + (sr y2).2.2.2.1.toNat)).length ≠ 0) && room (1 + (qaF (sr y2).2.2.2.2 (0 + (sr y2).2.2.2.1.toNat)).length) 8)
 (.at (.next ((.inr ((sr y2).1,(sr y2).2.1,IntKind.i64.wrap ((sr y2).2.2.1 + 1),.int .i64 (intOf (cellAt (sr y2).1 (sr y2).2.2.1 0)) :: qaF (sr y2).2.2.2.2 (0 + (sr y2).2.2.2.1.toNat))))))
 (.no)))
 (.no))
 (.no))
 (.br (decide ((List.take ((sr y2).2.2.2.1.toNat - 0) (sr y2).2.2.2.2).length ≠ 0) &&
 (decide (0 + ((sr y2).2.2.2.1.toNat - 0) <= (sr y2).2.2.2.2.length) && room (List.take ((sr y2).2.2.2.1.toNat - 0) (sr y2).2.2.2.2).length 8))
 (.br (qaw [.int .i64,.int .i64,.int .i64,.str] (sr y2).1 (sr y2).2.2.1)
 (.br (room ((List.take ((sr y2).2.2.2.1.toNat - 0) (sr y2).2.2.2.2).length + 1) 8)
 (.br (leB (sr y2).2.2.2.1 (sr y2).2.2.2.2.length && true)
 (.br (decide ((qaF (sr y2).2.2.2.2 (0 + (sr y2).2.2.2.1.toNat)).length = 0) && decide (1 = 1))
 (.at (.next ((.inr ((sr y2).1,(sr y2).2.1,IntKind.i64.wrap ((sr y2).2.2.1 + 1),List.take ((sr y2).2.2.2.1.toNat - 0) (sr y2).2.2.2.2 ++ [AV.int IntKind.i64 (intOf (cellAt (sr y2).1 (sr y2).2.2.1 0))])))))
 (.br (decide ((qaF (sr y2).2.2.2.2 (0 + (sr y2).2.2.2.1.toNat)).length ≠ 0) &&
 room
 ((List.take ((sr y2).2.2.2.1.toNat - 0) (sr y2).2.2.2.2 ++ [AV.int IntKind.i64 (intOf (cellAt (sr y2).1 (sr y2).2.2.1 0))]).length +
 (qaF (sr y2).2.2.2.2 (0 + (sr y2).2.2.2.1.toNat)).length)
 8)
 (.at (.next ((.inr ((sr y2).1,(sr y2).2.1,IntKind.i64.wrap ((sr y2).2.2.1 + 1),List.take ((sr y2).2.2.2.1.toNat - 0) (sr y2).2.2.2.2 ++ [AV.int IntKind.i64 (intOf (cellAt (sr y2).1 (sr y2).2.2.1 0))] ++
 qaF (sr y2).2.2.2.2 (0 + (sr y2).2.2.2.1.toNat))))))
 (.no)))
 (.no))
 (.no))
 (.no))
 (.no)))
 (.no)))
 (.no))
 (.no))
 (.no))
 (.br (leB (sr y2).2.2.2.1 (sr y2).2.2.2.2.length && true && decide (0 + (sr y2).2.2.2.1.toNat <= (sr y2).2.2.2.2.length))
 (.br (decide ((List.take ((sr y2).2.2.2.1.toNat - 0) (sr y2).2.2.2.2).length = 0) && decide (0 + ((sr y2).2.2.2.1.toNat - 0) <= (sr y2).2.2.2.2.length))
 (.br (qaw [.int .i64,.int .i64,.int .i64,.str] (sr y2).1 (sr y2).2.2.1)
 (.br (leB (sr y2).2.2.2.1 (sr y2).2.2.2.2.length && true)
 (.br (decide ((qaF (sr y2).2.2.2.2 (0 + (sr y2).2.2.2.1.toNat)).length = 0) && decide (1 = 1))
 (.at (.next ((.inr ((sr y2).1,(sr y2).2.1,IntKind.i64.wrap ((sr y2).2.2.1 + 1),[.int .i64 (intOf (cellAt (sr y2).1 (sr y2).2.2.1 0))])))))
 (.br (decide ((qaF (sr y2).2.2.2.2 (0 + (sr y2).2.2.2.1.toNat)).length ≠ 0) && room (1 + (qaF (sr y2).2.2.2.2 (0 + (sr y2).2.2.2.1.toNat)).length) 8)
 (.at (.next ((.inr ((sr y2).1,(sr y2).2.1,IntKind.i64.wrap ((sr y2).2.2.1 + 1),.int .i64 (intOf (cellAt (sr y2).1 (sr y2).2.2.1 0)) :: qaF (sr y2).2.2.2.2 (0 + (sr y2).2.2.2.1.toNat))))))
 (.no)))
 (.no))
 (.no))
 (.br (decide ((List.take ((sr y2).2.2.2.1.toNat - 0) (sr y2).2.2.2.2).length ≠ 0) &&
 (decide (0 + ((sr y2).2.2.2.1.toNat - 0) <= (sr y2).2.2.2.2.length) && room (List.take ((sr y2).2.2.2.1.toNat - 0) (sr y2).2.2.2.2).length 8))
 (.br (qaw [.int .i64,.int .i64,.int .i64,.str] (sr y2).1 (sr y2).2.2.1)
 (.br (room ((List.take ((sr y2).2.2.2.1.toNat - 0) (sr y2).2.2.2.2).length + 1) 8)
 (.br (leB (sr y2).2.2.2.1 (sr y2).2.2.2.2.length && true)
 (.br (decide ((qaF (sr y2).2.2.2.2 (0 + (sr y2).2.2.2.1.toNat)).length = 0) && decide (1 = 1))
 (.at (.next ((.inr ((sr y2).1,(sr y2).2.1,IntKind.i64.wrap ((sr y2).2.2.1 + 1),List.take ((sr y2).2.2.2.1.toNat - 0) (sr y2).2.2.2.2 ++ [AV.int IntKind.i64 (intOf (cellAt (sr y2).1 (sr y2).2.2.1 0))])))))
 (.br (decide ((qaF (sr y2).2.2.2.2 (0 + (sr y2).2.2.2.1.toNat)).length ≠ 0) &&
 room
 ((List.take ((sr y2).2.2.2.1.toNat - 0) (sr y2).2.2.2.2 ++ [AV.int IntKind.i64 (intOf (cellAt (sr y2).1 (sr y2).2.2.1 0))]).length +
 (qaF (sr y2).2.2.2.2 (0 + (sr y2).2.2.2.1.toNat)).length)
 8)
 (.at (.next ((.inr ((sr y2).1,(sr y2).2.1,IntKind.i64.wrap ((sr y2).2.2.1 + 1),List.take ((sr y2).2.2.2.1.toNat - 0) (sr y2).2.2.2.2 ++ [AV.int IntKind.i64 (intOf (cellAt (sr y2).1 (sr y2).2.2.1 0))] ++
 qaF (sr y2).2.2.2.2 (0 + (sr y2).2.2.2.1.toNat))))))
 (.no)))
 (.no))
 (.no))
 (.no))
 (.no)))
 (.no)))
 (.no))))
 (.no))
 (.no))
 (.no))
 (.at (.done 1))
def qnI:qdy -> DT (Rd qdy):=(Sum.elim (fun v=>qvg v.1 v.2.1 v.2.2) (fun v=>qvh v.1 v.2.1 v.2.2.1 v.2.2.2))
def qtr (v:qdy):Option (Nat × qdy):=qaC (qah (fun v=>(qnI v).ev) v)
theorem qts (v):qtr v = qah (fun v=>(qnI v).ev) v:=qaa _
def qHg:qbi:=LE (τ:=qdy) (hD qF4) (qtr) q1s
theorem q0n:Go.Eng.Told IP (qab F89 0).1 (qab F89 0).2 (qHg):=qaj (inferInstance:Inhabited qdy) (hs:=qF4) (st:=qnI) (L:=[(1008901,qHh)]) qx4 (qae (l:=[qab F89 1]) (by kernel_rfl) ⟨qal (by kernel_rfl) q0o,trivial⟩) (qts) (fun v=>match v with | (.inl v)=>by kernel_rfl | (.inr v)=>by kernel_rfl) (fun v=>match v with | (.inl v)=>by kernel_rfl | (.inr v)=>by kernel_rfl)
abbrev qCU:Type:=List AV
def qII:PArgs:=⟨[.view 4,.int .i64],[]⟩
def qJ3:List PRes:=[⟨false,.view 1,[]⟩]
def qkc (x0:List AV) (x1:Int):DT qCU:=
 .bi (pj 0 (qtr (Sum.inl (x0,x1,0)))) (fun y0=>
 .at ([]))
 (.bi (pj 1 (qtr (Sum.inl (x0,x1,0)))) (fun y0=>
 .at ((sr y0).2.2.2))
 (.no))
def qiA (x0:List AV) (x1:Int):Option qCU:=qaC (qkc x0 x1).ev
theorem qAx (x0 x1):qiA x0 x1 = (qkc x0 x1).ev:=qaa _
theorem qTH:FH IP 89 qII qJ3 (k2 qiA):=qam (F:=F89) (L:=[(1008900,qHg)]) (t:=(k2 qkc)) qx4 (qae (l:=[qab F89 0,qab F89 1]) (by kernel_rfl) ⟨qal (by kernel_rfl) q0n,qu9 (by kernel_rfl),trivial⟩) (by kernel_rfl) (fun v=>by kernel_rfl) (fun _=>qaa _)
def T66:Tab:=(89,FE qII qJ3 (k2 qiA)) :: T65
theorem qEq:qau IP T66:=⟨qay qTH,qx4⟩
abbrev qdl:Type:=Int × Int × List AV × List AV × List AV × Int × Int × Int × Int × Int × Int × Int × Int × Int × Int × Int × Int × Int × Int × List AV × List AV × List AV × List AV × List AV × Int × Int × Int × Int × List UInt8 × List UInt8 × List UInt8
def qyK:List PSt:=[⟨[(1003300,.junk),(1,.int .i64),(2,.ref 0 0 0),(4,.ref 1 0 0),(6,.int .i64)],[(0,.box [.view 2,.view 3,.view 4,.int .i64,.int .i64,.int .i64,.int .i64,.int .i64,.int .i64,.int .i64,.int .i64,.int .i64,.int .i64,.int .i64,.int .i64,.int .i64,.int .i64,.view 19,.view 7,.view 10,.view 6,.view 7] false),(1,.box [.int .i64,.int .i64,.int .i64,.int .i64,.str,.str,.str] false)],2,0⟩]
def qMw (x0 x1:Int) (x2 x3 x4:List AV) (x5 x6:Int) (x7 x8:Int) (x9 x10:Int) (x11 x12:Int) (x13 x14:Int) (x15 x16:Int) (x17 x18:Int) (x19 x20:List AV) (x21 x22 x23:List AV) (x24 x25:Int) (x26 x27:Int) (x28 x29 x30:List UInt8):X × St:=(.ret,
 ⟨[(4,.ref 0 0 0),(5,.bool true)],[(0,
 .box
 [.int .i64 (intOf (cellAt x20 x1 0)),.int .i64 (intOf (cellAt x20 x1 1)),.int .i64 (intOf (cellAt x20 x1 2)),
 .int .i64 (intOf (cellAt x20 x1 3)),.str (strOf (cellAt x20 x1 4)),.str (strOf (cellAt x20 x1 5)),.str (strOf (cellAt x20 x1 6))]
 false)],1,0⟩)
def qMx (x0 x1:Int) (x2 x3 x4:List AV) (x5 x6:Int) (x7 x8:Int) (x9 x10:Int) (x11 x12:Int) (x13 x14:Int) (x15 x16:Int) (x17 x18:Int) (x19 x20:List AV) (x21 x22 x23:List AV) (x24 x25:Int) (x26 x27:Int) (x28 x29 x30:List UInt8):X × St:=(.exit 0,
 ⟨[(4,.ref 0 0 0),(5,.junk)],[(0,.box [.int .i64 x24,.int .i64 x25,.int .i64 x26,.int .i64 x27,.str x28,.str x29,.str x30] false)],1,0⟩)
def qWz:List (qdl -> X × St):=[(k31 qMw),(k31 qMx)]
def qjg (x0 x1:Int) (x2 x3 x4:List AV) (x5 x6:Int) (x7 x8:Int) (x9 x10:Int) (x11 x12:Int) (x13 x14:Int) (x15 x16:Int) (x17 x18:Int) (x19 x20:List AV) (x21 x22 x23:List AV) (x24 x25:Int) (x26 x27:Int) (x28 x29 x30:List UInt8):DT (Rd qdl):=
 .br (decide (x1 < (x20.length:Int)))
 (.br (qaw [.int .i64,.int .i64,.int .i64,.int .i64,.str,.str,.str] x20 x1)
 (.br (intOf (cellAt x20 x1 0) == x0)
 (.br (qaw [.int .i64,.int .i64,.int .i64,.int .i64,.str,.str,.str] x20 x1) (.at (.done 0)) (.no))
 (.at (.next ((x0,IntKind.i64.wrap (x1 + 1),x2,x3,x4,x5,x6,x7,x8,x9,x10,x11,x12,x13,x14,x15,x16,x17,x18,x19,x20,x21,x22,x23,x24,x25,x26,x27,x28,x29,x30)))))
 (.no))
 (.at (.done 1))
def qih:qdl -> DT (Rd qdl):=(fun v=>qjg v.1 v.2.1 v.2.2.1 v.2.2.2.1 v.2.2.2.2.1 v.2.2.2.2.2.1 v.2.2.2.2.2.2.1 v.2.2.2.2.2.2.2.1 v.2.2.2.2.2.2.2.2.1 v.2.2.2.2.2.2.2.2.2.1 v.2.2.2.2.2.2.2.2.2.2.1 v.2.2.2.2.2.2.2.2.2.2.2.1 v.2.2.2.2.2.2.2.2.2.2.2.2.1 v.2.2.2.2.2.2.2.2.2.2.2.2.2.1 v.2.2.2.2.2.2.2.2.2.2.2.2.2.2.1 v.2.2.2.2.2.2.2.2.2.2.2.2.2.2.2.1 v.2.2.2.2.2.2.2.2.2.2.2.2.2.2.2.2.1 v.2.2.2.2.2.2.2.2.2.2.2.2.2.2.2.2.2.1 v.2.2.2.2.2.2.2.2.2.2.2.2.2.2.2.2.2.2.1 v.2.2.2.2.2.2.2.2.2.2.2.2.2.2.2.2.2.2.2.1 v.2.2.2.2.2.2.2.2.2.2.2.2.2.2.2.2.2.2.2.2.1 v.2.2.2.2.2.2.2.2.2.2.2.2.2.2.2.2.2.2.2.2.2.1 v.2.2.2.2.2.2.2.2.2.2.2.2.2.2.2.2.2.2.2.2.2.2.1 v.2.2.2.2.2.2.2.2.2.2.2.2.2.2.2.2.2.2.2.2.2.2.2.1 v.2.2.2.2.2.2.2.2.2.2.2.2.2.2.2.2.2.2.2.2.2.2.2.2.1 v.2.2.2.2.2.2.2.2.2.2.2.2.2.2.2.2.2.2.2.2.2.2.2.2.2.1 v.2.2.2.2.2.2.2.2.2.2.2.2.2.2.2.2.2.2.2.2.2.2.2.2.2.2.1 v.2.2.2.2.2.2.2.2.2.2.2.2.2.2.2.2.2.2.2.2.2.2.2.2.2.2.2.1 v.2.2.2.2.2.2.2.2.2.2.2.2.2.2.2.2.2.2.2.2.2.2.2.2.2.2.2.2.1 v.2.2.2.2.2.2.2.2.2.2.2.2.2.2.2.2.2.2.2.2.2.2.2.2.2.2.2.2.2.1 v.2.2.2.2.2.2.2.2.2.2.2.2.2.2.2.2.2.2.2.2.2.2.2.2.2.2.2.2.2.2)
def qmN (v:qdl):Option (Nat × qdl):=qaC (qah (fun v=>(qih v).ev) v)
theorem qo6 (v):qmN v = qah (fun v=>(qih v).ev) v:=qaa _
def qzr:qbi:=LE (τ:=qdl) (hD qyK) (qmN) qWz
theorem qV4:Go.Eng.Told IP (qab F33 0).1 (qab F33 0).2 (qzr):=lp (inferInstance:Inhabited qdl) (hs:=qyK) qih qEq qo6
abbrev qlm:Type:=Int × Int × Int × Int × List UInt8 × List UInt8 × List UInt8 × Bool
def qJE:PArgs:=⟨[.agg [.view 2,.view 3,.view 4,.int .i64,.int .i64,.int .i64,.int .i64,.int .i64,.int .i64,.int .i64,.int .i64,.int .i64,.int .i64,.int .i64,.int .i64,.int .i64,.int .i64,.view 19,.view 7,.view 10,.view 6,.view 7],.int .i64],[]⟩
def qKY:List PRes:=[⟨false,.tup [.agg [.int .i64,.int .i64,.int .i64,.int .i64,.str,.str,.str],.bool],[]⟩]
def qk9 (x0 x1 x2:List AV) (x3 x4:Int) (x5 x6:Int) (x7 x8:Int) (x9 x10:Int) (x11 x12:Int) (x13 x14:Int) (x15 x16:Int) (x17 x18:List AV) (x19 x20 x21:List AV) (x22:Int):DT qlm:=
 .bi (pj 0 (qmN (x22,0,x0,x1,x2,x3,x4,x5,x6,x7,x8,x9,x10,x11,x12,x13,x14,x15,x16,x17,x18,x19,x20,x21,0,0,0,0,[],[],[]))) (fun y0=>
 .at ((intOf (cellAt y0.2.2.2.2.2.2.2.2.2.2.2.2.2.2.2.2.2.2.2.2.1 y0.2.1 0),intOf (cellAt y0.2.2.2.2.2.2.2.2.2.2.2.2.2.2.2.2.2.2.2.2.1 y0.2.1 1),intOf (cellAt y0.2.2.2.2.2.2.2.2.2.2.2.2.2.2.2.2.2.2.2.2.1 y0.2.1 2),intOf (cellAt y0.2.2.2.2.2.2.2.2.2.2.2.2.2.2.2.2.2.2.2.2.1 y0.2.1 3),strOf (cellAt y0.2.2.2.2.2.2.2.2.2.2.2.2.2.2.2.2.2.2.2.2.1 y0.2.1 4),strOf (cellAt y0.2.2.2.2.2.2.2.2.2.2.2.2.2.2.2.2.2.2.2.2.1 y0.2.1 5),strOf (cellAt y0.2.2.2.2.2.2.2.2.2.2.2.2.2.2.2.2.2.2.2.2.1 y0.2.1 6),true)))
 (.bi (pj 1 (qmN (x22,0,x0,x1,x2,x3,x4,x5,x6,x7,x8,x9,x10,x11,x12,x13,x14,x15,x16,x17,x18,x19,x20,x21,0,0,0,0,[],[],[]))) (fun y0=>
 .at ((0,0,0,0,[],[],[],false)))
 (.no))
def qhg (x0 x1 x2:List AV) (x3 x4:Int) (x5 x6:Int) (x7 x8:Int) (x9 x10:Int) (x11 x12:Int) (x13 x14:Int) (x15 x16:Int) (x17 x18:List AV) (x19 x20 x21:List AV) (x22:Int):Option qlm:=qaC (qk9 x0 x1 x2 x3 x4 x5 x6 x7 x8 x9 x10 x11 x12 x13 x14 x15 x16 x17 x18 x19 x20 x21 x22).ev
theorem qBx (x0 x1 x2 x3 x4 x5 x6 x7 x8 x9 x10 x11 x12 x13 x14 x15 x16 x17 x18 x19 x20 x21 x22):qhg x0 x1 x2 x3 x4 x5 x6 x7 x8 x9 x10 x11 x12 x13 x14 x15 x16 x17 x18 x19 x20 x21 x22 = (qk9 x0 x1 x2 x3 x4 x5 x6 x7 x8 x9 x10 x11 x12 x13 x14 x15 x16 x17 x18 x19 x20 x21 x22).ev:=qaa _
theorem qUG:FH IP 33 qJE qKY (k23 qhg):=qam (F:=F33) (L:=[(1003300,qzr)]) (t:=(k23 qk9)) qEq (qae (l:=[qab F33 0]) (by kernel_rfl) ⟨qal (by kernel_rfl) qV4,trivial⟩) (by kernel_rfl) (fun v=>by kernel_rfl) (fun _=>qaa _)
def T67:Tab:=(33,FE qJE qKY (k23 qhg)) :: T66
theorem qRu:qau IP T67:=⟨qay qUG,qEq⟩
abbrev qQY:Type:=List UInt8 × List UInt8 × List UInt8 × Int × Int × Int × Int × List AV × Bool × Int × Int × Bool × List AV × Bool × Int × Int × Bool × List AV × List AV × Bool
def qSK:PArgs:=⟨[.agg [.view 2,.view 3,.view 4,.int .i64,.int .i64,.int .i64,.int .i64,.int .i64,.int .i64,.int .i64,.int .i64,.int .i64,.int .i64,.int .i64,.int .i64,.int .i64,.int .i64,.view 19,.view 7,.view 10,.view 6,.view 7],.int .i64,.int .i64],[]⟩
def qTe:List PRes:=[⟨false,.tup [.agg [.str,.str,.str,.int .i64,.int .i64,.int .i64,.int .i64,.view 2,.bool,.int .i64,.int .i64,.bool,.view 2,.bool,.int .i64,.int .i64,.bool,.view 10,.view 6],.bool],[]⟩]
def qr9 (x0 x1 x2:List AV) (x3 x4:Int) (x5 x6:Int) (x7 x8:Int) (x9 x10:Int) (x11 x12:Int) (x13 x14:Int) (x15 x16:Int) (x17 x18:List AV) (x19 x20 x21:List AV) (x22 x23:Int):DT qQY:=
 .bi (qhg x0 x1 x2 x3 x4 x5 x6 x7 x8 x9 x10 x11 x12 x13 x14 x15 x16 x17 x18 x19 x20 x21 x22) (fun y0=>
 .br (!y0.2.2.2.2.2.2.2)
 (.at (([],[],[],0,0,0,0,[],false,0,0,false,[],false,0,0,false,[],[],false)))
 (.bi (qhl x17 y0.2.2.2.2.2.1 x23) (fun y1=>
 .at ((y1.1,y1.2.1,y1.2.2.1,y1.2.2.2.1,y1.2.2.2.2.1,y1.2.2.2.2.2.1,y1.2.2.2.2.2.2.1,y1.2.2.2.2.2.2.2.1,y1.2.2.2.2.2.2.2.2.1,y1.2.2.2.2.2.2.2.2.2.1,y1.2.2.2.2.2.2.2.2.2.2.1,y1.2.2.2.2.2.2.2.2.2.2.2.1,y1.2.2.2.2.2.2.2.2.2.2.2.2.1,y1.2.2.2.2.2.2.2.2.2.2.2.2.2.1,y1.2.2.2.2.2.2.2.2.2.2.2.2.2.2.1,y1.2.2.2.2.2.2.2.2.2.2.2.2.2.2.2.1,y1.2.2.2.2.2.2.2.2.2.2.2.2.2.2.2.2.1,y1.2.2.2.2.2.2.2.2.2.2.2.2.2.2.2.2.2.1,y1.2.2.2.2.2.2.2.2.2.2.2.2.2.2.2.2.2.2.1,y1.2.2.2.2.2.2.2.2.2.2.2.2.2.2.2.2.2.2.2)))
 (.no)))
 (.no)
def qoI (x0 x1 x2:List AV) (x3 x4:Int) (x5 x6:Int) (x7 x8:Int) (x9 x10:Int) (x11 x12:Int) (x13 x14:Int) (x15 x16:Int) (x17 x18:List AV) (x19 x20 x21:List AV) (x22 x23:Int):Option qQY:=qaC (qr9 x0 x1 x2 x3 x4 x5 x6 x7 x8 x9 x10 x11 x12 x13 x14 x15 x16 x17 x18 x19 x20 x21 x22 x23).ev
theorem qFD (x0 x1 x2 x3 x4 x5 x6 x7 x8 x9 x10 x11 x12 x13 x14 x15 x16 x17 x18 x19 x20 x21 x22 x23):qoI x0 x1 x2 x3 x4 x5 x6 x7 x8 x9 x10 x11 x12 x13 x14 x15 x16 x17 x18 x19 x20 x21 x22 x23 = (qr9 x0 x1 x2 x3 x4 x5 x6 x7 x8 x9 x10 x11 x12 x13 x14 x15 x16 x17 x18 x19 x20 x21 x22 x23).ev:=qaa _
theorem qYr:FH IP 90 qSK qTe (k24 qoI):=fh F90 (k24 qr9) qRu
def T68:Tab:=(90,FE qSK qTe (k24 qoI)) :: T67
theorem qRv:qau IP T68:=⟨qay qYr,qRu⟩
abbrev qCX:Type:=Bool
def qIL:PArgs:=⟨[.agg [.view 2,.view 3,.view 4,.int .i64,.int .i64,.int .i64,.int .i64,.int .i64,.int .i64,.int .i64,.int .i64,.int .i64,.int .i64,.int .i64,.int .i64,.int .i64,.int .i64,.view 19,.view 7,.view 10,.view 6,.view 7],.int .i64,.int .i64],[]⟩
def qJ6:List PRes:=[⟨false,.bool,[]⟩]
def qkf (x0 x1 x2:List AV) (x3 x4:Int) (x5 x6:Int) (x7 x8:Int) (x9 x10:Int) (x11 x12:Int) (x13 x14:Int) (x15 x16:Int) (x17 x18:List AV) (x19 x20 x21:List AV) (x22 x23:Int):DT qCX:=
 .bi (qhg x0 x1 x2 x3 x4 x5 x6 x7 x8 x9 x10 x11 x12 x13 x14 x15 x16 x17 x18 x19 x20 x21 x22) (fun y0=>
 .bi (br y0.2.2.2.2.2.2.2 (some (decide (y0.2.1 <= x23))) (some false)) (fun y1=>
 .bi (br y1 (br (y0.2.2.1 == 0) (some true) (some (decide (y0.2.2.1 > x23)))) (some false)) (fun y2=>
 .at (y2))
 (.no))
 (.no))
 (.no)
def qd8 (x0 x1 x2:List AV) (x3 x4:Int) (x5 x6:Int) (x7 x8:Int) (x9 x10:Int) (x11 x12:Int) (x13 x14:Int) (x15 x16:Int) (x17 x18:List AV) (x19 x20 x21:List AV) (x22 x23:Int):Option qCX:=qaC (qkf x0 x1 x2 x3 x4 x5 x6 x7 x8 x9 x10 x11 x12 x13 x14 x15 x16 x17 x18 x19 x20 x21 x22 x23).ev
theorem qAB (x0 x1 x2 x3 x4 x5 x6 x7 x8 x9 x10 x11 x12 x13 x14 x15 x16 x17 x18 x19 x20 x21 x22 x23):qd8 x0 x1 x2 x3 x4 x5 x6 x7 x8 x9 x10 x11 x12 x13 x14 x15 x16 x17 x18 x19 x20 x21 x22 x23 = (qkf x0 x1 x2 x3 x4 x5 x6 x7 x8 x9 x10 x11 x12 x13 x14 x15 x16 x17 x18 x19 x20 x21 x22 x23).ev:=qaa _
theorem qTK:FH IP 12 qIL qJ6 (k24 qd8):=fh F12 (k24 qkf) qRv
def T69:Tab:=(12,FE qIL qJ6 (k24 qd8)) :: T68
theorem qEr:qau IP T69:=⟨qay qTK,qRv⟩
abbrev qdm:Type:=Int × List AV × List AV × List AV × Int × Int × Int × Int × Int × Int × Int × Int × Int × Int × Int × Int × Int × Int × List AV × List AV × List AV × List AV × List AV × Int × Int × Int × Int × Int × Int × List UInt8 × List UInt8 × List AV × Int
def qyL:List PSt:=[⟨[(1005400,.junk),(2,.ref 0 0 0),(3,.ref 1 0 0),(5,.int .i64)],[(0,.box [.view 2,.view 3,.view 4,.int .i64,.int .i64,.int .i64,.int .i64,.int .i64,.int .i64,.int .i64,.int .i64,.int .i64,.int .i64,.int .i64,.int .i64,.int .i64,.int .i64,.view 19,.view 7,.view 10,.view 6,.view 7] false),(1,.box [.int .i64,.int .i64,.int .i64,.int .i64,.int .i64,.int .i64,.str,.str,.view 3,.int .u64] false)],2,0⟩]
def qMy (x0:Int) (x1 x2 x3:List AV) (x4 x5:Int) (x6 x7:Int) (x8 x9:Int) (x10 x11:Int) (x12 x13:Int) (x14 x15:Int) (x16 x17:Int) (x18 x19:List AV) (x20 x21 x22:List AV) (x23 x24:Int) (x25 x26:Int) (x27 x28:Int) (x29 x30:List UInt8) (x31:List AV) (x32:Int):X × St:=(.ret,⟨[(4,.bool false)],[],0,0⟩)
def qMz (x0:Int) (x1 x2 x3:List AV) (x4 x5:Int) (x6 x7:Int) (x8 x9:Int) (x10 x11:Int) (x12 x13:Int) (x14 x15:Int) (x16 x17:Int) (x18 x19:List AV) (x20 x21 x22:List AV) (x23 x24:Int) (x25 x26:Int) (x27 x28:Int) (x29 x30:List UInt8) (x31:List AV) (x32:Int):X × St:=(.exit 0,⟨[(4,.junk)],[],0,0⟩)
def qWA:List (qdm -> X × St):=[(k33 qMy),(k33 qMz)]
def qpJ (x0:Int) (x1 x2 x3:List AV) (x4 x5:Int) (x6 x7:Int) (x8 x9:Int) (x10 x11:Int) (x12 x13:Int) (x14 x15:Int) (x16 x17:Int) (x18 x19:List AV) (x20 x21 x22:List AV) (x23 x24:Int) (x25 x26:Int) (x27 x28:Int) (x29 x30:List UInt8) (x31:List AV) (x32:Int):DT (Rd qdm):=
 .br (decide (x0 < (x31.length:Int)))
 (.br (qaw [.int .i64,.int .i64,.str] x31 x0)
 (.bi (qiH x1 (strOf (cellAt x31 x0 2))) (fun y0=>
 .br (!y0.2.2)
 (.at (.done 0))
 (.br (decide (intOf (cellAt x31 x0 0) < 1000))
 (.bi (qcN x3 (intOf (cellAt x31 x0 0))) (fun y1=>
 .br (!y1.2.2.2.2)
 (.at (.done 0))
 (.bi (qiA x3 (intOf (cellAt x31 x0 0))) (fun y2=>
 .br ((y2.length:Int) != 1)
 (.at (.done 0))
 (.bi (qiA x3 (intOf (cellAt x31 x0 0))) (fun y3=>
 .br (qaw [.int .i64] y3 0)
 (.br (intOf (cellAt y3 0 0) != intOf (cellAt x31 x0 0))
 (.at (.done 0))
 (.at (.next ((IntKind.i64.wrap (x0 + 1),x1,x2,x3,x4,x5,x6,x7,x8,x9,x10,x11,x12,x13,x14,x15,x16,x17,x18,x19,x20,x21,x22,x23,x24,x25,x26,x27,x28,x29,x30,x31,x32)))))
 (.no))
 (.no)))
 (.no)))
 (.no))
 (.bi (qoI x1 x2 x3 x4 x5 x6 x7 x8 x9 x10 x11 x12 x13 x14 x15 x16 x17 x18 x19 x20 x21 x22 (intOf (cellAt x31 x0 0)) x24) (fun y1=>
 .bi (br (!y1.2.2.2.2.2.2.2.2.2.2.2.2.2.2.2.2.2.2.2) (some true) (some !y1.2.1 == strOf (cellAt x31 x0 2))) (fun y2=>
 .bi (br y2 (some true)
 (br (sm (qd8 x1 x2 x3 x4 x5 x6 x7 x8 x9 x10 x11 x12 x13 x14 x15 x16 x17 x18 x19 x20 x21 x22 (intOf (cellAt x31 x0 0)) x24))
 (some !gv (qd8 x1 x2 x3 x4 x5 x6 x7 x8 x9 x10 x11 x12 x13 x14 x15 x16 x17 x18 x19 x20 x21 x22 (intOf (cellAt x31 x0 0)) x24)) none)) (fun y3=>
 .br (y3)
 (.at (.done 0))
 (.at (.next ((IntKind.i64.wrap (x0 + 1),x1,x2,x3,x4,x5,x6,x7,x8,x9,x10,x11,x12,x13,x14,x15,x16,x17,x18,x19,x20,x21,x22,x23,x24,x25,x26,x27,x28,x29,x30,x31,x32)))))
 (.no))
 (.no))
 (.no))))
 (.no))
 (.no))
 (.at (.done 1))
def qj5:qdm -> DT (Rd qdm):=(fun v=>qpJ v.1 v.2.1 v.2.2.1 v.2.2.2.1 v.2.2.2.2.1 v.2.2.2.2.2.1 v.2.2.2.2.2.2.1 v.2.2.2.2.2.2.2.1 v.2.2.2.2.2.2.2.2.1 v.2.2.2.2.2.2.2.2.2.1 v.2.2.2.2.2.2.2.2.2.2.1 v.2.2.2.2.2.2.2.2.2.2.2.1 v.2.2.2.2.2.2.2.2.2.2.2.2.1 v.2.2.2.2.2.2.2.2.2.2.2.2.2.1 v.2.2.2.2.2.2.2.2.2.2.2.2.2.2.1 v.2.2.2.2.2.2.2.2.2.2.2.2.2.2.2.1 v.2.2.2.2.2.2.2.2.2.2.2.2.2.2.2.2.1 v.2.2.2.2.2.2.2.2.2.2.2.2.2.2.2.2.2.1 v.2.2.2.2.2.2.2.2.2.2.2.2.2.2.2.2.2.2.1 v.2.2.2.2.2.2.2.2.2.2.2.2.2.2.2.2.2.2.2.1 v.2.2.2.2.2.2.2.2.2.2.2.2.2.2.2.2.2.2.2.2.1 v.2.2.2.2.2.2.2.2.2.2.2.2.2.2.2.2.2.2.2.2.2.1 v.2.2.2.2.2.2.2.2.2.2.2.2.2.2.2.2.2.2.2.2.2.2.1 v.2.2.2.2.2.2.2.2.2.2.2.2.2.2.2.2.2.2.2.2.2.2.2.1 v.2.2.2.2.2.2.2.2.2.2.2.2.2.2.2.2.2.2.2.2.2.2.2.2.1 v.2.2.2.2.2.2.2.2.2.2.2.2.2.2.2.2.2.2.2.2.2.2.2.2.2.1 v.2.2.2.2.2.2.2.2.2.2.2.2.2.2.2.2.2.2.2.2.2.2.2.2.2.2.1 v.2.2.2.2.2.2.2.2.2.2.2.2.2.2.2.2.2.2.2.2.2.2.2.2.2.2.2.1 v.2.2.2.2.2.2.2.2.2.2.2.2.2.2.2.2.2.2.2.2.2.2.2.2.2.2.2.2.1 v.2.2.2.2.2.2.2.2.2.2.2.2.2.2.2.2.2.2.2.2.2.2.2.2.2.2.2.2.2.1 v.2.2.2.2.2.2.2.2.2.2.2.2.2.2.2.2.2.2.2.2.2.2.2.2.2.2.2.2.2.2.1 v.2.2.2.2.2.2.2.2.2.2.2.2.2.2.2.2.2.2.2.2.2.2.2.2.2.2.2.2.2.2.2.1 v.2.2.2.2.2.2.2.2.2.2.2.2.2.2.2.2.2.2.2.2.2.2.2.2.2.2.2.2.2.2.2.2)
def qmO (v:qdm):Option (Nat × qdm):=qaC (qah (fun v=>(qj5 v).ev) v)
theorem qo7 (v):qmO v = qah (fun v=>(qj5 v).ev) v:=qaa _
def qzs:qbi:=LE (τ:=qdm) (hD qyL) (qmO) qWA
theorem qV5:Go.Eng.Told IP (qab F54 0).1 (qab F54 0).2 (qzs):=lp (inferInstance:Inhabited qdm) (hs:=qyL) qj5 qEr qo7
abbrev qDP:Type:=Bool
def qJF:PArgs:=⟨[.agg [.view 2,.view 3,.view 4,.int .i64,.int .i64,.int .i64,.int .i64,.int .i64,.int .i64,.int .i64,.int .i64,.int .i64,.int .i64,.int .i64,.int .i64,.int .i64,.int .i64,.view 19,.view 7,.view 10,.view 6,.view 7],.agg [.int .i64,.int .i64,.int .i64,.int .i64,.int .i64,.int .i64,.str,.str,.view 3,.int .u64]],[]⟩
def qKZ:List PRes:=[⟨false,.bool,[]⟩]
def qla (x0 x1 x2:List AV) (x3 x4:Int) (x5 x6:Int) (x7 x8:Int) (x9 x10:Int) (x11 x12:Int) (x13 x14:Int) (x15 x16:Int) (x17 x18:List AV) (x19 x20 x21:List AV) (x22 x23:Int) (x24 x25:Int) (x26 x27:Int) (x28 x29:List UInt8) (x30:List AV) (x31:Int):DT qDP:=
 .bi (pj 0 (qmO (0,x0,x1,x2,x3,x4,x5,x6,x7,x8,x9,x10,x11,x12,x13,x14,x15,x16,x17,x18,x19,x20,x21,x22,x23,x24,x25,x26,x27,x28,x29,x30,x31))) (fun y0=>
 .at (false))
 (.bi (pj 1 (qmO (0,x0,x1,x2,x3,x4,x5,x6,x7,x8,x9,x10,x11,x12,x13,x14,x15,x16,x17,x18,x19,x20,x21,x22,x23,x24,x25,x26,x27,x28,x29,x30,x31))) (fun y0=>
 .at (true))
 (.no))
def qiM (x0 x1 x2:List AV) (x3 x4:Int) (x5 x6:Int) (x7 x8:Int) (x9 x10:Int) (x11 x12:Int) (x13 x14:Int) (x15 x16:Int) (x17 x18:List AV) (x19 x20 x21:List AV) (x22 x23:Int) (x24 x25:Int) (x26 x27:Int) (x28 x29:List UInt8) (x30:List AV) (x31:Int):Option qDP:=qaC (qla x0 x1 x2 x3 x4 x5 x6 x7 x8 x9 x10 x11 x12 x13 x14 x15 x16 x17 x18 x19 x20 x21 x22 x23 x24 x25 x26 x27 x28 x29 x30 x31).ev
theorem qBy (x0 x1 x2 x3 x4 x5 x6 x7 x8 x9 x10 x11 x12 x13 x14 x15 x16 x17 x18 x19 x20 x21 x22 x23 x24 x25 x26 x27 x28 x29 x30 x31):qiM x0 x1 x2 x3 x4 x5 x6 x7 x8 x9 x10 x11 x12 x13 x14 x15 x16 x17 x18 x19 x20 x21 x22 x23 x24 x25 x26 x27 x28 x29 x30 x31 = (qla x0 x1 x2 x3 x4 x5 x6 x7 x8 x9 x10 x11 x12 x13 x14 x15 x16 x17 x18 x19 x20 x21 x22 x23 x24 x25 x26 x27 x28 x29 x30 x31).ev:=qaa _
theorem qUH:FH IP 54 qJF qKZ (k32 qiM):=qam (F:=F54) (L:=[(1005400,qzs)]) (t:=(k32 qla)) qEr (qae (l:=[qab F54 0]) (by kernel_rfl) ⟨qal (by kernel_rfl) qV5,trivial⟩) (by kernel_rfl) (fun v=>by kernel_rfl) (fun _=>qaa _)
def T70:Tab:=(54,FE qJF qKZ (k32 qiM)) :: T69
theorem qx5:qau IP T70:=⟨qay qUH,qEr⟩
abbrev qeE:Type:=Int × Int × List AV × List AV × List AV × Int × Int × Int × Int × Int × Int × Int × Int × Int × Int × Int × Int × Int × Int × List AV × List AV × List AV × List AV × List AV × Int × Int × Int × Int × Int × Int × List UInt8 × List UInt8 × List AV × Int
def qF0:List PSt:=[⟨[(1002001,.junk),(1,.ref 0 0 0),(3,.int .i64),(4,.ref 1 0 0),(5,.int .i64)],[(0,.box [.view 2,.view 3,.view 4,.int .i64,.int .i64,.int .i64,.int .i64,.int .i64,.int .i64,.int .i64,.int .i64,.int .i64,.int .i64,.int .i64,.int .i64,.int .i64,.int .i64,.view 19,.view 7,.view 10,.view 6,.view 7] false),(1,.box [.int .i64,.int .i64,.int .i64,.int .i64,.int .i64,.int .i64,.str,.str,.view 3,.int .u64] false)],2,0⟩]
def qOQ (x0 x1:Int) (x2 x3 x4:List AV) (x5 x6:Int) (x7 x8:Int) (x9 x10:Int) (x11 x12:Int) (x13 x14:Int) (x15 x16:Int) (x17 x18:Int) (x19 x20:List AV) (x21 x22 x23:List AV) (x24 x25:Int) (x26 x27:Int) (x28 x29:Int) (x30 x31:List UInt8) (x32:List AV) (x33:Int):X × St:=(.ret,
 ⟨[(1,.ref 0 0 0),(2,.bool false),(3,.int .i64 x0)],[(0,
 .box
 [.view 2 x2,.view 3 x3,.view 4 x4,.int .i64 x5,.int .i64 x6,.int .i64 x7,.int .i64 x8,.int .i64 x9,
 .int .i64 x10,.int .i64 x11,.int .i64 x12,.int .i64 x13,.int .i64 x14,.int .i64 x15,
 .int .i64 x16,.int .i64 x17,.int .i64 x18,.view 19 x19,.view 7 x20,.view 10 x21,.view 6 x22,.view 7 x23]
 false)],1,0⟩)
def qOR (x0 x1:Int) (x2 x3 x4:List AV) (x5 x6:Int) (x7 x8:Int) (x9 x10:Int) (x11 x12:Int) (x13 x14:Int) (x15 x16:Int) (x17 x18:Int) (x19 x20:List AV) (x21 x22 x23:List AV) (x24 x25:Int) (x26 x27:Int) (x28 x29:Int) (x30 x31:List UInt8) (x32:List AV) (x33:Int):X × St:=(.exit 2,
 ⟨[(1,.ref 0 0 0),(2,.junk),(3,.int .i64 x0)],[(0,
 .box
 [.view 2 x2,.view 3 x3,.view 4 x4,.int .i64 x5,.int .i64 x6,.int .i64 x7,.int .i64 x8,.int .i64 x9,
 .int .i64 x10,.int .i64 x11,.int .i64 x12,.int .i64 x13,.int .i64 x14,.int .i64 x15,
 .int .i64 x16,.int .i64 x17,.int .i64 x18,.view 19 x19,.view 7 x20,.view 10 x21,.view 6 x22,.view 7 x23]
 false)],1,0⟩)
def q1o:List (qeE -> X × St):=[(k34 qOQ),(k34 qOR)]
def qvf (x0 x1:Int) (x2 x3 x4:List AV) (x5 x6:Int) (x7 x8:Int) (x9 x10:Int) (x11 x12:Int) (x13 x14:Int) (x15 x16:Int) (x17 x18:Int) (x19 x20:List AV) (x21 x22 x23:List AV) (x24 x25:Int) (x26 x27:Int) (x28 x29:Int) (x30 x31:List UInt8) (x32:List AV) (x33:Int):DT (Rd qeE):=
 .br (decide (x1 < x0))
 (.br (qaw [.int .i64,.int .i64,.int .i64,.int .i64,.int .i64,.int .i64,.str,.str,.slice 3,.int .u64] x21 x1)
 (.br (strOf (cellAt x21 x1 6) == x30)
 (.at (.done 0))
 (.at (.next ((x0,IntKind.i64.wrap (x1 + 1),x2,x3,x4,x5,x6,x7,x8,x9,x10,x11,x12,x13,x14,x15,x16,x17,x18,x19,x20,x21,x22,x23,x24,x25,x26,x27,x28,x29,x30,x31,x32,x33)))))
 (.no))
 (.at (.done 1))
def qq2:qeE -> DT (Rd qeE):=(fun v=>qvf v.1 v.2.1 v.2.2.1 v.2.2.2.1 v.2.2.2.2.1 v.2.2.2.2.2.1 v.2.2.2.2.2.2.1 v.2.2.2.2.2.2.2.1 v.2.2.2.2.2.2.2.2.1 v.2.2.2.2.2.2.2.2.2.1 v.2.2.2.2.2.2.2.2.2.2.1 v.2.2.2.2.2.2.2.2.2.2.2.1 v.2.2.2.2.2.2.2.2.2.2.2.2.1 v.2.2.2.2.2.2.2.2.2.2.2.2.2.1 v.2.2.2.2.2.2.2.2.2.2.2.2.2.2.1 v.2.2.2.2.2.2.2.2.2.2.2.2.2.2.2.1 v.2.2.2.2.2.2.2.2.2.2.2.2.2.2.2.2.1 v.2.2.2.2.2.2.2.2.2.2.2.2.2.2.2.2.2.1 v.2.2.2.2.2.2.2.2.2.2.2.2.2.2.2.2.2.2.1 v.2.2.2.2.2.2.2.2.2.2.2.2.2.2.2.2.2.2.2.1 v.2.2.2.2.2.2.2.2.2.2.2.2.2.2.2.2.2.2.2.2.1 v.2.2.2.2.2.2.2.2.2.2.2.2.2.2.2.2.2.2.2.2.2.1 v.2.2.2.2.2.2.2.2.2.2.2.2.2.2.2.2.2.2.2.2.2.2.1 v.2.2.2.2.2.2.2.2.2.2.2.2.2.2.2.2.2.2.2.2.2.2.2.1 v.2.2.2.2.2.2.2.2.2.2.2.2.2.2.2.2.2.2.2.2.2.2.2.2.1 v.2.2.2.2.2.2.2.2.2.2.2.2.2.2.2.2.2.2.2.2.2.2.2.2.2.1 v.2.2.2.2.2.2.2.2.2.2.2.2.2.2.2.2.2.2.2.2.2.2.2.2.2.2.1 v.2.2.2.2.2.2.2.2.2.2.2.2.2.2.2.2.2.2.2.2.2.2.2.2.2.2.2.1 v.2.2.2.2.2.2.2.2.2.2.2.2.2.2.2.2.2.2.2.2.2.2.2.2.2.2.2.2.1 v.2.2.2.2.2.2.2.2.2.2.2.2.2.2.2.2.2.2.2.2.2.2.2.2.2.2.2.2.2.1 v.2.2.2.2.2.2.2.2.2.2.2.2.2.2.2.2.2.2.2.2.2.2.2.2.2.2.2.2.2.2.1 v.2.2.2.2.2.2.2.2.2.2.2.2.2.2.2.2.2.2.2.2.2.2.2.2.2.2.2.2.2.2.2.1 v.2.2.2.2.2.2.2.2.2.2.2.2.2.2.2.2.2.2.2.2.2.2.2.2.2.2.2.2.2.2.2.2.1 v.2.2.2.2.2.2.2.2.2.2.2.2.2.2.2.2.2.2.2.2.2.2.2.2.2.2.2.2.2.2.2.2.2)
def qmT (v:qeE):Option (Nat × qeE):=qaC (qah (fun v=>(qq2 v).ev) v)
theorem qtn (v):qmT v = qah (fun v=>(qq2 v).ev) v:=qaa _
def qHc:qbi:=LE (τ:=qeE) (hD qF0) (qmT) q1o
theorem q0j:Go.Eng.Told IP (qab F20 1).1 (qab F20 1).2 (qHc):=lp (inferInstance:Inhabited qeE) (hs:=qF0) qq2 qx5 qtn
end
end Go.Proofs.H53z
namespace Go.Proofs.H53z
open Go Go.Eng
set_option maxRecDepth 100000
noncomputable section
abbrev qeD:Type:=Int × List AV × List AV × List AV × Int × Int × Int × Int × Int × Int × Int × Int × Int × Int × Int × Int × Int × Int × List AV × List AV × List AV × List AV × List AV
def qFZ:List PSt:=[⟨[(1002000,.junk),(1,.ref 0 0 0),(3,.int .i64)],[(0,.box [.view 2,.view 3,.view 4,.int .i64,.int .i64,.int .i64,.int .i64,.int .i64,.int .i64,.int .i64,.int .i64,.int .i64,.int .i64,.int .i64,.int .i64,.int .i64,.int .i64,.view 19,.view 7,.view 10,.view 6,.view 7] false)],1,0⟩]
def qOO (x0:Int) (x1 x2 x3:List AV) (x4 x5:Int) (x6 x7:Int) (x8 x9:Int) (x10 x11:Int) (x12 x13:Int) (x14 x15:Int) (x16 x17:Int) (x18 x19:List AV) (x20 x21 x22:List AV):X × St:=(.ret,⟨[(2,.bool false)],[],0,0⟩)
def qOP (x0:Int) (x1 x2 x3:List AV) (x4 x5:Int) (x6 x7:Int) (x8 x9:Int) (x10 x11:Int) (x12 x13:Int) (x14 x15:Int) (x16 x17:Int) (x18 x19:List AV) (x20 x21 x22:List AV):X × St:=(.exit 0,⟨[(2,.junk)],[],0,0⟩)
def q1n:List (qeD -> X × St):=[(k23 qOO),(k23 qOP)]
def qve (x0:Int) (x1 x2 x3:List AV) (x4 x5:Int) (x6 x7:Int) (x8 x9:Int) (x10 x11:Int) (x12 x13:Int) (x14 x15:Int) (x16 x17:Int) (x18 x19:List AV) (x20 x21 x22:List AV):DT (Rd qeD):=
 .br (decide (x0 < (x20.length:Int)))
 (.br (qaw [.int .i64,.int .i64,.int .i64,.int .i64,.int .i64,.int .i64,.str,.str,.slice 3,.int .u64] x20 x0)
 (.br (intOf (cellAt x20 x0 0) != IntKind.i64.wrap (x0 + 1))
 (.at (.done 0))
 (.bi (qlY (intOf (cellAt x20 x0 0)) (intOf (cellAt x20 x0 1)) (intOf (cellAt x20 x0 2)) (intOf (cellAt x20 x0 3)) (intOf (cellAt x20 x0 4)) (intOf (cellAt x20 x0 5))
 (strOf (cellAt x20 x0 6)) (strOf (cellAt x20 x0 7)) (qat (cellAt x20 x0 8)) (intOf (cellAt x20 x0 9))) (fun y0=>
 .br (y0 != 0)
 (.at (.done 0))
 (.br (decide (x0 > 0))
 (.br (qaw [.int .i64,.int .i64,.int .i64,.int .i64,.int .i64,.int .i64,.str,.str,.slice 3,.int .u64] x20
 (IntKind.i64.wrap (x0 - 1)))
 (.br (decide (intOf (cellAt x20 x0 1) < intOf (cellAt x20 (IntKind.i64.wrap (x0 - 1)) 1)))
 (.at (.done 0))
 (.bi (qiM x1 x2 x3 x4 x5 x6 x7 x8 x9 x10 x11 x12 x13 x14 x15 x16 x17 x18 x19 x20 x21 x22 (intOf (cellAt x20 x0 0)) (intOf (cellAt x20 x0 1)) (intOf (cellAt x20 x0 2))
 (intOf (cellAt x20 x0 3)) (intOf (cellAt x20 x0 4)) (intOf (cellAt x20 x0 5)) (strOf (cellAt x20 x0 6)) (strOf (cellAt x20 x0 7)) (qat (cellAt x20 x0 8))
 (intOf (cellAt x20 x0 9))) (fun y1=>
 .br (!y1)
 (.at (.done 0))
 (.bi (pj 0
 (qmT
 (x0,0,x1,x2,x3,x4,x5,x6,x7,x8,x9,x10,x11,x12,x13,x14,x15,x16,x17,x18,x19,x20,x21,x22,intOf (cellAt x20 x0 0),intOf (cellAt x20 x0 1),
 intOf (cellAt x20 x0 2),intOf (cellAt x20 x0 3),intOf (cellAt x20 x0 4),intOf (cellAt x20 x0 5),strOf (cellAt x20 x0 6),strOf (cellAt x20 x0 7),
 qat (cellAt x20 x0 8),intOf (cellAt x20 x0 9)))) (fun y2=>
 .at (.done 0))
 (.bi (pj 1
 (qmT
 (x0,0,x1,x2,x3,x4,x5,x6,x7,x8,x9,x10,x11,x12,x13,x14,x15,x16,x17,x18,x19,x20,x21,x22,intOf (cellAt x20 x0 0),intOf (cellAt x20 x0 1),
 intOf (cellAt x20 x0 2),intOf (cellAt x20 x0 3),intOf (cellAt x20 x0 4),intOf (cellAt x20 x0 5),strOf (cellAt x20 x0 6),strOf (cellAt x20 x0 7),
 qat (cellAt x20 x0 8),intOf (cellAt x20 x0 9)))) (fun y2=>
 .at (.next ((IntKind.i64.wrap (y2.1 + 1),y2.2.2.1,y2.2.2.2.1,y2.2.2.2.2.1,y2.2.2.2.2.2.1,y2.2.2.2.2.2.2.1,y2.2.2.2.2.2.2.2.1,y2.2.2.2.2.2.2.2.2.1,y2.2.2.2.2.2.2.2.2.2.1,y2.2.2.2.2.2.2.2.2.2.2.1,y2.2.2.2.2.2.2.2.2.2.2.2.1,y2.2.2.2.2.2.2.2.2.2.2.2.2.1,y2.2.2.2.2.2.2.2.2.2.2.2.2.2.1,y2.2.2.2.2.2.2.2.2.2.2.2.2.2.2.1,y2.2.2.2.2.2.2.2.2.2.2.2.2.2.2.2.1,y2.2.2.2.2.2.2.2.2.2.2.2.2.2.2.2.2.1,y2.2.2.2.2.2.2.2.2.2.2.2.2.2.2.2.2.2.1,y2.2.2.2.2.2.2.2.2.2.2.2.2.2.2.2.2.2.2.1,y2.2.2.2.2.2.2.2.2.2.2.2.2.2.2.2.2.2.2.2.1,y2.2.2.2.2.2.2.2.2.2.2.2.2.2.2.2.2.2.2.2.2.1,y2.2.2.2.2.2.2.2.2.2.2.2.2.2.2.2.2.2.2.2.2.2.1,y2.2.2.2.2.2.2.2.2.2.2.2.2.2.2.2.2.2.2.2.2.2.2.1,y2.2.2.2.2.2.2.2.2.2.2.2.2.2.2.2.2.2.2.2.2.2.2.2.1))))
 (.no))))
 (.no)))
 (.no))
 (.bi (qiM x1 x2 x3 x4 x5 x6 x7 x8 x9 x10 x11 x12 x13 x14 x15 x16 x17 x18 x19 x20 x21 x22 (intOf (cellAt x20 x0 0)) (intOf (cellAt x20 x0 1)) (intOf (cellAt x20 x0 2))
 (intOf (cellAt x20 x0 3)) (intOf (cellAt x20 x0 4)) (intOf (cellAt x20 x0 5)) (strOf (cellAt x20 x0 6)) (strOf (cellAt x20 x0 7)) (qat (cellAt x20 x0 8))
 (intOf (cellAt x20 x0 9))) (fun y1=>
 .br (!y1)
 (.at (.done 0))
 (.bi (pj 0
 (qmT
 (x0,0,x1,x2,x3,x4,x5,x6,x7,x8,x9,x10,x11,x12,x13,x14,x15,x16,x17,x18,x19,x20,x21,x22,intOf (cellAt x20 x0 0),intOf (cellAt x20 x0 1),
 intOf (cellAt x20 x0 2),intOf (cellAt x20 x0 3),intOf (cellAt x20 x0 4),intOf (cellAt x20 x0 5),strOf (cellAt x20 x0 6),strOf (cellAt x20 x0 7),
 qat (cellAt x20 x0 8),intOf (cellAt x20 x0 9)))) (fun y2=>
 .at (.done 0))
 (.bi (pj 1
 (qmT
 (x0,0,x1,x2,x3,x4,x5,x6,x7,x8,x9,x10,x11,x12,x13,x14,x15,x16,x17,x18,x19,x20,x21,x22,intOf (cellAt x20 x0 0),intOf (cellAt x20 x0 1),
 intOf (cellAt x20 x0 2),intOf (cellAt x20 x0 3),intOf (cellAt x20 x0 4),intOf (cellAt x20 x0 5),strOf (cellAt x20 x0 6),strOf (cellAt x20 x0 7),
 qat (cellAt x20 x0 8),intOf (cellAt x20 x0 9)))) (fun y2=>
 .at (.next ((IntKind.i64.wrap (y2.1 + 1),y2.2.2.1,y2.2.2.2.1,y2.2.2.2.2.1,y2.2.2.2.2.2.1,y2.2.2.2.2.2.2.1,y2.2.2.2.2.2.2.2.1,y2.2.2.2.2.2.2.2.2.1,y2.2.2.2.2.2.2.2.2.2.1,y2.2.2.2.2.2.2.2.2.2.2.1,y2.2.2.2.2.2.2.2.2.2.2.2.1,y2.2.2.2.2.2.2.2.2.2.2.2.2.1,y2.2.2.2.2.2.2.2.2.2.2.2.2.2.1,y2.2.2.2.2.2.2.2.2.2.2.2.2.2.2.1,y2.2.2.2.2.2.2.2.2.2.2.2.2.2.2.2.1,y2.2.2.2.2.2.2.2.2.2.2.2.2.2.2.2.2.1,y2.2.2.2.2.2.2.2.2.2.2.2.2.2.2.2.2.2.1,y2.2.2.2.2.2.2.2.2.2.2.2.2.2.2.2.2.2.2.1,y2.2.2.2.2.2.2.2.2.2.2.2.2.2.2.2.2.2.2.2.1,y2.2.2.2.2.2.2.2.2.2.2.2.2.2.2.2.2.2.2.2.2.1,y2.2.2.2.2.2.2.2.2.2.2.2.2.2.2.2.2.2.2.2.2.2.1,y2.2.2.2.2.2.2.2.2.2.2.2.2.2.2.2.2.2.2.2.2.2.2.1,y2.2.2.2.2.2.2.2.2.2.2.2.2.2.2.2.2.2.2.2.2.2.2.2.1))))
 (.no))))
 (.no))))
 (.no)))
 (.no))
 (.at (.done 1))
def qq1:qeD -> DT (Rd qeD):=(fun v=>qve v.1 v.2.1 v.2.2.1 v.2.2.2.1 v.2.2.2.2.1 v.2.2.2.2.2.1 v.2.2.2.2.2.2.1 v.2.2.2.2.2.2.2.1 v.2.2.2.2.2.2.2.2.1 v.2.2.2.2.2.2.2.2.2.1 v.2.2.2.2.2.2.2.2.2.2.1 v.2.2.2.2.2.2.2.2.2.2.2.1 v.2.2.2.2.2.2.2.2.2.2.2.2.1 v.2.2.2.2.2.2.2.2.2.2.2.2.2.1 v.2.2.2.2.2.2.2.2.2.2.2.2.2.2.1 v.2.2.2.2.2.2.2.2.2.2.2.2.2.2.2.1 v.2.2.2.2.2.2.2.2.2.2.2.2.2.2.2.2.1 v.2.2.2.2.2.2.2.2.2.2.2.2.2.2.2.2.2.1 v.2.2.2.2.2.2.2.2.2.2.2.2.2.2.2.2.2.2.1 v.2.2.2.2.2.2.2.2.2.2.2.2.2.2.2.2.2.2.2.1 v.2.2.2.2.2.2.2.2.2.2.2.2.2.2.2.2.2.2.2.2.1 v.2.2.2.2.2.2.2.2.2.2.2.2.2.2.2.2.2.2.2.2.2.1 v.2.2.2.2.2.2.2.2.2.2.2.2.2.2.2.2.2.2.2.2.2.2)
def qtl (v:qeD):Option (Nat × qeD):=qaC (qah (fun v=>(qq1 v).ev) v)
theorem qtm (v):qtl v = qah (fun v=>(qq1 v).ev) v:=qaa _
def qHb:qbi:=LE (τ:=qeD) (hD qFZ) (qtl) q1n
theorem q0i:Go.Eng.Told IP (qab F20 0).1 (qab F20 0).2 (qHb):=qaj (inferInstance:Inhabited qeD) (hs:=qFZ) (st:=qq1) (L:=[(1002001,qHc)]) qx5 (qae (l:=[qab F20 1]) (by kernel_rfl) ⟨qal (by kernel_rfl) q0j,trivial⟩) (qtm) (fun v=>by kernel_rfl) (fun v=>by kernel_rfl)
abbrev qQZ:Type:=Bool
def qSL:PArgs:=⟨[.agg [.view 2,.view 3,.view 4,.int .i64,.int .i64,.int .i64,.int .i64,.int .i64,.int .i64,.int .i64,.int .i64,.int .i64,.int .i64,.int .i64,.int .i64,.int .i64,.int .i64,.view 19,.view 7,.view 10,.view 6,.view 7]],[]⟩
def qTf:List PRes:=[⟨false,.bool,[]⟩]
def qsa (x0 x1 x2:List AV) (x3 x4:Int) (x5 x6:Int) (x7 x8:Int) (x9 x10:Int) (x11 x12:Int) (x13 x14:Int) (x15 x16:Int) (x17 x18:List AV) (x19 x20 x21:List AV):DT qQZ:=
 .bi (pj 0 (qtl (0,x0,x1,x2,x3,x4,x5,x6,x7,x8,x9,x10,x11,x12,x13,x14,x15,x16,x17,x18,x19,x20,x21))) (fun y0=>
 .at (false))
 (.bi (pj 1 (qtl (0,x0,x1,x2,x3,x4,x5,x6,x7,x8,x9,x10,x11,x12,x13,x14,x15,x16,x17,x18,x19,x20,x21))) (fun y0=>
 .at (true))
 (.no))
def qoK (x0 x1 x2:List AV) (x3 x4:Int) (x5 x6:Int) (x7 x8:Int) (x9 x10:Int) (x11 x12:Int) (x13 x14:Int) (x15 x16:Int) (x17 x18:List AV) (x19 x20 x21:List AV):Option qQZ:=qaC (qsa x0 x1 x2 x3 x4 x5 x6 x7 x8 x9 x10 x11 x12 x13 x14 x15 x16 x17 x18 x19 x20 x21).ev
theorem qFF (x0 x1 x2 x3 x4 x5 x6 x7 x8 x9 x10 x11 x12 x13 x14 x15 x16 x17 x18 x19 x20 x21):qoK x0 x1 x2 x3 x4 x5 x6 x7 x8 x9 x10 x11 x12 x13 x14 x15 x16 x17 x18 x19 x20 x21 = (qsa x0 x1 x2 x3 x4 x5 x6 x7 x8 x9 x10 x11 x12 x13 x14 x15 x16 x17 x18 x19 x20 x21).ev:=qaa _
theorem qYt:FH IP 20 qSL qTf (k22 qoK):=qam (F:=F20) (L:=[(1002000,qHb)]) (t:=(k22 qsa)) qx5 (qae (l:=[qab F20 0,qab F20 1]) (by kernel_rfl) ⟨qal (by kernel_rfl) q0i,qu9 (by kernel_rfl),trivial⟩) (by kernel_rfl) (fun v=>by kernel_rfl) (fun _=>qaa _)
def T71:Tab:=(20,FE qSL qTf (k22 qoK)) :: T70
theorem qRw:qau IP T71:=⟨qay qYt,qx5⟩
abbrev qDV:Type:=Int
def qJL:PArgs:=⟨[.agg [.int .i64,.int .i64,.int .i64,.int .i64,.int .i64,.str]],[]⟩
def qK5:List PRes:=[⟨false,.int .i64,[]⟩]
def qlg (x0 x1:Int) (x2 x3 x4:Int) (x5:List UInt8):DT qDV:=
 .bi (br (decide (x0 < 1)) (some true) (some (decide (x1 < 1000)))) (fun y0=>
 .bi (br y0 (some true) (some (decide (x2 < 1)))) (fun y1=>
 .bi (br y1 (some true) (some (decide (x2 > 1000000000000)))) (fun y2=>
 .bi (br y2 (some true) (br (sm (qbf x3)) (some !gv (qbf x3)) none)) (fun y3=>
 .bi (br y3 (some true) (br (sm (qbf x4)) (some !gv (qbf x4)) none)) (fun y4=>
 .bi (br y4 (some true) (some (decide (x4 < x3)))) (fun y5=>
 .br (y5)
 (.at (1))
 (.bi (qiN x5) (fun y6=>
 .br (!y6) (.at (4)) (.at (0)))
 (.no)))
 (.no))
 (.no))
 (.no))
 (.no))
 (.no))
 (.no)
def qhk (x0 x1:Int) (x2 x3 x4:Int) (x5:List UInt8):Option qDV:=qaC (qlg x0 x1 x2 x3 x4 x5).ev
theorem qBE (x0 x1 x2 x3 x4 x5):qhk x0 x1 x2 x3 x4 x5 = (qlg x0 x1 x2 x3 x4 x5).ev:=qaa _
theorem qUN:FH IP 55 qJL qK5 (k6 qhk):=fh F55 (k6 qlg) qRw
def T72:Tab:=(55,FE qJL qK5 (k6 qhk)) :: T71
theorem qEs:qau IP T72:=⟨qay qUN,qRw⟩
abbrev qfc:Type:=List AV × List UInt8 × Int
def qGE:List PSt:=[⟨[(1005600,.junk),(0,.view 6),(1,.str),(5,.int .i64)],[],0,0⟩]
def qQa (x0:List AV) (x1:List UInt8) (x2:Int):X × St:=(.ret,⟨[(4,.bool true)],[],0,0⟩)
def qQb (x0:List AV) (x1:List UInt8) (x2:Int):X × St:=(.exit 0,⟨[(4,.junk)],[],0,0⟩)
def q12:List (qfc -> X × St):=[(k3 qQa),(k3 qQb)]
def qvD (x0:List AV) (x1:List UInt8) (x2:Int):DT (Rd qfc):=
 .br (decide (x2 < (x0.length:Int)))
 (.br (qaw [.int .i64,.int .i64,.int .i64,.int .i64,.int .i64,.str] x0 x2)
 (.br (strOf (cellAt x0 x2 5) == x1) (.at (.done 0)) (.at (.next ((x0,x1,IntKind.i64.wrap (x2 + 1))))))
 (.no))
 (.at (.done 1))
def qrr:qfc -> DT (Rd qfc):=(fun v=>qvD v.1 v.2.1 v.2.2)
def qug (v:qfc):Option (Nat × qfc):=qaC (qah (fun v=>(qrr v).ev) v)
theorem quh (v):qug v = qah (fun v=>(qrr v).ev) v:=qaa _
def qHQ:qbi:=LE (τ:=qfc) (hD qGE) (qug) q12
theorem q0X:Go.Eng.Told IP (qab F56 0).1 (qab F56 0).2 (qHQ):=lp (inferInstance:Inhabited qfc) (hs:=qGE) qrr qEs quh
abbrev qDn:Type:=Bool
def qJc:PArgs:=⟨[.view 6,.str],[]⟩
def qKw:List PRes:=[⟨false,.bool,[]⟩]
def qkE (x0:List AV) (x1:List UInt8):DT qDn:=
 .bi (pj 0 (qug (x0,x1,0))) (fun y0=>
 .at (true))
 (.bi (pj 1 (qug (x0,x1,0))) (fun y0=>
 .at (false))
 (.no))
def qhc (x0:List AV) (x1:List UInt8):Option qDn:=qaC (qkE x0 x1).ev
theorem qA3 (x0 x1):qhc x0 x1 = (qkE x0 x1).ev:=qaa _
theorem qUe:FH IP 56 qJc qKw (k2 qhc):=qam (F:=F56) (L:=[(1005600,qHQ)]) (t:=(k2 qkE)) qEs (qae (l:=[qab F56 0]) (by kernel_rfl) ⟨qal (by kernel_rfl) q0X,trivial⟩) (by kernel_rfl) (fun v=>by kernel_rfl) (fun _=>qaa _)
def T73:Tab:=(56,FE qJc qKw (k2 qhc)) :: T72
theorem qEt:qau IP T73:=⟨qay qUe,qEs⟩
abbrev qe9:Type:=List AV × Int
def qGB:List PSt:=[⟨[(1002100,.junk),(0,.view 6),(3,.int .i64)],[],0,0⟩]
def qP3 (x0:List AV) (x1:Int):X × St:=(.ret,
 ⟨[(2,
 .int .i64
 (gv
 (qhk (intOf (cellAt x0 x1 0)) (intOf (cellAt x0 x1 1)) (intOf (cellAt x0 x1 2)) (intOf (cellAt x0 x1 3)) (intOf (cellAt x0 x1 4)) (strOf (cellAt x0 x1 5)))))],[],0,0⟩)
def qP4 (x0:List AV) (x1:Int):X × St:=(.ret,⟨[(2,.int .i64 10)],[],0,0⟩)
def qP5 (x0:List AV) (x1:Int):X × St:=(.ret,⟨[(2,.int .i64 12)],[],0,0⟩)
def qP6 (x0:List AV) (x1:Int):X × St:=(.exit 0,⟨[(2,.junk)],[],0,0⟩)
def q1Z:List (qe9 -> X × St):=[(k2 qP3),(k2 qP4),(k2 qP5),(k2 qP6)]
def qvB (x0:List AV) (x1:Int):DT (Rd qe9):=
 .br (decide (x1 < (x0.length:Int)))
 (.br (qaw [.int .i64,.int .i64,.int .i64,.int .i64,.int .i64,.str] x0 x1)
 (.bi (qhk (intOf (cellAt x0 x1 0)) (intOf (cellAt x0 x1 1)) (intOf (cellAt x0 x1 2)) (intOf (cellAt x0 x1 3)) (intOf (cellAt x0 x1 4)) (strOf (cellAt x0 x1 5))) (fun y0=>
 .br (y0 != 0)
 (.at (.done 0))
 (.br (decide (x1 > 0))
 (.br (qaw [.int .i64,.int .i64,.int .i64,.int .i64,.int .i64,.str] x0 x1)
 (.br (qaw [.int .i64,.int .i64,.int .i64,.int .i64,.int .i64,.str] x0 (IntKind.i64.wrap (x1 - 1)))
 (.br (decide (intOf (cellAt x0 x1 0) <= intOf (cellAt x0 (IntKind.i64.wrap (x1 - 1)) 0)))
 (.at (.done 1))
 (.br (leB x1 x0.length && true)
 (.br (qaw [.int .i64,.int .i64,.int .i64,.int .i64,.int .i64,.str] x0 x1)
 (.bi (qhc (List.take x1.toNat x0) (strOf (cellAt x0 x1 5))) (fun y1=>
 .br (y1) (.at (.done 2)) (.at (.next ((x0,IntKind.i64.wrap (x1 + 1))))))
 (.no))
 (.no))
 (.no)))
 (.no))
 (.no))
 (.br (leB x1 x0.length && true)
 (.br (qaw [.int .i64,.int .i64,.int .i64,.int .i64,.int .i64,.str] x0 x1)
 (.bi (qhc (List.take x1.toNat x0) (strOf (cellAt x0 x1 5))) (fun y1=>
 .br (y1) (.at (.done 2)) (.at (.next ((x0,IntKind.i64.wrap (x1 + 1))))))
 (.no))
 (.no))
 (.no))))
 (.no))
 (.no))
 (.at (.done 3))
def qro:qe9 -> DT (Rd qe9):=(fun v=>qvB v.1 v.2)
def qm2 (v:qe9):Option (Nat × qe9):=qaC (qah (fun v=>(qro v).ev) v)
theorem quc (v):qm2 v = qah (fun v=>(qro v).ev) v:=qaa _
def qHN:qbi:=LE (τ:=qe9) (hD qGB) (qm2) q1Z
theorem q0U:Go.Eng.Told IP (qab F21 0).1 (qab F21 0).2 (qHN):=lp (inferInstance:Inhabited qe9) (hs:=qGB) qro qEt quc
abbrev qDk:Type:=Int
def qI9:PArgs:=⟨[.view 6],[]⟩
def qKt:List PRes:=[⟨false,.int .i64,[]⟩]
def qkB (x0:List AV):DT qDk:=
 .br (decide ((x0.length:Int) > 64))
 (.at (5))
 (.bi (pj 0 (qm2 (x0,0))) (fun y0=>
 .at (gv
 (qhk (intOf (cellAt y0.1 y0.2 0)) (intOf (cellAt y0.1 y0.2 1)) (intOf (cellAt y0.1 y0.2 2)) (intOf (cellAt y0.1 y0.2 3)) (intOf (cellAt y0.1 y0.2 4))
 (strOf (cellAt y0.1 y0.2 5)))))
 (.bi (pj 1 (qm2 (x0,0))) (fun y0=>
 .at (10))
 (.bi (pj 2 (qm2 (x0,0))) (fun y0=>
 .at (12))
 (.bi (pj 3 (qm2 (x0,0))) (fun y0=>
 .at (0))
 (.no)))))
def qiE (x0:List AV):Option qDk:=qaC (qkB x0).ev
theorem qA0 (x0):qiE x0 = (qkB x0).ev:=qaa _
theorem qUb:FH IP 21 qI9 qKt qiE:=qam (F:=F21) (L:=[(1002100,qHN)]) (t:=qkB) qEt (qae (l:=[qab F21 0]) (by kernel_rfl) ⟨qal (by kernel_rfl) q0U,trivial⟩) (by kernel_rfl) (fun v=>by kernel_rfl) (fun _=>qaa _)
def T74:Tab:=(21,FE qI9 qKt qiE) :: T73
theorem qRx:qau IP T74:=⟨qay qUb,qEt⟩
abbrev qDO:Type:=Bool
def qJD:PArgs:=⟨[.agg [.int .i64,.int .i64,.int .i64,.int .i64,.int .i64,.int .i64,.str]],[]⟩
def qKX:List PRes:=[⟨false,.bool,[]⟩]
def qk8 (x0 x1:Int) (x2 x3:Int) (x4 x5:Int) (x6:List UInt8):DT qDO:=
 .bi (br (decide (x0 < 1)) (some true) (some (decide (x1 < 1000)))) (fun y0=>
 .bi (br y0 (some true) (some (decide (x2 < 1)))) (fun y1=>
 .bi (br y1 (some true) (some (decide (x2 > 4)))) (fun y2=>
 .br (y2)
 (.at (false))
 (.bi (br (x2 == 4) (br (decide (x3 < 1)) (some true) (some (decide (x3 > 1000000000000)))) (some false)) (fun y3=>
 .bi (br y3 (some true) (br (x2 != 4) (some (x3 != 0)) (some false))) (fun y4=>
 .br (y4)
 (.at (false))
 (.bi (qbf x4) (fun y5=>
 .bi (br y5 (br (sm (qbf x5)) (some (gv (qbf x5))) none) (some false)) (fun y6=>
 .bi (br y6 (some (decide (x4 <= x5))) (some false)) (fun y7=>
 .at (y7))
 (.no))
 (.no))
 (.no)))
 (.no))
 (.no)))
 (.no))
 (.no))
 (.no)
def qmj (x0 x1:Int) (x2 x3:Int) (x4 x5:Int) (x6:List UInt8):Option qDO:=qaC (qk8 x0 x1 x2 x3 x4 x5 x6).ev
theorem qBw (x0 x1 x2 x3 x4 x5 x6):qmj x0 x1 x2 x3 x4 x5 x6 = (qk8 x0 x1 x2 x3 x4 x5 x6).ev:=qaa _
theorem qUF:FH IP 57 qJD qKX (k7 qmj):=fh F57 (k7 qk8) qRx
def T75:Tab:=(57,FE qJD qKX (k7 qmj)) :: T74
theorem qEu:qau IP T75:=⟨qay qUF,qRx⟩
abbrev qfd:Type:=List AV × Int
def qGF:List PSt:=[⟨[(1002200,.junk),(0,.view 7),(3,.int .i64)],[],0,0⟩]
def qQc (x0:List AV) (x1:Int):X × St:=(.ret,⟨[(2,.int .i64 1)],[],0,0⟩)
def qQd (x0:List AV) (x1:Int):X × St:=(.ret,⟨[(2,.int .i64 4)],[],0,0⟩)
def qQe (x0:List AV) (x1:Int):X × St:=(.ret,⟨[(2,.int .i64 10)],[],0,0⟩)
def qQf (x0:List AV) (x1:Int):X × St:=(.exit 0,⟨[(2,.junk)],[],0,0⟩)
def q13:List (qfd -> X × St):=[(k2 qQc),(k2 qQd),(k2 qQe),(k2 qQf)]
def qvE (x0:List AV) (x1:Int):DT (Rd qfd):=
 .br (decide (x1 < (x0.length:Int)))
 (.br (qaw [.int .i64,.int .i64,.int .i64,.int .i64,.int .i64,.int .i64,.str] x0 x1)
 (.bi (qmj (intOf (cellAt x0 x1 0)) (intOf (cellAt x0 x1 1)) (intOf (cellAt x0 x1 2)) (intOf (cellAt x0 x1 3)) (intOf (cellAt x0 x1 4)) (intOf (cellAt x0 x1 5))
 (strOf (cellAt x0 x1 6))) (fun y0=>
 .br (!y0)
 (.at (.done 0))
 (.br (qaw [.int .i64,.int .i64,.int .i64,.int .i64,.int .i64,.int .i64,.str] x0 x1)
 (.bi (qiI (strOf (cellAt x0 x1 6))) (fun y1=>
 .br (!y1)
 (.at (.done 1))
 (.br (decide (x1 > 0))
 (.br (qaw [.int .i64,.int .i64,.int .i64,.int .i64,.int .i64,.int .i64,.str] x0 x1)
 (.br (qaw [.int .i64,.int .i64,.int .i64,.int .i64,.int .i64,.int .i64,.str] x0 (IntKind.i64.wrap (x1 - 1)))
 (.br (decide (intOf (cellAt x0 x1 0) <= intOf (cellAt x0 (IntKind.i64.wrap (x1 - 1)) 0))) (.at (.done 2)) (.at (.next ((x0,IntKind.i64.wrap (x1 + 1))))))
 (.no))
 (.no))
 (.at (.next ((x0,IntKind.i64.wrap (x1 + 1)))))))
 (.no))
 (.no)))
 (.no))
 (.no))
 (.at (.done 3))
def qrs:qfd -> DT (Rd qfd):=(fun v=>qvE v.1 v.2)
def qm3 (v:qfd):Option (Nat × qfd):=qaC (qah (fun v=>(qrs v).ev) v)
theorem qui (v):qm3 v = qah (fun v=>(qrs v).ev) v:=qaa _
def qHR:qbi:=LE (τ:=qfd) (hD qGF) (qm3) q13
theorem q0Y:Go.Eng.Told IP (qab F22 0).1 (qab F22 0).2 (qHR):=lp (inferInstance:Inhabited qfd) (hs:=qGF) qrs qEu qui
abbrev qDo:Type:=Int
def qJd:PArgs:=⟨[.view 7],[]⟩
def qKx:List PRes:=[⟨false,.int .i64,[]⟩]
def qkF (x0:List AV):DT qDo:=
 .br (decide ((x0.length:Int) > 64))
 (.at (5))
 (.bi (pj 0 (qm3 (x0,0))) (fun y0=>
 .at (1))
 (.bi (pj 1 (qm3 (x0,0))) (fun y0=>
 .at (4))
 (.bi (pj 2 (qm3 (x0,0))) (fun y0=>
 .at (10))
 (.bi (pj 3 (qm3 (x0,0))) (fun y0=>
 .at (0))
 (.no)))))
def qiG (x0:List AV):Option qDo:=qaC (qkF x0).ev
theorem qA4 (x0):qiG x0 = (qkF x0).ev:=qaa _
theorem qUf:FH IP 22 qJd qKx qiG:=qam (F:=F22) (L:=[(1002200,qHR)]) (t:=qkF) qEu (qae (l:=[qab F22 0]) (by kernel_rfl) ⟨qal (by kernel_rfl) q0Y,trivial⟩) (by kernel_rfl) (fun v=>by kernel_rfl) (fun _=>qaa _)
def T76:Tab:=(22,FE qJd qKx qiG) :: T75
theorem qRy:qau IP T76:=⟨qay qUf,qEu⟩
abbrev qDt:Type:=Bool
def qJi:PArgs:=⟨[.agg [.view 2,.view 3,.view 4,.int .i64,.int .i64,.int .i64,.int .i64,.int .i64,.int .i64,.int .i64,.int .i64,.int .i64,.int .i64,.int .i64,.int .i64,.int .i64,.int .i64,.view 19,.view 7,.view 10,.view 6,.view 7]],[]⟩
def qKC:List PRes:=[⟨false,.bool,[]⟩]
def qkK (x0 x1 x2:List AV) (x3 x4:Int) (x5 x6:Int) (x7 x8:Int) (x9 x10:Int) (x11 x12:Int) (x13 x14:Int) (x15 x16:Int) (x17 x18:List AV) (x19 x20 x21:List AV):DT qDt:=
 .bi (ql4 x0 x1 x2 x3 x4 x5 x6 x7 x8 x9 x10 x11 x12 x13 x14 x15 x16 x17 x18 x19 x20 x21) (fun y0=>
 .bi (br y0 (some true) (br (sm (qiB x0)) (some (gv (qiB x0) != 0)) none)) (fun y1=>
 .bi (br y1 (some true)
 (br (sm (qiD x2 x3 x4 x5 x6 x7 x8 x9 x10 x11 x12 x13 x14 x15 x16)) (some (gv (qiD x2 x3 x4 x5 x6 x7 x8 x9 x10 x11 x12 x13 x14 x15 x16) != 0)) none)) (fun y2=>
 .bi (br y2 (some true) (br (sm (qiC x17)) (some (gv (qiC x17) != 0)) none)) (fun y3=>
 .br (y3)
 (.at (false))
 (.bi (pj 0 (qur (0,x0,x1,x2,x3,x4,x5,x6,x7,x8,x9,x10,x11,x12,x13,x14,x15,x16,x17,x18,x19,x20,x21))) (fun y4=>
 .at (false))
 (.bi (pj 1 (qur (0,x0,x1,x2,x3,x4,x5,x6,x7,x8,x9,x10,x11,x12,x13,x14,x15,x16,x17,x18,x19,x20,x21))) (fun y4=>
 .bi (pj 0
 (qut
 (0,y4.2.1,y4.2.2.1,y4.2.2.2.1,y4.2.2.2.2.1,y4.2.2.2.2.2.1,y4.2.2.2.2.2.2.1,y4.2.2.2.2.2.2.2.1,
 y4.2.2.2.2.2.2.2.2.1,y4.2.2.2.2.2.2.2.2.2.1,y4.2.2.2.2.2.2.2.2.2.2.1,
 y4.2.2.2.2.2.2.2.2.2.2.2.1,y4.2.2.2.2.2.2.2.2.2.2.2.2.1,y4.2.2.2.2.2.2.2.2.2.2.2.2.2.1,
 y4.2.2.2.2.2.2.2.2.2.2.2.2.2.2.1,y4.2.2.2.2.2.2.2.2.2.2.2.2.2.2.2.1,
 y4.2.2.2.2.2.2.2.2.2.2.2.2.2.2.2.2.1,y4.2.2.2.2.2.2.2.2.2.2.2.2.2.2.2.2.2.1,
 y4.2.2.2.2.2.2.2.2.2.2.2.2.2.2.2.2.2.2.1,y4.2.2.2.2.2.2.2.2.2.2.2.2.2.2.2.2.2.2.2.1,
 y4.2.2.2.2.2.2.2.2.2.2.2.2.2.2.2.2.2.2.2.2.1,
 y4.2.2.2.2.2.2.2.2.2.2.2.2.2.2.2.2.2.2.2.2.2.1,
 y4.2.2.2.2.2.2.2.2.2.2.2.2.2.2.2.2.2.2.2.2.2.2))) (fun y5=>
 .at (false))
 (.bi (pj 1
 (qut
 (0,y4.2.1,y4.2.2.1,y4.2.2.2.1,y4.2.2.2.2.1,y4.2.2.2.2.2.1,y4.2.2.2.2.2.2.1,y4.2.2.2.2.2.2.2.1,
 y4.2.2.2.2.2.2.2.2.1,y4.2.2.2.2.2.2.2.2.2.1,y4.2.2.2.2.2.2.2.2.2.2.1,
 y4.2.2.2.2.2.2.2.2.2.2.2.1,y4.2.2.2.2.2.2.2.2.2.2.2.2.1,y4.2.2.2.2.2.2.2.2.2.2.2.2.2.1,
 y4.2.2.2.2.2.2.2.2.2.2.2.2.2.2.1,y4.2.2.2.2.2.2.2.2.2.2.2.2.2.2.2.1,
 y4.2.2.2.2.2.2.2.2.2.2.2.2.2.2.2.2.1,y4.2.2.2.2.2.2.2.2.2.2.2.2.2.2.2.2.2.1,
 y4.2.2.2.2.2.2.2.2.2.2.2.2.2.2.2.2.2.2.1,y4.2.2.2.2.2.2.2.2.2.2.2.2.2.2.2.2.2.2.2.1,
 y4.2.2.2.2.2.2.2.2.2.2.2.2.2.2.2.2.2.2.2.2.1,
 y4.2.2.2.2.2.2.2.2.2.2.2.2.2.2.2.2.2.2.2.2.2.1,
 y4.2.2.2.2.2.2.2.2.2.2.2.2.2.2.2.2.2.2.2.2.2.2))) (fun y5=>
 .bi (ql2 y5.2.1 y5.2.2.1 y5.2.2.2.1 y5.2.2.2.2.1 y5.2.2.2.2.2.1 y5.2.2.2.2.2.2.1 y5.2.2.2.2.2.2.2.1
 y5.2.2.2.2.2.2.2.2.1 y5.2.2.2.2.2.2.2.2.2.1 y5.2.2.2.2.2.2.2.2.2.2.1
 y5.2.2.2.2.2.2.2.2.2.2.2.1 y5.2.2.2.2.2.2.2.2.2.2.2.2.1 y5.2.2.2.2.2.2.2.2.2.2.2.2.2.1
 y5.2.2.2.2.2.2.2.2.2.2.2.2.2.2.1 y5.2.2.2.2.2.2.2.2.2.2.2.2.2.2.2.1
 y5.2.2.2.2.2.2.2.2.2.2.2.2.2.2.2.2.1 y5.2.2.2.2.2.2.2.2.2.2.2.2.2.2.2.2.2.1
 y5.2.2.2.2.2.2.2.2.2.2.2.2.2.2.2.2.2.2.1 y5.2.2.2.2.2.2.2.2.2.2.2.2.2.2.2.2.2.2.2.1
 y5.2.2.2.2.2.2.2.2.2.2.2.2.2.2.2.2.2.2.2.2.1 y5.2.2.2.2.2.2.2.2.2.2.2.2.2.2.2.2.2.2.2.2.2.1
 y5.2.2.2.2.2.2.2.2.2.2.2.2.2.2.2.2.2.2.2.2.2.2) (fun y6=>
 .bi (br (y6 == 0)
 (br
 (sm
 (qoK y5.2.1 y5.2.2.1 y5.2.2.2.1 y5.2.2.2.2.1 y5.2.2.2.2.2.1 y5.2.2.2.2.2.2.1
 y5.2.2.2.2.2.2.2.1 y5.2.2.2.2.2.2.2.2.1 y5.2.2.2.2.2.2.2.2.2.1 y5.2.2.2.2.2.2.2.2.2.2.1
 y5.2.2.2.2.2.2.2.2.2.2.2.1 y5.2.2.2.2.2.2.2.2.2.2.2.2.1 y5.2.2.2.2.2.2.2.2.2.2.2.2.2.1
 y5.2.2.2.2.2.2.2.2.2.2.2.2.2.2.1 y5.2.2.2.2.2.2.2.2.2.2.2.2.2.2.2.1
 y5.2.2.2.2.2.2.2.2.2.2.2.2.2.2.2.2.1 y5.2.2.2.2.2.2.2.2.2.2.2.2.2.2.2.2.2.1
 y5.2.2.2.2.2.2.2.2.2.2.2.2.2.2.2.2.2.2.1 y5.2.2.2.2.2.2.2.2.2.2.2.2.2.2.2.2.2.2.2.1
 y5.2.2.2.2.2.2.2.2.2.2.2.2.2.2.2.2.2.2.2.2.1
 y5.2.2.2.2.2.2.2.2.2.2.2.2.2.2.2.2.2.2.2.2.2.1
 y5.2.2.2.2.2.2.2.2.2.2.2.2.2.2.2.2.2.2.2.2.2.2))
 (some
 (gv
 (qoK y5.2.1 y5.2.2.1 y5.2.2.2.1 y5.2.2.2.2.1 y5.2.2.2.2.2.1 y5.2.2.2.2.2.2.1
 y5.2.2.2.2.2.2.2.1 y5.2.2.2.2.2.2.2.2.1 y5.2.2.2.2.2.2.2.2.2.1 y5.2.2.2.2.2.2.2.2.2.2.1
 y5.2.2.2.2.2.2.2.2.2.2.2.1 y5.2.2.2.2.2.2.2.2.2.2.2.2.1 y5.2.2.2.2.2.2.2.2.2.2.2.2.2.1
 y5.2.2.2.2.2.2.2.2.2.2.2.2.2.2.1 y5.2.2.2.2.2.2.2.2.2.2.2.2.2.2.2.1
 y5.2.2.2.2.2.2.2.2.2.2.2.2.2.2.2.2.1 y5.2.2.2.2.2.2.2.2.2.2.2.2.2.2.2.2.2.1
 y5.2.2.2.2.2.2.2.2.2.2.2.2.2.2.2.2.2.2.1 y5.2.2.2.2.2.2.2.2.2.2.2.2.2.2.2.2.2.2.2.1
 y5.2.2.2.2.2.2.2.2.2.2.2.2.2.2.2.2.2.2.2.2.1
 y5.2.2.2.2.2.2.2.2.2.2.2.2.2.2.2.2.2.2.2.2.2.1
 y5.2.2.2.2.2.2.2.2.2.2.2.2.2.2.2.2.2.2.2.2.2.2)))
 none)
 (some false)) (fun y7=>
 .bi (br y7
 (br (sm (qiE y5.2.2.2.2.2.2.2.2.2.2.2.2.2.2.2.2.2.2.2.2.2.1))
 (some (gv (qiE y5.2.2.2.2.2.2.2.2.2.2.2.2.2.2.2.2.2.2.2.2.2.1) == 0)) none)
 (some false)) (fun y8=>
 .bi (br y8
 (br (sm (qiG y5.2.2.2.2.2.2.2.2.2.2.2.2.2.2.2.2.2.2.2.2.2.2))
 (some (gv (qiG y5.2.2.2.2.2.2.2.2.2.2.2.2.2.2.2.2.2.2.2.2.2.2) == 0)) none)
 (some false)) (fun y9=>
 .at (y9))
 (.no))
 (.no))
 (.no))
 (.no))
 (.no)))
 (.no))))
 (.no))
 (.no))
 (.no))
 (.no)
def qd9 (x0 x1 x2:List AV) (x3 x4:Int) (x5 x6:Int) (x7 x8:Int) (x9 x10:Int) (x11 x12:Int) (x13 x14:Int) (x15 x16:Int) (x17 x18:List AV) (x19 x20 x21:List AV):Option qDt:=qaC (qkK x0 x1 x2 x3 x4 x5 x6 x7 x8 x9 x10 x11 x12 x13 x14 x15 x16 x17 x18 x19 x20 x21).ev
theorem qBa (x0 x1 x2 x3 x4 x5 x6 x7 x8 x9 x10 x11 x12 x13 x14 x15 x16 x17 x18 x19 x20 x21):qd9 x0 x1 x2 x3 x4 x5 x6 x7 x8 x9 x10 x11 x12 x13 x14 x15 x16 x17 x18 x19 x20 x21 = (qkK x0 x1 x2 x3 x4 x5 x6 x7 x8 x9 x10 x11 x12 x13 x14 x15 x16 x17 x18 x19 x20 x21).ev:=qaa _
theorem qUk:FH IP 6 qJi qKC (k22 qd9):=qam (F:=F6) (L:=[(1000600,qHW),(1000601,qHX)]) (t:=(k22 qkK)) qRy (qae (l:=[qab F6 0,qab F6 1]) (by kernel_rfl) ⟨qal (by kernel_rfl) q03,qal (by kernel_rfl) q04,trivial⟩) (by kernel_rfl) (fun v=>by kernel_rfl) (fun _=>qaa _)
def T77:Tab:=(6,FE qJi qKC (k22 qd9)) :: T76
theorem qRz:qau IP T77:=⟨qay qUk,qRy⟩
abbrev qQC:Type:=Bool
def qSo:PArgs:=⟨[.agg [.int .i64,.int .i64,.int .i64,.int .i64,.str,.str,.str],.ptr [.int .i64]],[]⟩
def qSS:List PRes:=[⟨false,.bool,[]⟩]
def qxK (x0 x1:Int) (x2 x3:Int) (x4 x5 x6:List UInt8) (x7:Int):DT qQC:=
 .at (x0 == x7)
def qsR (x0 x1:Int) (x2 x3:Int) (x4 x5 x6:List UInt8) (x7:Int):Option qQC:=qaC (qxK x0 x1 x2 x3 x4 x5 x6 x7).ev
theorem qFk (x0 x1 x2 x3 x4 x5 x6 x7):qsR x0 x1 x2 x3 x4 x5 x6 x7 = (qxK x0 x1 x2 x3 x4 x5 x6 x7).ev:=qaa _
theorem qX5:FH IP 107 qSo qSS (k8 qsR):=fh q2Y (k8 qxK) qRz
def T78:Tab:=(107,FE qSo qSS (k8 qsR)) :: T77
theorem qEv:qau IP T78:=⟨qay qX5,qRz⟩
abbrev qhH:Type:=List AV × Int × Int × Int
def qRZ:List PSt:=[⟨[(1010600,.junk),(0,.view 7),(1,.fn (.func 107) [.ptr [.int .i64]]),(7,.int .i64),(8,.int .i64)],[],0,0⟩]
def qWk (x0:List AV) (x1 x2 x3:Int):X × St:=(.ret,⟨[(4,.int .i64 x3)],[],0,0⟩)
def qWl (x0:List AV) (x1 x2 x3:Int):X × St:=(.exit 0,⟨[(4,.junk)],[],0,0⟩)
def q5E:List (qhH -> X × St):=[(k4 qWk),(k4 qWl)]
def qqV (x0:List AV) (x1 x2 x3:Int):DT (Rd qhH):=
 .br (decide (x3 < x2))
 (.br (qaw [.int .i64,.int .i64,.int .i64,.int .i64,.str,.str,.str] x0 x3)
 (.bi (qsR (intOf (cellAt x0 x3 0)) (intOf (cellAt x0 x3 1)) (intOf (cellAt x0 x3 2)) (intOf (cellAt x0 x3 3)) (strOf (cellAt x0 x3 4)) (strOf (cellAt x0 x3 5))
 (strOf (cellAt x0 x3 6)) x1) (fun y0=>
 .br (y0) (.at (.done 0)) (.at (.next ((x0,x1,x2,IntKind.i64.wrap (x3 + 1))))))
 (.no))
 (.no))
 (.at (.done 1))
def qvc:qhH -> DT (Rd qhH):=(fun v=>qqV v.1 v.2.1 v.2.2.1 v.2.2.2)
def qGR (v:qhH):Option (Nat × qhH):=qaC (qah (fun v=>(qvc v).ev) v)
theorem qyX (v):qGR v = qah (fun v=>(qvc v).ev) v:=qaa _
def qR8:qbi:=LE (τ:=qhH) (hD qRZ) (qGR) q5E
theorem q5t:Go.Eng.Told IP (qab qWS 0).1 (qab qWS 0).2 (qR8):=lp (inferInstance:Inhabited qhH) (hs:=qRZ) qvc qEv qyX
abbrev qXD:Type:=Int
def qZy:PArgs:=⟨[.view 7,.fn (.func 107) [.ptr [.int .i64]]],[]⟩
def qZP:List PRes:=[⟨false,.int .i64,[]⟩]
def qz0 (x0:List AV) (x1:Int):DT qXD:=
 .bi (pj 0 (qGR (x0,x1,(x0.length:Int),0))) (fun y0=>
 .at (y0.2.2.2))
 (.bi (pj 1 (qGR (x0,x1,(x0.length:Int),0))) (fun y0=>
 .at (-1))
 (.no))
def qNr (x0:List AV) (x1:Int):Option qXD:=qaC (qz0 x0 x1).ev
theorem qNs (x0 x1):qNr x0 x1 = (qz0 x0 x1).ev:=qaa _
theorem q3p:FH IP 106 qZy qZP (k2 qNr):=qam (F:=qWS) (L:=[(1010600,qR8)]) (t:=(k2 qz0)) qEv (qae (l:=[qab qWS 0]) (by kernel_rfl) ⟨qal (by kernel_rfl) q5t,trivial⟩) (by kernel_rfl) (fun v=>by kernel_rfl) (fun _=>qaa _)
def T79:Tab:=(106,FE qZy qZP (k2 qNr)) :: T78
theorem qRA:qau IP T79:=⟨qay q3p,qEv⟩
abbrev qQK:Type:=Int
def qSw:PArgs:=⟨[.agg [.view 2,.view 3,.view 4,.int .i64,.int .i64,.int .i64,.int .i64,.int .i64,.int .i64,.int .i64,.int .i64,.int .i64,.int .i64,.int .i64,.int .i64,.int .i64,.int .i64,.view 19,.view 7,.view 10,.view 6,.view 7],.int .i64],[]⟩
def qS0:List PRes:=[⟨false,.int .i64,[]⟩]
def qrQ (x0 x1 x2:List AV) (x3 x4:Int) (x5 x6:Int) (x7 x8:Int) (x9 x10:Int) (x11 x12:Int) (x13 x14:Int) (x15 x16:Int) (x17 x18:List AV) (x19 x20 x21:List AV) (x22:Int):DT qQK:=
 .bi (qNr x18 x22) (fun y0=>
 .at (y0))
 (.no)
def qyo (x0 x1 x2:List AV) (x3 x4:Int) (x5 x6:Int) (x7 x8:Int) (x9 x10:Int) (x11 x12:Int) (x13 x14:Int) (x15 x16:Int) (x17 x18:List AV) (x19 x20 x21:List AV) (x22:Int):Option qQK:=qaC (qrQ x0 x1 x2 x3 x4 x5 x6 x7 x8 x9 x10 x11 x12 x13 x14 x15 x16 x17 x18 x19 x20 x21 x22).ev
theorem qFq (x0 x1 x2 x3 x4 x5 x6 x7 x8 x9 x10 x11 x12 x13 x14 x15 x16 x17 x18 x19 x20 x21 x22):qyo x0 x1 x2 x3 x4 x5 x6 x7 x8 x9 x10 x11 x12 x13 x14 x15 x16 x17 x18 x19 x20 x21 x22 = (qrQ x0 x1 x2 x3 x4 x5 x6 x7 x8 x9 x10 x11 x12 x13 x14 x15 x16 x17 x18 x19 x20 x21 x22).ev:=qaa _
theorem qYd:FH IP 95 qSw qS0 (k23 qyo):=fh F95 (k23 qrQ) qRA
def T80:Tab:=(95,FE qSw qS0 (k23 qyo)) :: T79
theorem qRB:qau IP T80:=⟨qay qYd,qRA⟩
abbrev qQV:Type:=Int × Int × Int × Int × List UInt8 × List UInt8 × List UInt8 × Bool
def qSH:PArgs:=⟨[.agg [.view 2,.view 3,.view 4,.int .i64,.int .i64,.int .i64,.int .i64,.int .i64,.int .i64,.int .i64,.int .i64,.int .i64,.int .i64,.int .i64,.int .i64,.int .i64,.int .i64,.view 19,.view 7,.view 10,.view 6,.view 7],.int .i64],[]⟩
def qTb:List PRes:=[⟨false,.tup [.agg [.int .i64,.int .i64,.int .i64,.int .i64,.str,.str,.str],.bool],[]⟩]
def qr6 (x0 x1 x2:List AV) (x3 x4:Int) (x5 x6:Int) (x7 x8:Int) (x9 x10:Int) (x11 x12:Int) (x13 x14:Int) (x15 x16:Int) (x17 x18:List AV) (x19 x20 x21:List AV) (x22:Int):DT qQV:=
 .bi (qyo x0 x1 x2 x3 x4 x5 x6 x7 x8 x9 x10 x11 x12 x13 x14 x15 x16 x17 x18 x19 x20 x21 x22) (fun y0=>
 .br (decide (y0 < 0))
 (.at ((0,0,0,0,[],[],[],false)))
 (.br (qaw [.int .i64,.int .i64,.int .i64,.int .i64,.str,.str,.str] x18 y0)
 (.at ((intOf (cellAt x18 y0 0),intOf (cellAt x18 y0 1),intOf (cellAt x18 y0 2),intOf (cellAt x18 y0 3),strOf (cellAt x18 y0 4),strOf (cellAt x18 y0 5),strOf (cellAt x18 y0 6),true)))
 (.no)))
 (.no)
def qmp (x0 x1 x2:List AV) (x3 x4:Int) (x5 x6:Int) (x7 x8:Int) (x9 x10:Int) (x11 x12:Int) (x13 x14:Int) (x15 x16:Int) (x17 x18:List AV) (x19 x20 x21:List AV) (x22:Int):Option qQV:=qaC (qr6 x0 x1 x2 x3 x4 x5 x6 x7 x8 x9 x10 x11 x12 x13 x14 x15 x16 x17 x18 x19 x20 x21 x22).ev
theorem qFA (x0 x1 x2 x3 x4 x5 x6 x7 x8 x9 x10 x11 x12 x13 x14 x15 x16 x17 x18 x19 x20 x21 x22):qmp x0 x1 x2 x3 x4 x5 x6 x7 x8 x9 x10 x11 x12 x13 x14 x15 x16 x17 x18 x19 x20 x21 x22 = (qr6 x0 x1 x2 x3 x4 x5 x6 x7 x8 x9 x10 x11 x12 x13 x14 x15 x16 x17 x18 x19 x20 x21 x22).ev:=qaa _
theorem qYo:FH IP 68 qSH qTb (k23 qmp):=fh F68 (k23 qr6) qRB
def T81:Tab:=(68,FE qSH qTb (k23 qmp)) :: T80
theorem qRC:qau IP T81:=⟨qay qYo,qRB⟩
abbrev qQH:Type:=Bool
def qSt:PArgs:=⟨[.agg [.view 2,.view 3,.view 4,.int .i64,.int .i64,.int .i64,.int .i64,.int .i64,.int .i64,.int .i64,.int .i64,.int .i64,.int .i64,.int .i64,.int .i64,.int .i64,.int .i64,.view 19,.view 7,.view 10,.view 6,.view 7],.int .i64,.int .i64],[]⟩
def qSX:List PRes:=[⟨false,.bool,[]⟩]
def qrN (x0 x1 x2:List AV) (x3 x4:Int) (x5 x6:Int) (x7 x8:Int) (x9 x10:Int) (x11 x12:Int) (x13 x14:Int) (x15 x16:Int) (x17 x18:List AV) (x19 x20 x21:List AV) (x22 x23:Int):DT qQH:=
 .bi (qmp x0 x1 x2 x3 x4 x5 x6 x7 x8 x9 x10 x11 x12 x13 x14 x15 x16 x17 x18 x19 x20 x21 x22) (fun y0=>
 .bi (br y0.2.2.2.2.2.2.2 (some (decide (y0.2.1 <= x23))) (some false)) (fun y1=>
 .bi (br y1 (br (y0.2.2.1 == 0) (some true) (some (decide (y0.2.2.1 > x23)))) (some false)) (fun y2=>
 .at (y2))
 (.no))
 (.no))
 (.no)
def qoC (x0 x1 x2:List AV) (x3 x4:Int) (x5 x6:Int) (x7 x8:Int) (x9 x10:Int) (x11 x12:Int) (x13 x14:Int) (x15 x16:Int) (x17 x18:List AV) (x19 x20 x21:List AV) (x22 x23:Int):Option qQH:=qaC (qrN x0 x1 x2 x3 x4 x5 x6 x7 x8 x9 x10 x11 x12 x13 x14 x15 x16 x17 x18 x19 x20 x21 x22 x23).ev
theorem qFn (x0 x1 x2 x3 x4 x5 x6 x7 x8 x9 x10 x11 x12 x13 x14 x15 x16 x17 x18 x19 x20 x21 x22 x23):qoC x0 x1 x2 x3 x4 x5 x6 x7 x8 x9 x10 x11 x12 x13 x14 x15 x16 x17 x18 x19 x20 x21 x22 x23 = (qrN x0 x1 x2 x3 x4 x5 x6 x7 x8 x9 x10 x11 x12 x13 x14 x15 x16 x17 x18 x19 x20 x21 x22 x23).ev:=qaa _
theorem qYa:FH IP 28 qSt qSX (k24 qoC):=fh F28 (k24 qrN) qRC
def T82:Tab:=(28,FE qSt qSX (k24 qoC)) :: T81
theorem qEw:qau IP T82:=⟨qay qYa,qRC⟩
abbrev qeK:Type:=List AV × List UInt8 × Int × Int × List AV × Int × Int × List UInt8 × List UInt8 × List UInt8 × Int × Int × Int × Int × Bool × Int × Int × Bool × Bool × Int × Int × Bool
def qF9:List PSt:=[⟨[(1009400,.junk),(0,.view 19),(1,.str),(2,.int .i64),(6,.ref 0 0 0),(8,.int .i64),(11,.view 19),(12,.int .i64),(13,.int .i64)],[(0,.box [.str,.str,.str,.int .i64,.int .i64,.int .i64,.int .i64,.nils 2,.bool,.int .i64,.int .i64,.bool,.nils 2,.bool,.int .i64,.int .i64,.bool,.nils 10,.nils 6] false)],1,0⟩]
def qO6 (x0:List AV) (x1:List UInt8) (x2 x3:Int) (x4:List AV) (x5 x6:Int) (x7 x8 x9:List UInt8) (x10 x11:Int) (x12 x13:Int) (x14:Bool) (x15 x16:Int) (x17 x18:Bool) (x19 x20:Int) (x21:Bool):X × St:=(.exit 0,
 ⟨[(0,.view 19 x0),(6,.ref 0 0 0),(8,.int .i64 x3)],[(0,
 .box
 [.str x7,.str x8,.str x9,.int .i64 x10,.int .i64 x11,.int .i64 x12,.int .i64 x13,.nils ⟨2,.nil⟩,
 .bool x14,.int .i64 x15,.int .i64 x16,.bool x17,.nils ⟨2,.nil⟩,.bool x18,.int .i64 x19,
 .int .i64 x20,.bool x21,.nils ⟨10,.nil⟩,.nils ⟨6,.nil⟩]
 false)],1,0⟩)
def q1x:List (qeK -> X × St):=[(k22 qO6)]
def qik (x0:List AV) (x1:List UInt8) (x2 x3:Int) (x4:List AV) (x5 x6:Int) (x7 x8 x9:List UInt8) (x10 x11:Int) (x12 x13:Int) (x14:Bool) (x15 x16:Int) (x17 x18:Bool) (x19 x20:Int) (x21:Bool):DT (Rd qeK):=
 .br (decide (x6 < x5))
 (.br (qaw
 [CS.str,CS.str,CS.str,CS.int IntKind.i64,CS.int IntKind.i64,CS.int IntKind.i64,CS.int IntKind.i64,CS.slice 2,CS.bool,CS.int IntKind.i64,CS.int IntKind.i64,CS.bool,
 CS.slice 2,CS.bool,CS.int IntKind.i64,CS.int IntKind.i64,CS.bool,CS.slice 10,CS.slice 6]
 x4 x6)
 (.br (strOf (cellAt x4 x6 0) == x1)
 (.br (decide (intOf (cellAt x4 x6 3) <= x2))
 (.br (decide (x3 < 0))
 (.at (.next ((x0,x1,x2,x6,x4,x5,IntKind.i64.wrap (x6 + 1),x7,x8,x9,x10,x11,x12,x13,x14,x15,x16,x17,x18,x19,x20,x21))))
 (.br (qaw
 [CS.str,CS.str,CS.str,CS.int IntKind.i64,CS.int IntKind.i64,CS.int IntKind.i64,CS.int IntKind.i64,CS.slice 2,CS.bool,CS.int IntKind.i64,CS.int IntKind.i64,CS.bool,
 CS.slice 2,CS.bool,CS.int IntKind.i64,CS.int IntKind.i64,CS.bool,CS.slice 10,CS.slice 6]
 x0 x3)
 (.br (decide (intOf (cellAt x4 x6 3) > intOf (cellAt x0 x3 3)))
 (.at (.next ((x0,x1,x2,x6,x4,x5,IntKind.i64.wrap (x6 + 1),x7,x8,x9,x10,x11,x12,x13,x14,x15,x16,x17,x18,x19,x20,x21))))
 (.at (.next ((x0,x1,x2,x3,x4,x5,IntKind.i64.wrap (x6 + 1),x7,x8,x9,x10,x11,x12,x13,x14,x15,x16,x17,x18,x19,x20,x21)))))
 (.no)))
 (.at (.next ((x0,x1,x2,x3,x4,x5,IntKind.i64.wrap (x6 + 1),x7,x8,x9,x10,x11,x12,x13,x14,x15,x16,x17,x18,x19,x20,x21)))))
 (.at (.next ((x0,x1,x2,x3,x4,x5,IntKind.i64.wrap (x6 + 1),x7,x8,x9,x10,x11,x12,x13,x14,x15,x16,x17,x18,x19,x20,x21)))))
 (.no))
 (.at (.done 0))
def qhz:qeK -> DT (Rd qeK):=(fun v=>qik v.1 v.2.1 v.2.2.1 v.2.2.2.1 v.2.2.2.2.1 v.2.2.2.2.2.1 v.2.2.2.2.2.2.1 v.2.2.2.2.2.2.2.1 v.2.2.2.2.2.2.2.2.1 v.2.2.2.2.2.2.2.2.2.1 v.2.2.2.2.2.2.2.2.2.2.1 v.2.2.2.2.2.2.2.2.2.2.2.1 v.2.2.2.2.2.2.2.2.2.2.2.2.1 v.2.2.2.2.2.2.2.2.2.2.2.2.2.1 v.2.2.2.2.2.2.2.2.2.2.2.2.2.2.1 v.2.2.2.2.2.2.2.2.2.2.2.2.2.2.2.1 v.2.2.2.2.2.2.2.2.2.2.2.2.2.2.2.2.1 v.2.2.2.2.2.2.2.2.2.2.2.2.2.2.2.2.2.1 v.2.2.2.2.2.2.2.2.2.2.2.2.2.2.2.2.2.2.1 v.2.2.2.2.2.2.2.2.2.2.2.2.2.2.2.2.2.2.2.1 v.2.2.2.2.2.2.2.2.2.2.2.2.2.2.2.2.2.2.2.2.1 v.2.2.2.2.2.2.2.2.2.2.2.2.2.2.2.2.2.2.2.2.2)
def qy6 (v:qeK):Option (Nat × qeK):=qaC (qah (fun v=>(qhz v).ev) v)
theorem qtx (v):qy6 v = qah (fun v=>(qhz v).ev) v:=qaa _
def qHl:qbi:=LE (τ:=qeK) (hD qF9) (qy6) q1x
theorem q0s:Go.Eng.Told IP (qab F94 0).1 (qab F94 0).2 (qHl):=lp (inferInstance:Inhabited qeK) (hs:=qF9) qhz qEw qtx
end
end Go.Proofs.H53z

/- Functions over plain data. Printed by a program of mine. -/
import Derived.Test.YtigchhcddgibhaaGreatDoorD13_7
import Derived.KernelRfl
set_option linter.unusedVariables false
set_option linter.unusedSimpArgs false
set_option linter.unnecessarySimpa false
namespace Go.Proofs.H13
open Go Go.Eng
set_option maxRecDepth 100000
noncomputable section
abbrev qym : Type := Int × Int × Int × Int
def qM3 : PArgs := ⟨[.agg [.int .i64, .view 2, .view 3], .view 2, .int .i64], []⟩
def qOF : List PRes := [⟨false, .tup [.agg [.int .i64, .int .i64], .int .i64, .int .i64], []⟩]
def rnT (y : Option (Nat × qbD)) : DT qym :=
 (.bi (pj 0 y) (fun y2 =>
 .at ((0, 0, 0, 8)))
 (.bi (pj 1 y) (fun y2 =>
 .at ((0, 0, 0, (gv
 (qfb
 (gv
 (pl
 (qae (intOf (cellAt (sl y2).2.2.2.1 (sl y2).2.2.2.2.2.2.2 0)) (intOf (cellAt (sl y2).2.2.2.1 (sl y2).2.2.2.2.2.2.2 1))
 (intOf (cellAt (sl y2).2.2.2.1 (sl y2).2.2.2.2.2.2.2 2))))).1
 (gv
 (pl
 (qae (intOf (cellAt (sl y2).2.2.2.1 (sl y2).2.2.2.2.2.2.2 0)) (intOf (cellAt (sl y2).2.2.2.1 (sl y2).2.2.2.2.2.2.2 1))
 (intOf (cellAt (sl y2).2.2.2.1 (sl y2).2.2.2.2.2.2.2 2))))).2
 (sl y2).2.2.2.2.2.2.1 (IntKind.i64.wrap ((sl y2).2.2.2.2.2.2.2 + 1)))).1)))
 (.bi (pj 2 y) (fun y2 =>
 .at ((0, 0, 0, (gv
 (qfa
 (gv
 (pl
 (pr
 (qae (intOf (cellAt (sl y2).2.2.2.1 (sl y2).2.2.2.2.2.2.2 0)) (intOf (cellAt (sl y2).2.2.2.1 (sl y2).2.2.2.2.2.2.2 1))
 (intOf (cellAt (sl y2).2.2.2.1 (sl y2).2.2.2.2.2.2.2 2))))))
 (sl y2).2.2.2.2.2.2.1 (IntKind.i64.wrap ((sl y2).2.2.2.2.2.2.2 + 1)))).1)))
 (.bi (pj 3 y) (fun y2 =>
 .at ((0, 0, 0, (gv
 (qga
 (gv
 (pl
 (pr
 (pr
 (pr
 (qae (intOf (cellAt (sl y2).2.2.2.1 (sl y2).2.2.2.2.2.2.2 0))
 (intOf (cellAt (sl y2).2.2.2.1 (sl y2).2.2.2.2.2.2.2 1))
 (intOf (cellAt (sl y2).2.2.2.1 (sl y2).2.2.2.2.2.2.2 2))))))))
 (sl y2).2.2.2.2.2.2.1 (IntKind.i64.wrap ((sl y2).2.2.2.2.2.2.2 + 1)))).1)))
 (.bi (pj 4 y) (fun y2 =>
 .no)
 (.bi (pj 5 y) (fun y2 =>
 .at ((0, 0, 0, 8)))
 (.bi (pj 6 y) (fun y2 =>
 .at ((0, 0, 0, (gv
 (qie
 (gv
 (pl
 (qae (intOf (cellAt (sl (sr y2)).2.2.2.1 (sl (sr y2)).2.2.2.2.2.2.2.1 0))
 (intOf (cellAt (sl (sr y2)).2.2.2.1 (sl (sr y2)).2.2.2.2.2.2.2.1 1))
 (intOf (cellAt (sl (sr y2)).2.2.2.1 (sl (sr y2)).2.2.2.2.2.2.2.1 2))))).1
 (gv
 (pl
 (qae (intOf (cellAt (sl (sr y2)).2.2.2.1 (sl (sr y2)).2.2.2.2.2.2.2.1 0))
 (intOf (cellAt (sl (sr y2)).2.2.2.1 (sl (sr y2)).2.2.2.2.2.2.2.1 1))
 (intOf (cellAt (sl (sr y2)).2.2.2.1 (sl (sr y2)).2.2.2.2.2.2.2.1 2))))).2
 (sl (sr y2)).2.2.2.2.2.2.1 (IntKind.i64.wrap ((sl (sr y2)).2.2.2.2.2.2.2.1 + 1)) (sl (sr y2)).2.2.2.2.2.2.2.2)).1)))
 (.bi (pj 7 y) (fun y2 =>
 .at ((0, 0, 0, (gv
 (qid
 (gv
 (pl
 (pr
 (qae (intOf (cellAt (sl (sr y2)).2.2.2.1 (sl (sr y2)).2.2.2.2.2.2.2.1 0))
 (intOf (cellAt (sl (sr y2)).2.2.2.1 (sl (sr y2)).2.2.2.2.2.2.2.1 1))
 (intOf (cellAt (sl (sr y2)).2.2.2.1 (sl (sr y2)).2.2.2.2.2.2.2.1 2))))))
 (sl (sr y2)).2.2.2.2.2.2.1 (IntKind.i64.wrap ((sl (sr y2)).2.2.2.2.2.2.2.1 + 1)) (sl (sr y2)).2.2.2.2.2.2.2.2)).1)))
 (.bi (pj 8 y) (fun y2 =>
 .at ((0, 0, 0, (gv
 (pl
 (qbV
 (gv
 (pl
 (pr
 (pr
 (qae (intOf (cellAt (sl (sr y2)).2.2.2.1 (sl (sr y2)).2.2.2.2.2.2.2.1 0))
 (intOf (cellAt (sl (sr y2)).2.2.2.1 (sl (sr y2)).2.2.2.2.2.2.2.1 1))
 (intOf (cellAt (sl (sr y2)).2.2.2.1 (sl (sr y2)).2.2.2.2.2.2.2.1 2)))))))
 (sl (sr y2)).2.2.2.2.2.2.1 (IntKind.i64.wrap ((sl (sr y2)).2.2.2.2.2.2.2.1 + 1)) (sl (sr y2)).2.2.2.2.2.2.2.2))).1)))
 (.bi (pj 9 y) (fun y2 =>
 .at ((0, 0, 0, (gv
 (pl
 (pr
 (qbV
 (gv
 (pl
 (pr
 (pr
 (qae (intOf (cellAt (sl (sr y2)).2.2.2.1 (sl (sr y2)).2.2.2.2.2.2.2.1 0))
 (intOf (cellAt (sl (sr y2)).2.2.2.1 (sl (sr y2)).2.2.2.2.2.2.2.1 1))
 (intOf (cellAt (sl (sr y2)).2.2.2.1 (sl (sr y2)).2.2.2.2.2.2.2.1 2)))))))
 (sl (sr y2)).2.2.2.2.2.2.1 (IntKind.i64.wrap ((sl (sr y2)).2.2.2.2.2.2.2.1 + 1)) (sl (sr y2)).2.2.2.2.2.2.2.2)))).1)))
 (.bi (pj 10 y) (fun y2 =>
 .at ((0, 0, 0, (gv
 (pr
 (pr
 (qbV
 (gv
 (pl
 (pr
 (pr
 (qae (intOf (cellAt (sl (sr y2)).2.2.2.1 (sl (sr y2)).2.2.2.2.2.2.2.1 0))
 (intOf (cellAt (sl (sr y2)).2.2.2.1 (sl (sr y2)).2.2.2.2.2.2.2.1 1))
 (intOf (cellAt (sl (sr y2)).2.2.2.1 (sl (sr y2)).2.2.2.2.2.2.2.1 2)))))))
 (sl (sr y2)).2.2.2.2.2.2.1 (IntKind.i64.wrap ((sl (sr y2)).2.2.2.2.2.2.2.1 + 1)) (sl (sr y2)).2.2.2.2.2.2.2.2)))).1)))
 (.bi (pj 11 y) (fun y2 =>
 .at ((0, 0, 0, (gv
 (qic
 (gv
 (pl
 (pr
 (pr
 (pr
 (qae (intOf (cellAt (sl (sr y2)).2.2.2.1 (sl (sr y2)).2.2.2.2.2.2.2.1 0))
 (intOf (cellAt (sl (sr y2)).2.2.2.1 (sl (sr y2)).2.2.2.2.2.2.2.1 1))
 (intOf (cellAt (sl (sr y2)).2.2.2.1 (sl (sr y2)).2.2.2.2.2.2.2.1 2))))))))
 (sl (sr y2)).2.2.2.2.2.2.1 (IntKind.i64.wrap ((sl (sr y2)).2.2.2.2.2.2.2.1 + 1)) (sl (sr y2)).2.2.2.2.2.2.2.2)).1)))
 (.bi (pj 12 y) (fun y2 =>
 .at ((0, 0, 0, (gv
 (qg2
 (gv
 (pr
 (pr
 (pr
 (pr
 (qae (intOf (cellAt (sl (sr y2)).2.2.2.1 (sl (sr y2)).2.2.2.2.2.2.2.1 0))
 (intOf (cellAt (sl (sr y2)).2.2.2.1 (sl (sr y2)).2.2.2.2.2.2.2.1 1))
 (intOf (cellAt (sl (sr y2)).2.2.2.1 (sl (sr y2)).2.2.2.2.2.2.2.1 2))))))))
 (sl (sr y2)).2.2.2.2.2.2.1 (IntKind.i64.wrap ((sl (sr y2)).2.2.2.2.2.2.2.1 + 1)) (sl (sr y2)).2.2.2.2.2.2.2.2)).1)))
 (.bi (pj 13 y) (fun y2 =>
 .br (inB (sl (sr y2)).2.2.2.2.2.2.2.2.length 0)
 (.br (okP [CS.int IntKind.i64, CS.int IntKind.i64] (sl (sr y2)).2.2.2.2.2.2.2.2 0 0)
 (.at ((intOf (qaD (sl (sr y2)).2.2.2.2.2.2.2.2 0 0), intOf (qaD (sl (sr y2)).2.2.2.2.2.2.2.2 0 1), (sl (sr y2)).1, 0)))
 (.no))
 (.no))
 (.bi (pj 14 y) (fun y2 =>
 .at ((0, 0, 0, 8)))
 (.bi (pj 15 y) (fun y2 =>
 .at ((0, 0, 0, (gv
 (pl
 (qdC
 (gv
 (pl
 (qae (intOf (cellAt (sr (sr y2)).2.2.2.1 (sr (sr y2)).2.2.2.2.2.2.2.2.1 0))
 (intOf (cellAt (sr (sr y2)).2.2.2.1 (sr (sr y2)).2.2.2.2.2.2.2.2.1 1))
 (intOf (cellAt (sr (sr y2)).2.2.2.1 (sr (sr y2)).2.2.2.2.2.2.2.2.1 2))))).1
 (gv
 (pl
 (qae (intOf (cellAt (sr (sr y2)).2.2.2.1 (sr (sr y2)).2.2.2.2.2.2.2.2.1 0))
 (intOf (cellAt (sr (sr y2)).2.2.2.1 (sr (sr y2)).2.2.2.2.2.2.2.2.1 1))
 (intOf (cellAt (sr (sr y2)).2.2.2.1 (sr (sr y2)).2.2.2.2.2.2.2.2.1 2))))).2
 (sr (sr y2)).2.2.2.2.2.2.1 (sr (sr y2)).2.2.2.2.2.2.2.1 (IntKind.i64.wrap ((sr (sr y2)).2.2.2.2.2.2.2.2.1 + 1))
 (sr (sr y2)).2.2.2.2.2.2.2.2.2))).1)))
 (.bi (pj 16 y) (fun y2 =>
 .at ((0, 0, 0, (gv
 (pr
 (qdC
 (gv
 (pl
 (qae (intOf (cellAt (sr (sr y2)).2.2.2.1 (sr (sr y2)).2.2.2.2.2.2.2.2.1 0))
 (intOf (cellAt (sr (sr y2)).2.2.2.1 (sr (sr y2)).2.2.2.2.2.2.2.2.1 1))
 (intOf (cellAt (sr (sr y2)).2.2.2.1 (sr (sr y2)).2.2.2.2.2.2.2.2.1 2))))).1
 (gv
 (pl
 (qae (intOf (cellAt (sr (sr y2)).2.2.2.1 (sr (sr y2)).2.2.2.2.2.2.2.2.1 0))
 (intOf (cellAt (sr (sr y2)).2.2.2.1 (sr (sr y2)).2.2.2.2.2.2.2.2.1 1))
 (intOf (cellAt (sr (sr y2)).2.2.2.1 (sr (sr y2)).2.2.2.2.2.2.2.2.1 2))))).2
 (sr (sr y2)).2.2.2.2.2.2.1 (sr (sr y2)).2.2.2.2.2.2.2.1 (IntKind.i64.wrap ((sr (sr y2)).2.2.2.2.2.2.2.2.1 + 1))
 (sr (sr y2)).2.2.2.2.2.2.2.2.2))).1)))
 (.bi (pj 17 y) (fun y2 =>
 .at ((0, 0, 0, (gv
 (pl
 (qdA
 (gv
 (pl
 (pr
 (qae (intOf (cellAt (sr (sr y2)).2.2.2.1 (sr (sr y2)).2.2.2.2.2.2.2.2.1 0))
 (intOf (cellAt (sr (sr y2)).2.2.2.1 (sr (sr y2)).2.2.2.2.2.2.2.2.1 1))
 (intOf (cellAt (sr (sr y2)).2.2.2.1 (sr (sr y2)).2.2.2.2.2.2.2.2.1 2))))))
 (sr (sr y2)).2.2.2.2.2.2.1 (sr (sr y2)).2.2.2.2.2.2.2.1 (IntKind.i64.wrap ((sr (sr y2)).2.2.2.2.2.2.2.2.1 + 1))
 (sr (sr y2)).2.2.2.2.2.2.2.2.2))).1)))
 (.bi (pj 18 y) (fun y2 =>
 .at ((0, 0, 0, (gv
 (pr
 (qdA
 (gv
 (pl
 (pr
 (qae (intOf (cellAt (sr (sr y2)).2.2.2.1 (sr (sr y2)).2.2.2.2.2.2.2.2.1 0))
 (intOf (cellAt (sr (sr y2)).2.2.2.1 (sr (sr y2)).2.2.2.2.2.2.2.2.1 1))
 (intOf (cellAt (sr (sr y2)).2.2.2.1 (sr (sr y2)).2.2.2.2.2.2.2.2.1 2))))))
 (sr (sr y2)).2.2.2.2.2.2.1 (sr (sr y2)).2.2.2.2.2.2.2.1 (IntKind.i64.wrap ((sr (sr y2)).2.2.2.2.2.2.2.2.1 + 1))
 (sr (sr y2)).2.2.2.2.2.2.2.2.2))).1)))
 (.bi (pj 19 y) (fun y2 =>
 .at ((0, 0, 0, (gv
 (pl
 (qdB
 (gv
 (pl
 (pr
 (pr
 (qae (intOf (cellAt (sr (sr y2)).2.2.2.1 (sr (sr y2)).2.2.2.2.2.2.2.2.1 0))
 (intOf (cellAt (sr (sr y2)).2.2.2.1 (sr (sr y2)).2.2.2.2.2.2.2.2.1 1))
 (intOf (cellAt (sr (sr y2)).2.2.2.1 (sr (sr y2)).2.2.2.2.2.2.2.2.1 2)))))))
 (sr (sr y2)).2.2.2.2.2.2.1 (sr (sr y2)).2.2.2.2.2.2.2.1 (IntKind.i64.wrap ((sr (sr y2)).2.2.2.2.2.2.2.2.1 + 1))
 (sr (sr y2)).2.2.2.2.2.2.2.2.2))).1)))
 (.bi (pj 20 y) (fun y2 =>
 .at ((0, 0, 0, (gv
 (pr
 (qdB
 (gv
 (pl
 (pr
 (pr
 (qae (intOf (cellAt (sr (sr y2)).2.2.2.1 (sr (sr y2)).2.2.2.2.2.2.2.2.1 0))
 (intOf (cellAt (sr (sr y2)).2.2.2.1 (sr (sr y2)).2.2.2.2.2.2.2.2.1 1))
 (intOf (cellAt (sr (sr y2)).2.2.2.1 (sr (sr y2)).2.2.2.2.2.2.2.2.1 2)))))))
 (sr (sr y2)).2.2.2.2.2.2.1 (sr (sr y2)).2.2.2.2.2.2.2.1 (IntKind.i64.wrap ((sr (sr y2)).2.2.2.2.2.2.2.2.1 + 1))
 (sr (sr y2)).2.2.2.2.2.2.2.2.2))).1)))
 (.bi (pj 21 y) (fun y2 =>
 .at ((0, 0, 0, (gv
 (qg1
 (gv
 (pl
 (pr
 (pr
 (pr
 (qae (intOf (cellAt (sr (sr y2)).2.2.2.1 (sr (sr y2)).2.2.2.2.2.2.2.2.1 0))
 (intOf (cellAt (sr (sr y2)).2.2.2.1 (sr (sr y2)).2.2.2.2.2.2.2.2.1 1))
 (intOf (cellAt (sr (sr y2)).2.2.2.1 (sr (sr y2)).2.2.2.2.2.2.2.2.1 2))))))))
 (sr (sr y2)).2.2.2.2.2.2.1 (sr (sr y2)).2.2.2.2.2.2.2.1 (IntKind.i64.wrap ((sr (sr y2)).2.2.2.2.2.2.2.2.1 + 1))
 (sr (sr y2)).2.2.2.2.2.2.2.2.2)).1)))
 (.bi (pj 22 y) (fun y2 =>
 .at ((0, 0, 0, (gv
 (qg3
 (gv
 (pr
 (pr
 (pr
 (pr
 (qae (intOf (cellAt (sr (sr y2)).2.2.2.1 (sr (sr y2)).2.2.2.2.2.2.2.2.1 0))
 (intOf (cellAt (sr (sr y2)).2.2.2.1 (sr (sr y2)).2.2.2.2.2.2.2.2.1 1))
 (intOf (cellAt (sr (sr y2)).2.2.2.1 (sr (sr y2)).2.2.2.2.2.2.2.2.1 2))))))))
 (sr (sr y2)).2.2.2.2.2.2.1 (sr (sr y2)).2.2.2.2.2.2.2.1 (IntKind.i64.wrap ((sr (sr y2)).2.2.2.2.2.2.2.2.1 + 1))
 (sr (sr y2)).2.2.2.2.2.2.2.2.2)).1)))
 (.bi (pj 23 y) (fun y2 =>
 .br (inB (sr (sr y2)).2.2.2.2.2.2.2.1 0 && decide (0 < (sr (sr y2)).2.2.2.2.2.2.2.2.2.length))
 (.br (okP [CS.int IntKind.i64, CS.int IntKind.i64] (sr (sr y2)).2.2.2.2.2.2.2.2.2 0 0)
 (.at ((intOf (qaD (sr (sr y2)).2.2.2.2.2.2.2.2.2 0 0), intOf (qaD (sr (sr y2)).2.2.2.2.2.2.2.2.2 0 1), (sr (sr y2)).1, 0)))
 (.no))
 (.no))
 (.no)))))))))))))))))))))))))
def qm7 (x0 : Int) (x1 x2 x3 : List AV) (x4 : Int) : DT qym :=
 .bi (qrR x0 x1 x2) (fun y0 =>
 .br (y0 != 0)
 (.at ((0, 0, 0, 9)))
 (.bi (qco x1 x3) (fun y1 =>
 .br (!y1)
 (.at ((0, 0, 0, 1)))
 ((rnT (qkP (Sum.inl (x4, x0, x1, x2, 0, 0, x3, 0))))))
 (.no)))
 (.no)
def qep (x0 : Int) (x1 x2 x3 : List AV) (x4 : Int) : Option qym := qaz (qm7 x0 x1 x2 x3 x4).ev
theorem qEd (x0 : Int) (x1 x2 x3 : List AV) (x4 : Int) : qep x0 x1 x2 x3 x4 = (qm7 x0 x1 x2 x3 x4).ev := qaa _
theorem qZN : FH IP 17 qM3 qOF (k5 qep) := qaf (F := F17) (L := [(1001700, qB5)]) (t := (k5 qm7)) qys (qab (l := [qah F17 0]) (by kernel_rfl) ⟨qay (by kernel_rfl) q1x, trivial⟩) (by kernel_rfl) (fun v => by kernel_rfl) (fun _ => qaa _)
def zaP : Tab := (17, FE qM3 qOF (k5 qep)) :: zaO
theorem qHG : qaj IP zaP := ⟨qak qZN, qys⟩
abbrev qGN : Type := Bool
def qMO : PArgs := ⟨[], []⟩
def qOq : List PRes := [⟨false, .bool, []⟩]
def qmU : DT qGN :=
 .bi (qcO 2 250) (fun y0 =>
 .bi (qcO 3 10000) (fun y1 =>
 .bi (qaW 7 [AV.agg [AV.int IntKind.i64 y0.1, AV.int IntKind.i64 y0.2], AV.agg [AV.int IntKind.i64 y1.1, AV.int IntKind.i64 y1.2]]) (fun y2 =>
 .bi (qcO 2 (-7)) (fun y3 =>
 .bi (qcO 1 2) (fun y4 =>
 .bi (qaW 8 [AV.agg [AV.int IntKind.i64 y3.1, AV.int IntKind.i64 y3.2], AV.agg [AV.int IntKind.i64 y4.1, AV.int IntKind.i64 y4.2]]) (fun y5 =>
 .bi (qcO 4 73048) (fun y6 =>
 .bi (qcO 1 1) (fun y7 =>
 .bi (qaW 5 [AV.agg [AV.int IntKind.i64 y6.1, AV.int IntKind.i64 y6.2], AV.agg [AV.int IntKind.i64 y7.1, AV.int IntKind.i64 y7.2]]) (fun y8 =>
 .bi (qcO 1 5) (fun y9 =>
 .bi (qgh 5 0 []
 [AV.agg [AV.int IntKind.i64 4, AV.int IntKind.i64 0, AV.str [97], AV.view 4 []],
 AV.agg [AV.int IntKind.i64 1, AV.int IntKind.i64 2, AV.str [], AV.view 4 []]]
 [AV.agg [AV.str [97], AV.int IntKind.i64 1]] [AV.agg [AV.int IntKind.i64 y9.1, AV.int IntKind.i64 y9.2]]) (fun y10 =>
 .bi (qoQ 5 0 []
 [AV.agg [AV.int IntKind.i64 4, AV.int IntKind.i64 0, AV.str [97], AV.view 4 []],
 AV.agg [AV.int IntKind.i64 1, AV.int IntKind.i64 2, AV.str [], AV.view 4 []]]
 [AV.agg [AV.str [97], AV.int IntKind.i64 1]]) (fun y11 =>
 .bi (qep y11.1 y11.2.1 y11.2.2.1 [AV.agg [AV.int IntKind.i64 y9.1, AV.int IntKind.i64 y9.2]] 3) (fun y12 =>
 .bi (qep y11.1 y11.2.1 y11.2.2.1 [AV.agg [AV.int IntKind.i64 y9.1, AV.int IntKind.i64 y9.2]] 2) (fun y13 =>
 .bi (qcO 2 2) (fun y14 =>
 .br (if false = true then
 !(Decidable.rec (fun h => (fun x => false) h) (fun h => (fun x => true) h) (y2.1.instDecidableEq y14.1) &&
 (Decidable.rec (fun h => (fun x => false) h) (fun h => (fun x => true) h) (y2.2.1.instDecidableEq y14.2) && true))
 else
 Decidable.rec (fun h => (fun x => false) h) (fun h => (fun x => true) h) (y2.1.instDecidableEq y14.1) &&
 (Decidable.rec (fun h => (fun x => false) h) (fun h => (fun x => true) h) (y2.2.1.instDecidableEq y14.2) && true))
 (.br (y2.2.2 == 0)
 (.bi (qcO 2 (-4)) (fun y15 =>
 .br (if false = true then
 !(Decidable.rec (fun h => (fun x => false) h) (fun h => (fun x => true) h) (y5.1.instDecidableEq y15.1) &&
 (Decidable.rec (fun h => (fun x => false) h) (fun h => (fun x => true) h) (y5.2.1.instDecidableEq y15.2) && true))
 else
 Decidable.rec (fun h => (fun x => false) h) (fun h => (fun x => true) h) (y5.1.instDecidableEq y15.1) &&
 (Decidable.rec (fun h => (fun x => false) h) (fun h => (fun x => true) h) (y5.2.1.instDecidableEq y15.2) && true))
 (.br (y5.2.2 == 0)
 (.br (y8.2.2 == 6)
 (.bi (qcO 1 7) (fun y16 =>
 .br (if false = true then
 !(Decidable.rec (fun h => (fun x => false) h) (fun h => (fun x => true) h) (y10.1.instDecidableEq y16.1) &&
 (Decidable.rec (fun h => (fun x => false) h) (fun h => (fun x => true) h) (y10.2.1.instDecidableEq y16.2) && true))
 else
 Decidable.rec (fun h => (fun x => false) h) (fun h => (fun x => true) h) (y10.1.instDecidableEq y16.1) &&
 (Decidable.rec (fun h => (fun x => false) h) (fun h => (fun x => true) h) (y10.2.1.instDecidableEq y16.2) && true))
 (.br (y10.2.2 == 0)
 (.br (if false = true then
 !(Decidable.rec (fun h => (fun x => false) h) (fun h => (fun x => true) h) (y12.1.instDecidableEq y10.1) &&
 (Decidable.rec (fun h => (fun x => false) h) (fun h => (fun x => true) h) (y12.2.1.instDecidableEq y10.2.1) && true))
 else
 Decidable.rec (fun h => (fun x => false) h) (fun h => (fun x => true) h) (y12.1.instDecidableEq y10.1) &&
 (Decidable.rec (fun h => (fun x => false) h) (fun h => (fun x => true) h) (y12.2.1.instDecidableEq y10.2.1) && true))
 (.br (y12.2.2.1 == 0)
 (.br (y12.2.2.2 == 0)
 (.br (y13.2.2.2 == 8)
 (.bi (qco [AV.agg [AV.str [97], AV.int IntKind.i64 1]] [AV.agg [AV.int IntKind.i64 y9.1, AV.int IntKind.i64 y9.2]]) (fun y17 =>
 .br (y17)
 (.bi (qco [AV.agg [AV.str [97], AV.int IntKind.i64 1]] []) (fun y18 =>
 .at (!y18))
 (.no))
 (.at (false)))
 (.no))
 (.at (false)))
 (.at (false)))
 (.at (false)))
 (.at (false)))
 (.at (false)))
 (.at (false)))
 (.no))
 (.at (false)))
 (.at (false)))
 (.at (false)))
 (.no))
 (.at (false)))
 (.at (false)))
 (.no))
 (.no))
 (.no))
 (.no))
 (.no))
 (.no))
 (.no))
 (.no))
 (.no))
 (.no))
 (.no))
 (.no))
 (.no))
 (.no))
 (.no)
def qbb : Option qGN := qaz (qmU).ev
theorem qD0 : qbb = (qmU).ev := qaa _
theorem qZz : FH IP 9 qMO qOq (fun _ => qbb) := qaf (F := F9) (L := []) (t := (fun _ => qmU)) qHG (qab (l := []) (by kernel_rfl) trivial) (by kernel_rfl) (fun v => by kernel_rfl) (fun _ => qaa _)
def zaQ : Tab := (9, FE qMO qOq (fun _ => qbb)) :: zaP
theorem qyt : qaj IP zaQ := ⟨qak qZz, qHG⟩
end
end Go.Proofs.H13

/- Functions over plain data. Printed by a program of mine. -/
import Derived.Test.YtigchhcddgibhaaGreatDoorD13_7
import Derived.KernelRfl
namespace Go.Proofs.H13
open Go Go.Eng
set_option maxRecDepth 100000
noncomputable section
abbrev qtx : Type := Int × Int × Int × Int
def qHc : PArgs := ⟨[.agg [.int .i64, .view 2, .view 3], .view 2, .int .i64], []⟩
def qIN : List PRes := [⟨false, .tup [.agg [.int .i64, .int .i64], .int .i64, .int .i64], []⟩]
def rnT (y : Option (Nat × qa7)) : DT qtx :=
 (.bi (pj 0 y) (fun y2 =>
 .at ((0, 0, 0, 8)))
 (.bi (pj 1 y) (fun y2 =>
 .at ((0, 0, 0, (gv
 (qdR
 (gv
 (pl
 (qad (intOf (cellAt (sl y2).2.2.2.1 (sl y2).2.2.2.2.2.2.2 0)) (intOf (cellAt (sl y2).2.2.2.1 (sl y2).2.2.2.2.2.2.2 1))
 (intOf (cellAt (sl y2).2.2.2.1 (sl y2).2.2.2.2.2.2.2 2))))).1
 (gv
 (pl
 (qad (intOf (cellAt (sl y2).2.2.2.1 (sl y2).2.2.2.2.2.2.2 0)) (intOf (cellAt (sl y2).2.2.2.1 (sl y2).2.2.2.2.2.2.2 1))
 (intOf (cellAt (sl y2).2.2.2.1 (sl y2).2.2.2.2.2.2.2 2))))).2
 (sl y2).2.2.2.2.2.2.1 (IntKind.i64.wrap ((sl y2).2.2.2.2.2.2.2 + 1)))).1)))
 (.bi (pj 2 y) (fun y2 =>
 .at ((0, 0, 0, (gv
 (qdQ
 (gv
 (pl
 (pr
 (qad (intOf (cellAt (sl y2).2.2.2.1 (sl y2).2.2.2.2.2.2.2 0)) (intOf (cellAt (sl y2).2.2.2.1 (sl y2).2.2.2.2.2.2.2 1))
 (intOf (cellAt (sl y2).2.2.2.1 (sl y2).2.2.2.2.2.2.2 2))))))
 (sl y2).2.2.2.2.2.2.1 (IntKind.i64.wrap ((sl y2).2.2.2.2.2.2.2 + 1)))).1)))
 (.bi (pj 3 y) (fun y2 =>
 .at ((0, 0, 0, (gv
 (qeD
 (gv
 (pl
 (pr
 (pr
 (pr
 (qad (intOf (cellAt (sl y2).2.2.2.1 (sl y2).2.2.2.2.2.2.2 0))
 (intOf (cellAt (sl y2).2.2.2.1 (sl y2).2.2.2.2.2.2.2 1))
 (intOf (cellAt (sl y2).2.2.2.1 (sl y2).2.2.2.2.2.2.2 2))))))))
 (sl y2).2.2.2.2.2.2.1 (IntKind.i64.wrap ((sl y2).2.2.2.2.2.2.2 + 1)))).1)))
 (.bi (pj 4 y) (fun y2 =>
 .no)
 (.bi (pj 5 y) (fun y2 =>
 .at ((0, 0, 0, 8)))
 (.bi (pj 6 y) (fun y2 =>
 .at ((0, 0, 0, (gv
 (qf7
 (gv
 (pl
 (qad (intOf (cellAt (sl (sr y2)).2.2.2.1 (sl (sr y2)).2.2.2.2.2.2.2.1 0))
 (intOf (cellAt (sl (sr y2)).2.2.2.1 (sl (sr y2)).2.2.2.2.2.2.2.1 1))
 (intOf (cellAt (sl (sr y2)).2.2.2.1 (sl (sr y2)).2.2.2.2.2.2.2.1 2))))).1
 (gv
 (pl
 (qad (intOf (cellAt (sl (sr y2)).2.2.2.1 (sl (sr y2)).2.2.2.2.2.2.2.1 0))
 (intOf (cellAt (sl (sr y2)).2.2.2.1 (sl (sr y2)).2.2.2.2.2.2.2.1 1))
 (intOf (cellAt (sl (sr y2)).2.2.2.1 (sl (sr y2)).2.2.2.2.2.2.2.1 2))))).2
 (sl (sr y2)).2.2.2.2.2.2.1 (IntKind.i64.wrap ((sl (sr y2)).2.2.2.2.2.2.2.1 + 1)) (sl (sr y2)).2.2.2.2.2.2.2.2)).1)))
 (.bi (pj 7 y) (fun y2 =>
 .at ((0, 0, 0, (gv
 (qf6
 (gv
 (pl
 (pr
 (qad (intOf (cellAt (sl (sr y2)).2.2.2.1 (sl (sr y2)).2.2.2.2.2.2.2.1 0))
 (intOf (cellAt (sl (sr y2)).2.2.2.1 (sl (sr y2)).2.2.2.2.2.2.2.1 1))
 (intOf (cellAt (sl (sr y2)).2.2.2.1 (sl (sr y2)).2.2.2.2.2.2.2.1 2))))))
 (sl (sr y2)).2.2.2.2.2.2.1 (IntKind.i64.wrap ((sl (sr y2)).2.2.2.2.2.2.2.1 + 1)) (sl (sr y2)).2.2.2.2.2.2.2.2)).1)))
 (.bi (pj 8 y) (fun y2 =>
 .at ((0, 0, 0, (gv
 (pl
 (qbm
 (gv
 (pl
 (pr
 (pr
 (qad (intOf (cellAt (sl (sr y2)).2.2.2.1 (sl (sr y2)).2.2.2.2.2.2.2.1 0))
 (intOf (cellAt (sl (sr y2)).2.2.2.1 (sl (sr y2)).2.2.2.2.2.2.2.1 1))
 (intOf (cellAt (sl (sr y2)).2.2.2.1 (sl (sr y2)).2.2.2.2.2.2.2.1 2)))))))
 (sl (sr y2)).2.2.2.2.2.2.1 (IntKind.i64.wrap ((sl (sr y2)).2.2.2.2.2.2.2.1 + 1)) (sl (sr y2)).2.2.2.2.2.2.2.2))).1)))
 (.bi (pj 9 y) (fun y2 =>
 .at ((0, 0, 0, (gv
 (pl
 (pr
 (qbm
 (gv
 (pl
 (pr
 (pr
 (qad (intOf (cellAt (sl (sr y2)).2.2.2.1 (sl (sr y2)).2.2.2.2.2.2.2.1 0))
 (intOf (cellAt (sl (sr y2)).2.2.2.1 (sl (sr y2)).2.2.2.2.2.2.2.1 1))
 (intOf (cellAt (sl (sr y2)).2.2.2.1 (sl (sr y2)).2.2.2.2.2.2.2.1 2)))))))
 (sl (sr y2)).2.2.2.2.2.2.1 (IntKind.i64.wrap ((sl (sr y2)).2.2.2.2.2.2.2.1 + 1)) (sl (sr y2)).2.2.2.2.2.2.2.2)))).1)))
 (.bi (pj 10 y) (fun y2 =>
 .at ((0, 0, 0, (gv
 (pr
 (pr
 (qbm
 (gv
 (pl
 (pr
 (pr
 (qad (intOf (cellAt (sl (sr y2)).2.2.2.1 (sl (sr y2)).2.2.2.2.2.2.2.1 0))
 (intOf (cellAt (sl (sr y2)).2.2.2.1 (sl (sr y2)).2.2.2.2.2.2.2.1 1))
 (intOf (cellAt (sl (sr y2)).2.2.2.1 (sl (sr y2)).2.2.2.2.2.2.2.1 2)))))))
 (sl (sr y2)).2.2.2.2.2.2.1 (IntKind.i64.wrap ((sl (sr y2)).2.2.2.2.2.2.2.1 + 1)) (sl (sr y2)).2.2.2.2.2.2.2.2)))).1)))
 (.bi (pj 11 y) (fun y2 =>
 .at ((0, 0, 0, (gv
 (qf5
 (gv
 (pl
 (pr
 (pr
 (pr
 (qad (intOf (cellAt (sl (sr y2)).2.2.2.1 (sl (sr y2)).2.2.2.2.2.2.2.1 0))
 (intOf (cellAt (sl (sr y2)).2.2.2.1 (sl (sr y2)).2.2.2.2.2.2.2.1 1))
 (intOf (cellAt (sl (sr y2)).2.2.2.1 (sl (sr y2)).2.2.2.2.2.2.2.1 2))))))))
 (sl (sr y2)).2.2.2.2.2.2.1 (IntKind.i64.wrap ((sl (sr y2)).2.2.2.2.2.2.2.1 + 1)) (sl (sr y2)).2.2.2.2.2.2.2.2)).1)))
 (.bi (pj 12 y) (fun y2 =>
 .at ((0, 0, 0, (gv
 (qff
 (gv
 (pr
 (pr
 (pr
 (pr
 (qad (intOf (cellAt (sl (sr y2)).2.2.2.1 (sl (sr y2)).2.2.2.2.2.2.2.1 0))
 (intOf (cellAt (sl (sr y2)).2.2.2.1 (sl (sr y2)).2.2.2.2.2.2.2.1 1))
 (intOf (cellAt (sl (sr y2)).2.2.2.1 (sl (sr y2)).2.2.2.2.2.2.2.1 2))))))))
 (sl (sr y2)).2.2.2.2.2.2.1 (IntKind.i64.wrap ((sl (sr y2)).2.2.2.2.2.2.2.1 + 1)) (sl (sr y2)).2.2.2.2.2.2.2.2)).1)))
 (.bi (pj 13 y) (fun y2 =>
 .br (inB (sl (sr y2)).2.2.2.2.2.2.2.2.length 0)
 (.br (okP [.int .i64, .int .i64] (sl (sr y2)).2.2.2.2.2.2.2.2 0 0)
 (.at ((intOf (qaz (sl (sr y2)).2.2.2.2.2.2.2.2 0 0), intOf (qaz (sl (sr y2)).2.2.2.2.2.2.2.2 0 1), (sl (sr y2)).1, 0)))
 (.no))
 (.no))
 (.bi (pj 14 y) (fun y2 =>
 .at ((0, 0, 0, 8)))
 (.bi (pj 15 y) (fun y2 =>
 .at ((0, 0, 0, (gv
 (pl
 (qcx
 (gv
 (pl
 (qad (intOf (cellAt (sr (sr y2)).2.2.2.1 (sr (sr y2)).2.2.2.2.2.2.2.2.1 0))
 (intOf (cellAt (sr (sr y2)).2.2.2.1 (sr (sr y2)).2.2.2.2.2.2.2.2.1 1))
 (intOf (cellAt (sr (sr y2)).2.2.2.1 (sr (sr y2)).2.2.2.2.2.2.2.2.1 2))))).1
 (gv
 (pl
 (qad (intOf (cellAt (sr (sr y2)).2.2.2.1 (sr (sr y2)).2.2.2.2.2.2.2.2.1 0))
 (intOf (cellAt (sr (sr y2)).2.2.2.1 (sr (sr y2)).2.2.2.2.2.2.2.2.1 1))
 (intOf (cellAt (sr (sr y2)).2.2.2.1 (sr (sr y2)).2.2.2.2.2.2.2.2.1 2))))).2
 (sr (sr y2)).2.2.2.2.2.2.1 (sr (sr y2)).2.2.2.2.2.2.2.1 (IntKind.i64.wrap ((sr (sr y2)).2.2.2.2.2.2.2.2.1 + 1))
 (sr (sr y2)).2.2.2.2.2.2.2.2.2))).1)))
 (.bi (pj 16 y) (fun y2 =>
 .at ((0, 0, 0, (gv
 (pr
 (qcx
 (gv
 (pl
 (qad (intOf (cellAt (sr (sr y2)).2.2.2.1 (sr (sr y2)).2.2.2.2.2.2.2.2.1 0))
 (intOf (cellAt (sr (sr y2)).2.2.2.1 (sr (sr y2)).2.2.2.2.2.2.2.2.1 1))
 (intOf (cellAt (sr (sr y2)).2.2.2.1 (sr (sr y2)).2.2.2.2.2.2.2.2.1 2))))).1
 (gv
 (pl
 (qad (intOf (cellAt (sr (sr y2)).2.2.2.1 (sr (sr y2)).2.2.2.2.2.2.2.2.1 0))
 (intOf (cellAt (sr (sr y2)).2.2.2.1 (sr (sr y2)).2.2.2.2.2.2.2.2.1 1))
 (intOf (cellAt (sr (sr y2)).2.2.2.1 (sr (sr y2)).2.2.2.2.2.2.2.2.1 2))))).2
 (sr (sr y2)).2.2.2.2.2.2.1 (sr (sr y2)).2.2.2.2.2.2.2.1 (IntKind.i64.wrap ((sr (sr y2)).2.2.2.2.2.2.2.2.1 + 1))
 (sr (sr y2)).2.2.2.2.2.2.2.2.2))).1)))
 (.bi (pj 17 y) (fun y2 =>
 .at ((0, 0, 0, (gv
 (pl
 (qcv
 (gv
 (pl
 (pr
 (qad (intOf (cellAt (sr (sr y2)).2.2.2.1 (sr (sr y2)).2.2.2.2.2.2.2.2.1 0))
 (intOf (cellAt (sr (sr y2)).2.2.2.1 (sr (sr y2)).2.2.2.2.2.2.2.2.1 1))
 (intOf (cellAt (sr (sr y2)).2.2.2.1 (sr (sr y2)).2.2.2.2.2.2.2.2.1 2))))))
 (sr (sr y2)).2.2.2.2.2.2.1 (sr (sr y2)).2.2.2.2.2.2.2.1 (IntKind.i64.wrap ((sr (sr y2)).2.2.2.2.2.2.2.2.1 + 1))
 (sr (sr y2)).2.2.2.2.2.2.2.2.2))).1)))
 (.bi (pj 18 y) (fun y2 =>
 .at ((0, 0, 0, (gv
 (pr
 (qcv
 (gv
 (pl
 (pr
 (qad (intOf (cellAt (sr (sr y2)).2.2.2.1 (sr (sr y2)).2.2.2.2.2.2.2.2.1 0))
 (intOf (cellAt (sr (sr y2)).2.2.2.1 (sr (sr y2)).2.2.2.2.2.2.2.2.1 1))
 (intOf (cellAt (sr (sr y2)).2.2.2.1 (sr (sr y2)).2.2.2.2.2.2.2.2.1 2))))))
 (sr (sr y2)).2.2.2.2.2.2.1 (sr (sr y2)).2.2.2.2.2.2.2.1 (IntKind.i64.wrap ((sr (sr y2)).2.2.2.2.2.2.2.2.1 + 1))
 (sr (sr y2)).2.2.2.2.2.2.2.2.2))).1)))
 (.bi (pj 19 y) (fun y2 =>
 .at ((0, 0, 0, (gv
 (pl
 (qcw
 (gv
 (pl
 (pr
 (pr
 (qad (intOf (cellAt (sr (sr y2)).2.2.2.1 (sr (sr y2)).2.2.2.2.2.2.2.2.1 0))
 (intOf (cellAt (sr (sr y2)).2.2.2.1 (sr (sr y2)).2.2.2.2.2.2.2.2.1 1))
 (intOf (cellAt (sr (sr y2)).2.2.2.1 (sr (sr y2)).2.2.2.2.2.2.2.2.1 2)))))))
 (sr (sr y2)).2.2.2.2.2.2.1 (sr (sr y2)).2.2.2.2.2.2.2.1 (IntKind.i64.wrap ((sr (sr y2)).2.2.2.2.2.2.2.2.1 + 1))
 (sr (sr y2)).2.2.2.2.2.2.2.2.2))).1)))
 (.bi (pj 20 y) (fun y2 =>
 .at ((0, 0, 0, (gv
 (pr
 (qcw
 (gv
 (pl
 (pr
 (pr
 (qad (intOf (cellAt (sr (sr y2)).2.2.2.1 (sr (sr y2)).2.2.2.2.2.2.2.2.1 0))
 (intOf (cellAt (sr (sr y2)).2.2.2.1 (sr (sr y2)).2.2.2.2.2.2.2.2.1 1))
 (intOf (cellAt (sr (sr y2)).2.2.2.1 (sr (sr y2)).2.2.2.2.2.2.2.2.1 2)))))))
 (sr (sr y2)).2.2.2.2.2.2.1 (sr (sr y2)).2.2.2.2.2.2.2.1 (IntKind.i64.wrap ((sr (sr y2)).2.2.2.2.2.2.2.2.1 + 1))
 (sr (sr y2)).2.2.2.2.2.2.2.2.2))).1)))
 (.bi (pj 21 y) (fun y2 =>
 .at ((0, 0, 0, (gv
 (qfe
 (gv
 (pl
 (pr
 (pr
 (pr
 (qad (intOf (cellAt (sr (sr y2)).2.2.2.1 (sr (sr y2)).2.2.2.2.2.2.2.2.1 0))
 (intOf (cellAt (sr (sr y2)).2.2.2.1 (sr (sr y2)).2.2.2.2.2.2.2.2.1 1))
 (intOf (cellAt (sr (sr y2)).2.2.2.1 (sr (sr y2)).2.2.2.2.2.2.2.2.1 2))))))))
 (sr (sr y2)).2.2.2.2.2.2.1 (sr (sr y2)).2.2.2.2.2.2.2.1 (IntKind.i64.wrap ((sr (sr y2)).2.2.2.2.2.2.2.2.1 + 1))
 (sr (sr y2)).2.2.2.2.2.2.2.2.2)).1)))
 (.bi (pj 22 y) (fun y2 =>
 .at ((0, 0, 0, (gv
 (qfg
 (gv
 (pr
 (pr
 (pr
 (pr
 (qad (intOf (cellAt (sr (sr y2)).2.2.2.1 (sr (sr y2)).2.2.2.2.2.2.2.2.1 0))
 (intOf (cellAt (sr (sr y2)).2.2.2.1 (sr (sr y2)).2.2.2.2.2.2.2.2.1 1))
 (intOf (cellAt (sr (sr y2)).2.2.2.1 (sr (sr y2)).2.2.2.2.2.2.2.2.1 2))))))))
 (sr (sr y2)).2.2.2.2.2.2.1 (sr (sr y2)).2.2.2.2.2.2.2.1 (IntKind.i64.wrap ((sr (sr y2)).2.2.2.2.2.2.2.2.1 + 1))
 (sr (sr y2)).2.2.2.2.2.2.2.2.2)).1)))
 (.bi (pj 23 y) (fun y2 =>
 .br (inB (sr (sr y2)).2.2.2.2.2.2.2.1 0 && decide (0 < (sr (sr y2)).2.2.2.2.2.2.2.2.2.length))
 (.br (okP [.int .i64, .int .i64] (sr (sr y2)).2.2.2.2.2.2.2.2.2 0 0)
 (.at ((intOf (qaz (sr (sr y2)).2.2.2.2.2.2.2.2.2 0 0), intOf (qaz (sr (sr y2)).2.2.2.2.2.2.2.2.2 0 1), (sr (sr y2)).1, 0)))
 (.no))
 (.no))
 (.no)))))))))))))))))))))))))
def qjZ (x0 : Int) (x1 x2 x3 : List AV) (x4 : Int) : DT qtx :=
 .bi (qnW x0 x1 x2) (fun y0 =>
 .br (y0 != 0)
 (.at ((0, 0, 0, 9)))
 (.bi (qbG x1 x3) (fun y1 =>
 .br (!y1)
 (.at ((0, 0, 0, 1)))
 ((rnT (qh5 (Sum.inl (x4, x0, x1, x2, 0, 0, x3, 0))))))
 (.no)))
 (.no)
def qdj (x0 : Int) (x1 x2 x3 : List AV) (x4 : Int) : Option qtx := qav (qjZ x0 x1 x2 x3 x4).ev
theorem qyH (x0 x1 x2 x3 x4) : qdj x0 x1 x2 x3 x4 = (qjZ x0 x1 x2 x3 x4).ev := qaa _
theorem qVt : FH IP 17 qHc qIN (k5 qdj) := qae (F := F17) (L := [(1001700, qwO)]) (t := (k5 qjZ)) qtD (qab (l := [qaf F17 0]) (by kernel_rfl) ⟨qau (by kernel_rfl) qWT, trivial⟩) (by kernel_rfl) (fun v => by kernel_rfl) (fun _ => qaa _)
def q80 : Tab := (17, FE qHc qIN (k5 qdj)) :: q8Z
theorem qCm : qai IP q80 := ⟨qah qVt, qtD⟩
abbrev qBv : Type := Bool
def qGX : PArgs := ⟨[], []⟩
def qIy : List PRes := [⟨false, .bool, []⟩]
def qjM : DT qBv :=
 .bi (qbV 2 250) (fun y0 =>
 .bi (qbV 3 10000) (fun y1 =>
 .bi (qaH 7 [AV.agg [.int .i64 y0.1, .int .i64 y0.2], AV.agg [.int .i64 y1.1, .int .i64 y1.2]]) (fun y2 =>
 .bi (qbV 2 (-7)) (fun y3 =>
 .bi (qbV 1 2) (fun y4 =>
 .bi (qaH 8 [AV.agg [.int .i64 y3.1, .int .i64 y3.2], AV.agg [.int .i64 y4.1, .int .i64 y4.2]]) (fun y5 =>
 .bi (qbV 4 73048) (fun y6 =>
 .bi (qbV 1 1) (fun y7 =>
 .bi (qaH 5 [AV.agg [.int .i64 y6.1, .int .i64 y6.2], AV.agg [.int .i64 y7.1, .int .i64 y7.2]]) (fun y8 =>
 .bi (qbV 1 5) (fun y9 =>
 .bi (qe0 5 0 []
 [AV.agg [.int .i64 4, .int .i64 0, AV.str [97], AV.view 4 []],
 AV.agg [.int .i64 1, .int .i64 2, AV.str [], AV.view 4 []]]
 [AV.agg [AV.str [97], .int .i64 1]] [AV.agg [.int .i64 y9.1, .int .i64 y9.2]]) (fun y10 =>
 .bi (qm2 5 0 []
 [AV.agg [.int .i64 4, .int .i64 0, AV.str [97], AV.view 4 []],
 AV.agg [.int .i64 1, .int .i64 2, AV.str [], AV.view 4 []]]
 [AV.agg [AV.str [97], .int .i64 1]]) (fun y11 =>
 .bi (qdj y11.1 y11.2.1 y11.2.2.1 [AV.agg [.int .i64 y9.1, .int .i64 y9.2]] 3) (fun y12 =>
 .bi (qdj y11.1 y11.2.1 y11.2.2.1 [AV.agg [.int .i64 y9.1, .int .i64 y9.2]] 2) (fun y13 =>
 .bi (qbV 2 2) (fun y14 =>
 .br (if false = true then
 !(Decidable.rec (fun h => (fun x => false) h) (fun h => (fun x => true) h) (y2.1.instDecidableEq y14.1) &&
 (Decidable.rec (fun h => (fun x => false) h) (fun h => (fun x => true) h) (y2.2.1.instDecidableEq y14.2) && true))
 else
 Decidable.rec (fun h => (fun x => false) h) (fun h => (fun x => true) h) (y2.1.instDecidableEq y14.1) &&
 (Decidable.rec (fun h => (fun x => false) h) (fun h => (fun x => true) h) (y2.2.1.instDecidableEq y14.2) && true))
 (.br (y2.2.2 == 0)
 (.bi (qbV 2 (-4)) (fun y15 =>
 .br (if false = true then
 !(Decidable.rec (fun h => (fun x => false) h) (fun h => (fun x => true) h) (y5.1.instDecidableEq y15.1) &&
 (Decidable.rec (fun h => (fun x => false) h) (fun h => (fun x => true) h) (y5.2.1.instDecidableEq y15.2) && true))
 else
 Decidable.rec (fun h => (fun x => false) h) (fun h => (fun x => true) h) (y5.1.instDecidableEq y15.1) &&
 (Decidable.rec (fun h => (fun x => false) h) (fun h => (fun x => true) h) (y5.2.1.instDecidableEq y15.2) && true))
 (.br (y5.2.2 == 0)
 (.br (y8.2.2 == 6)
 (.bi (qbV 1 7) (fun y16 =>
 .br (if false = true then
 !(Decidable.rec (fun h => (fun x => false) h) (fun h => (fun x => true) h) (y10.1.instDecidableEq y16.1) &&
 (Decidable.rec (fun h => (fun x => false) h) (fun h => (fun x => true) h) (y10.2.1.instDecidableEq y16.2) && true))
 else
 Decidable.rec (fun h => (fun x => false) h) (fun h => (fun x => true) h) (y10.1.instDecidableEq y16.1) &&
 (Decidable.rec (fun h => (fun x => false) h) (fun h => (fun x => true) h) (y10.2.1.instDecidableEq y16.2) && true))
 (.br (y10.2.2 == 0)
 (.br (if false = true then
 !(Decidable.rec (fun h => (fun x => false) h) (fun h => (fun x => true) h) (y12.1.instDecidableEq y10.1) &&
 (Decidable.rec (fun h => (fun x => false) h) (fun h => (fun x => true) h) (y12.2.1.instDecidableEq y10.2.1) && true))
 else
 Decidable.rec (fun h => (fun x => false) h) (fun h => (fun x => true) h) (y12.1.instDecidableEq y10.1) &&
 (Decidable.rec (fun h => (fun x => false) h) (fun h => (fun x => true) h) (y12.2.1.instDecidableEq y10.2.1) && true))
 (.br (y12.2.2.1 == 0)
 (.br (y12.2.2.2 == 0)
 (.br (y13.2.2.2 == 8)
 (.bi (qbG [AV.agg [AV.str [97], .int .i64 1]] [AV.agg [.int .i64 y9.1, .int .i64 y9.2]]) (fun y17 =>
 .br (y17)
 (.bi (qbG [AV.agg [AV.str [97], .int .i64 1]] []) (fun y18 =>
 .at (!y18))
 (.no))
 (.at (false)))
 (.no))
 (.at (false)))
 (.at (false)))
 (.at (false)))
 (.at (false)))
 (.at (false)))
 (.at (false)))
 (.no))
 (.at (false)))
 (.at (false)))
 (.at (false)))
 (.no))
 (.at (false)))
 (.at (false)))
 (.no))
 (.no))
 (.no))
 (.no))
 (.no))
 (.no))
 (.no))
 (.no))
 (.no))
 (.no))
 (.no))
 (.no))
 (.no))
 (.no))
 (.no)
def qaR : Option qBv := qav (qjM).ev
theorem qyu : qaR = (qjM).ev := qaa _
theorem qVf : FH IP 9 qGX qIy (fun _ => qaR) := qae (F := F9) (L := []) (t := (fun _ => qjM)) qCm (qab (l := []) (by kernel_rfl) trivial) (by kernel_rfl) (fun v => by kernel_rfl) (fun _ => qaa _)
def q81 : Tab := (9, FE qGX qIy (fun _ => qaR)) :: q80
theorem qtE : qai IP q81 := ⟨qah qVf, qCm⟩
abbrev qcl : Type := (Int × List AV × Int × Int × Int) ⊕ (Int × List AV × Int × Int × Int × List AV)
def qvW : List PSt := [⟨[(1001100, .junk), (0, .int .i64), (1, .view 2), (4, .ref 0 0 0), (6, .nils 1), (7, .int .i64)], [(0, .box [.int .i64, .int .i64] false)], 1, 0⟩, ⟨[(1001100, .junk), (0, .int .i64), (1, .view 2), (4, .ref 0 0 0), (6, .own 1 0), (7, .int .i64)], [(0, .box [.int .i64, .int .i64] false), (1, .arr 1 false)], 2, 0⟩]
def qJ5 (x0 : Int) (x1 : List AV) (x2 x3 x4 : Int) : X × St := (.exit 0,
 ⟨[(0, .int .i64 x0), (1, .view 2 x1), (4, .ref 0 0 0), (6, .nils ⟨1, .nil⟩)], [(0, .box [.int .i64 x3, .int .i64 x4] false)], 1, 0⟩)
def qJ6 (x0 : Int) (x1 : List AV) (x2 x3 x4 : Int) (x5 : List AV) : X × St := (.exit 0,
 ⟨[(0, .int .i64 x0), (1, .view 2 x1), (4, .ref 0 0 0), (6, .own 1 0 none)], [(0, .box [.int .i64 x3, .int .i64 x4] false), (1, .arr 1 x5 false)], 2, 0⟩)
def qXi : List (qcl -> X × St) := [fun w => (k5 qJ5) ((sl w)), fun w => (k6 qJ6) ((sr w))]
def qoG (x0 : Int) (x1 : List AV) (x2 x3 x4 : Int) : DT (Rd qcl) :=
 .br (decide (x2 < (x1.length : Int)))
 (.br (qay [.int .i64, .int .i64] x1 x2)
 (.at (.next ((.inr (x0, x1, IntKind.i64.wrap (x2 + 1), x3, x4, [.int .i64 (intOf (cellAt x1 x2 0))])))))
 (.no))
 (.at (.done 0))
def qim (x0 : Int) (x1 : List AV) (x2 x3 x4 : Int) (x5 : List AV) : DT (Rd qcl) :=
 .br (decide (x2 < (x1.length : Int)))
 (.br (qay [.int .i64, .int .i64] x1 x2)
 (.br (room (x5.length + 1) 8) (.at (.next ((.inr (x0, x1, IntKind.i64.wrap (x2 + 1), x3, x4, x5 ++ [AV.int IntKind.i64 (intOf (cellAt x1 x2 0))]))))) (.no))
 (.no))
 (.at (.done 1))
def qfN : qcl -> DT (Rd qcl) := (Sum.elim (fun v => qoG v.1 v.2.1 v.2.2.1 v.2.2.2.1 v.2.2.2.2) (fun v => qim v.1 v.2.1 v.2.2.1 v.2.2.2.1 v.2.2.2.2.1 v.2.2.2.2.2))
def qh3 (v : qcl) : Option (Nat × qcl) := qav (qaq (fun v => (qfN v).ev) v)
theorem qce (v) : qh3 v = qaq (fun v => (qfN v).ev) v := qaa _
def qwC : qb3 := LE (τ := qcl) (hD qvW) (qh3) qXi
theorem qWH : Go.Eng.Told IP (qaf F11 0).1 (qaf F11 0).2 (qwC) := qat (inferInstance : Inhabited qcl) (hs := qvW) (st := qfN) (L := []) qtE (qab (l := []) (by kernel_rfl) trivial) (qce) (fun v => match v with | (.inl v) => by kernel_rfl | (.inr v) => by kernel_rfl) (fun v => match v with | (.inl v) => by kernel_rfl | (.inr v) => by kernel_rfl)
abbrev qBD : Type := Bool
def qG6 : PArgs := ⟨[.int .i64], []⟩
def qIH : List PRes := [⟨false, .bool, []⟩]
def qjU (x0 : Int) : DT qBD :=
 .bi (br (decide (x0 >= 1)) (some (decide (x0 <= 5))) (some false)) (fun y0 =>
 .at (y0))
 (.no)
def qgt (x0 : Int) : Option qBD := qav (qjU x0).ev
theorem qyC (x0) : qgt x0 = (qjU x0).ev := qaa _
theorem qVn : FH IP 60 qG6 qIH qgt := fh F60 qjU qtE
def q82 : Tab := (60, FE qG6 qIH qgt) :: q81
theorem qtF : qai IP q82 := ⟨qah qVn, qtE⟩
abbrev qeA : Type := Int × List AV × Int
def qFm : List PSt := [⟨[(1002600, .junk), (0, .int .i64), (1, .view 1), (6, .int .i64)], [], 0, 0⟩]
def qOl (x0 : Int) (x1 : List AV) (x2 : Int) : X × St := (.ret, ⟨[(0, .int .i64 x0), (1, .view 1 x1), (4, .int .i64 0), (5, .bool false)], [], 0, 0⟩)
def qOm (x0 : Int) (x1 : List AV) (x2 : Int) : X × St := (.exit 0, ⟨[(0, .int .i64 x0), (1, .view 1 x1), (4, .junk), (5, .junk)], [], 0, 0⟩)
def q3P : List (qeA -> X × St) := [(k3 qOl), (k3 qOm)]
def qmK (x0 : Int) (x1 : List AV) (x2 : Int) : DT (Rd qeA) :=
 .br (decide (x2 < (x1.length : Int)))
 (.br (qay [.int .i64] x1 x2)
 (.bi (qgt (intOf (cellAt x1 x2 0))) (fun y0 =>
 .br (!y0) (.at (.done 0)) (.at (.next ((x0, x1, IntKind.i64.wrap (x2 + 1))))))
 (.no))
 (.no))
 (.at (.done 1))
def qmJ : qeA -> DT (Rd qeA) := (fun v => qmK v.1 v.2.1 v.2.2)
def qsg (v : qeA) : Option (Nat × qeA) := qav (qaq (fun v => (qmJ v).ev) v)
theorem qsh (v) : qsg v = qaq (fun v => (qmJ v).ev) v := qaa _
def qFO : qb3 := LE (τ := qeA) (hD qFm) (qsg) q3P
theorem q3i : Go.Eng.Told IP (qaf F26 0).1 (qaf F26 0).2 (qFO) := lp (inferInstance : Inhabited qeA) (hs := qFm) qmJ qtF qsh
abbrev qA4 : Type := Bool
def qGv : PArgs := ⟨[.int .i64], []⟩
def qH6 : List PRes := [⟨false, .bool, []⟩]
def qjo (x0 : Int) : DT qA4 :=
 .bi (br (x0 == 1) (some true) (some (x0 == 2))) (fun y0 =>
 .bi (br y0 (some true) (some (x0 == 3))) (fun y1 =>
 .at (y1))
 (.no))
 (.no)
def qb8 (x0 : Int) : Option qA4 := qav (qjo x0).ev
theorem qx6 (x0) : qb8 x0 = (qjo x0).ev := qaa _
theorem qUC : FH IP 92 qGv qH6 qb8 := fh F92 qjo qtF
def q83 : Tab := (92, FE qGv qH6 qb8) :: q82
theorem qCn : qai IP q83 := ⟨qah qUC, qtF⟩
abbrev qAO : Type := Int × Bool
def qGf : PArgs := ⟨[.int .i64, .int .i64], []⟩
def qHQ : List PRes := [⟨false, .tup [.int .i64, .bool], []⟩]
def qjb (x0 x1 : Int) : DT qAO :=
 .bi (qb8 x0) (fun y0 =>
 .bi (br (!y0) (some true) (br (sm (qb8 x1)) (some !gv (qb8 x1)) none)) (fun y1 =>
 .br (y1)
 (.at ((0, false)))
 (.br (x0 == 1)
 (.at ((x1, true)))
 (.br (x1 == 1) (.at ((x0, true))) (.at ((2, x0 != x1))))))
 (.no))
 (.no)
def qpf (x0 x1 : Int) : Option qAO := qav (qjb x0 x1).ev
theorem qxO (x0 x1) : qpf x0 x1 = (qjb x0 x1).ev := qaa _
theorem qUl : FH IP 121 qGf qHQ (k2 qpf) := fh q5r (k2 qjb) qCn
def q84 : Tab := (121, FE qGf qHQ (k2 qpf)) :: q83
theorem qCo : qai IP q84 := ⟨qah qUl, qCn⟩
abbrev qBV : Type := Int × Bool
def qHp : PArgs := ⟨[.int .i64, .int .i64, .int .i64], []⟩
def qI0 : List PRes := [⟨false, .tup [.int .i64, .bool], []⟩]
def qkc (x0 x1 x2 : Int) : DT qBV :=
 .br (x0 == 5)
 (.br (x1 == 4)
 (.at ((x1, x2 == 1)))
 (.bi (br (x1 == x2) (br (sm (qb8 x1)) (some (gv (qb8 x1))) none) (some false)) (fun y0 =>
 .at ((x1, y0)))
 (.no)))
 (.br (x0 == 6)
 (.bi (br (x1 == 4) (some (x2 == 4)) (some false)) (fun y0 =>
 .br (y0)
 (.at ((1, true)))
 (.br (x1 == 4)
 (.at ((x1, x2 == 1)))
 (.bi (br (x1 == x2) (br (sm (qb8 x1)) (some (gv (qb8 x1))) none) (some false)) (fun y1 =>
 .at ((x1, y1)))
 (.no))))
 (.no))
 (.br (x0 == 7)
 (.bi (qpf x1 x2) (fun y0 =>
 .at ((y0.1, y0.2)))
 (.no))
 (.br (x0 == 8)
 (.bi (br (x1 == 2) (some (x2 == 2)) (some false)) (fun y0 =>
 .br (y0)
 (.at ((1, true)))
 (.bi (qb8 x1) (fun y1 =>
 .bi (br y1 (some (x2 == 1)) (some false)) (fun y2 =>
 .at ((x1, y2)))
 (.no))
 (.no)))
 (.no))
 (.br (x0 == 10)
 (.br (x0 == 10)
 (.at ((5, x1 == x2)))
 (.br (x0 == 12)
 (.br (x0 == 12)
 (.bi (br (x1 == x2) (some (x1 != 5)) (some false)) (fun y0 =>
 .at ((5, y0)))
 (.no))
 (.br (x0 == 14)
 (.br (x0 == 14)
 (.bi (br (x1 == 5) (some (x2 == 5)) (some false)) (fun y0 =>
 .at ((5, y0)))
 (.no))
 (.br (x0 == 17)
 (.br (x0 == 17)
 (.bi (br (x1 == x2) (some (x1 != 5)) (some false)) (fun y0 =>
 .at ((x1, y0)))
 (.no))
 (.at ((0, false))))
 (.br (x0 == 18)
 (.bi (br (x1 == x2) (some (x1 != 5)) (some false)) (fun y0 =>
 .at ((x1, y0)))
 (.no))
 (.at ((0, false))))))
 (.br (x0 == 15)
 (.bi (br (x1 == 5) (some (x2 == 5)) (some false)) (fun y0 =>
 .at ((5, y0)))
 (.no))
 (.br (x0 == 17)
 (.br (x0 == 17)
 (.bi (br (x1 == x2) (some (x1 != 5)) (some false)) (fun y0 =>
 .at ((x1, y0)))
 (.no))
 (.at ((0, false))))
 (.br (x0 == 18)
 (.bi (br (x1 == x2) (some (x1 != 5)) (some false)) (fun y0 =>
 .at ((x1, y0)))
 (.no))
 (.at ((0, false))))))))
 (.br (x0 == 13)
 (.bi (br (x1 == x2) (some (x1 != 5)) (some false)) (fun y0 =>
 .at ((5, y0)))
 (.no))
 (.br (x0 == 14)
 (.br (x0 == 14)
 (.bi (br (x1 == 5) (some (x2 == 5)) (some false)) (fun y0 =>
 .at ((5, y0)))
 (.no))
 (.br (x0 == 17)
 (.br (x0 == 17)
 (.bi (br (x1 == x2) (some (x1 != 5)) (some false)) (fun y0 =>
 .at ((x1, y0)))
 (.no))
 (.at ((0, false))))
 (.br (x0 == 18)
 (.bi (br (x1 == x2) (some (x1 != 5)) (some false)) (fun y0 =>
 .at ((x1, y0)))
 (.no))
 (.at ((0, false))))))
 (.br (x0 == 15)
 (.bi (br (x1 == 5) (some (x2 == 5)) (some false)) (fun y0 =>
 .at ((5, y0)))
 (.no))
 (.br (x0 == 17)
 (.br (x0 == 17)
 (.bi (br (x1 == x2) (some (x1 != 5)) (some false)) (fun y0 =>
 .at ((x1, y0)))
 (.no))
 (.at ((0, false))))
 (.br (x0 == 18)
 (.bi (br (x1 == x2) (some (x1 != 5)) (some false)) (fun y0 =>
 .at ((x1, y0)))
 (.no))
 (.at ((0, false))))))))))
 (.br (x0 == 11)
 (.at ((5, x1 == x2)))
 (.br (x0 == 12)
 (.br (x0 == 12)
 (.bi (br (x1 == x2) (some (x1 != 5)) (some false)) (fun y0 =>
 .at ((5, y0)))
 (.no))
 (.br (x0 == 14)
 (.br (x0 == 14)
 (.bi (br (x1 == 5) (some (x2 == 5)) (some false)) (fun y0 =>
 .at ((5, y0)))
 (.no))
 (.br (x0 == 17)
 (.br (x0 == 17)
 (.bi (br (x1 == x2) (some (x1 != 5)) (some false)) (fun y0 =>
 .at ((x1, y0)))
 (.no))
 (.at ((0, false))))
 (.br (x0 == 18)
 (.bi (br (x1 == x2) (some (x1 != 5)) (some false)) (fun y0 =>
 .at ((x1, y0)))
 (.no))
 (.at ((0, false))))))
 (.br (x0 == 15)
 (.bi (br (x1 == 5) (some (x2 == 5)) (some false)) (fun y0 =>
 .at ((5, y0)))
 (.no))
 (.br (x0 == 17)
 (.br (x0 == 17)
 (.bi (br (x1 == x2) (some (x1 != 5)) (some false)) (fun y0 =>
 .at ((x1, y0)))
 (.no))
 (.at ((0, false))))
 (.br (x0 == 18)
 (.bi (br (x1 == x2) (some (x1 != 5)) (some false)) (fun y0 =>
 .at ((x1, y0)))
 (.no))
 (.at ((0, false))))))))
 (.br (x0 == 13)
 (.bi (br (x1 == x2) (some (x1 != 5)) (some false)) (fun y0 =>
 .at ((5, y0)))
 (.no))
 (.br (x0 == 14)
 (.br (x0 == 14)
 (.bi (br (x1 == 5) (some (x2 == 5)) (some false)) (fun y0 =>
 .at ((5, y0)))
 (.no))
 (.br (x0 == 17)
 (.br (x0 == 17)
 (.bi (br (x1 == x2) (some (x1 != 5)) (some false)) (fun y0 =>
 .at ((x1, y0)))
 (.no))
 (.at ((0, false))))
 (.br (x0 == 18)
 (.bi (br (x1 == x2) (some (x1 != 5)) (some false)) (fun y0 =>
 .at ((x1, y0)))
 (.no))
 (.at ((0, false))))))
 (.br (x0 == 15)
 (.bi (br (x1 == 5) (some (x2 == 5)) (some false)) (fun y0 =>
 .at ((5, y0)))
 (.no))
 (.br (x0 == 17)
 (.br (x0 == 17)
 (.bi (br (x1 == x2) (some (x1 != 5)) (some false)) (fun y0 =>
 .at ((x1, y0)))
 (.no))
 (.at ((0, false))))
 (.br (x0 == 18)
 (.bi (br (x1 == x2) (some (x1 != 5)) (some false)) (fun y0 =>
 .at ((x1, y0)))
 (.no))
 (.at ((0, false))))))))))))))
def qli (x0 x1 x2 : Int) : Option qBV := qav (qkc x0 x1 x2).ev
theorem qyU (x0 x1 x2) : qli x0 x1 x2 = (qkc x0 x1 x2).ev := qaa _
theorem qVG : FH IP 93 qHp qI0 (k3 qli) := fh F93 (k3 qkc) qCo
def q85 : Tab := (93, FE qHp qI0 (k3 qli)) :: q84
theorem qCp : qai IP q85 := ⟨qah qVG, qCo⟩
abbrev qA3 : Type := Int × Bool
def qGu : PArgs := ⟨[.int .i64, .view 1], []⟩
def qH5 : List PRes := [⟨false, .tup [.int .i64, .bool], []⟩]
def qeS (x0 : Int) (x1 : List AV) : DT qA3 :=
 .bi (br (x0 == 9) (some ((x1.length : Int) == 1)) (some false)) (fun y0 =>
 .br (y0)
 (.br (qay [.int .i64] x1 0)
 (.br (qay [.int .i64] x1 0)
 (.bi (qb8 (intOf (cellAt x1 0 0))) (fun y1 =>
 .at ((intOf (cellAt x1 0 0), y1)))
 (.no))
 (.no))
 (.no))
 (.bi (br (x0 == 16) (some ((x1.length : Int) == 1)) (some false)) (fun y1 =>
 .br (y1)
 (.br (qay [.int .i64] x1 0) (.at ((5, intOf (cellAt x1 0 0) == 5))) (.no))
 (.bi (br (x0 == 19) (some ((x1.length : Int) == 3)) (some false)) (fun y2 =>
 .br (y2)
 (.br (qay [.int .i64] x1 1)
 (.br (qay [.int .i64] x1 0)
 (.br (intOf (cellAt x1 0 0) == 5)
 (.br (qay [.int .i64] x1 1)
 (.br (qay [.int .i64] x1 2) (.at ((intOf (cellAt x1 1 0), intOf (cellAt x1 1 0) == intOf (cellAt x1 2 0)))) (.no))
 (.no))
 (.at ((intOf (cellAt x1 1 0), false))))
 (.no))
 (.no))
 (.br ((x1.length : Int) == 2)
 (.br (qay [.int .i64] x1 0)
 (.br (qay [.int .i64] x1 1)
 (.bi (qli x0 (intOf (cellAt x1 0 0)) (intOf (cellAt x1 1 0))) (fun y3 =>
 .at ((y3.1, y3.2)))
 (.no))
 (.no))
 (.no))
 (.at ((0, false)))))
 (.no)))
 (.no)))
 (.no)
def qe6 (x0 : Int) (x1 : List AV) : Option qA3 := qav (qeS x0 x1).ev
theorem qfy (x0 x1) : qe6 x0 x1 = (qeS x0 x1).ev := qaa _
theorem qUB : FH IP 61 qGu qH5 (k2 qe6) := fh F61 (k2 qeS) qCp
def q86 : Tab := (61, FE qGu qH5 (k2 qe6)) :: q85
theorem qCq : qai IP q86 := ⟨qah qUB, qCp⟩
abbrev qA2 : Type := Int × Bool
def qGt : PArgs := ⟨[.int .i64, .view 1], []⟩
def qH4 : List PRes := [⟨false, .tup [.int .i64, .bool], []⟩]
def qjn (x0 : Int) (x1 : List AV) : DT qA2 :=
 .br (decide ((x1.length : Int) > 3))
 (.at ((0, false)))
 (.bi (pj 0 (qsg (x0, x1, 0))) (fun y0 =>
 .at ((0, false)))
 (.bi (pj 1 (qsg (x0, x1, 0))) (fun y0 =>
 .bi (qe6 y0.1 y0.2.1) (fun y1 =>
 .br (!y1.2) (.at ((0, false))) (.at ((y1.1, true))))
 (.no))
 (.no)))
def qbU (x0 : Int) (x1 : List AV) : Option qA2 := qav (qjn x0 x1).ev
theorem qx5 (x0 x1) : qbU x0 x1 = (qjn x0 x1).ev := qaa _
theorem qUA : FH IP 26 qGt qH4 (k2 qbU) := qae (F := F26) (L := [(1002600, qFO)]) (t := (k2 qjn)) qCq (qab (l := [qaf F26 0]) (by kernel_rfl) ⟨qau (by kernel_rfl) q3i, trivial⟩) (by kernel_rfl) (fun v => by kernel_rfl) (fun _ => qaa _)
def q87 : Tab := (26, FE qGt qH4 (k2 qbU)) :: q86
theorem qCr : qai IP q87 := ⟨qah qUA, qCq⟩
abbrev qA6 : Type := Bool
def qGx : PArgs := ⟨[.int .i64, .int .i64], []⟩
def qH8 : List PRes := [⟨false, .bool, []⟩]
def qjp (x0 x1 : Int) : DT qA6 :=
 .bi (br (decide (x0 >= IntKind.i64.wrap (0 - x1))) (some (decide (x0 <= x1))) (some false)) (fun y0 =>
 .at (y0))
 (.no)
def qhK (x0 x1 : Int) : Option qA6 := qav (qjp x0 x1).ev
theorem qx7 (x0 x1) : qhK x0 x1 = (qjp x0 x1).ev := qaa _
theorem qUE : FH IP 62 qGx qH8 (k2 qhK) := fh F62 (k2 qjp) qCr
def q88 : Tab := (62, FE qGx qH8 (k2 qhK)) :: q87
theorem qCs : qai IP q88 := ⟨qah qUE, qCr⟩
abbrev qBo : Type := Bool
def qGP : PArgs := ⟨[.int .i64], []⟩
def qIq : List PRes := [⟨false, .bool, []⟩]
def qjF (x0 : Int) : DT qBo :=
 .bi (br (decide (x0 >= 0)) (some (decide (x0 <= 73048))) (some false)) (fun y0 =>
 .at (y0))
 (.no)
def qkY (x0 : Int) : Option qBo := qav (qjF x0).ev
theorem qyn (x0) : qkY x0 = (qjF x0).ev := qaa _
theorem qUZ : FH IP 63 qGP qIq qkY := fh F63 qjF qCs
def q89 : Tab := (63, FE qGP qIq qkY) :: q88
theorem qCt : qai IP q89 := ⟨qah qUZ, qCs⟩
abbrev qB4 : Type := Bool
def qHy : PArgs := ⟨[.agg [.int .i64, .int .i64]], []⟩
def qI9 : List PRes := [⟨false, .bool, []⟩]
def qkj (x0 x1 : Int) : DT qB4 :=
 .br (x0 == 1)
 (.at (true))
 (.br (x0 == 2)
 (.bi (qhK x1 1000000000000) (fun y0 =>
 .at (y0))
 (.no))
 (.br (x0 == 3)
 (.bi (qhK x1 1000000000) (fun y0 =>
 .at (y0))
 (.no))
 (.br (x0 == 4)
 (.bi (qkY x1) (fun y0 =>
 .at (y0))
 (.no))
 (.br (x0 == 5)
 (.bi (br (x1 == 0) (some true) (some (x1 == 1))) (fun y0 =>
 .at (y0))
 (.no))
 (.at (false))))))
def qfd (x0 x1 : Int) : Option qB4 := qav (qkj x0 x1).ev
theorem qy1 (x0 x1) : qfd x0 x1 = (qkj x0 x1).ev := qaa _
theorem qVQ : FH IP 27 qHy qI9 (k2 qfd) := fh F27 (k2 qkj) qCt
def q9a : Tab := (27, FE qHy qI9 (k2 qfd)) :: q89
theorem qtG : qai IP q9a := ⟨qah qVQ, qCt⟩
abbrev qcY : Type := Int × List AV × Int × Int × Int × Int
def qvX : List PSt := [⟨[(1001101, .junk), (0, .int .i64), (1, .view 2), (4, .ref 0 0 0), (8, .int .i64), (10, .int .i64)], [(0, .box [.int .i64, .int .i64] false)], 1, 0⟩]
def qJ7 (x0 : Int) (x1 : List AV) (x2 x3 : Int) (x4 x5 : Int) : X × St := (.ret,
 ⟨[(0, .int .i64 x0), (1, .view 2 x1), (4, .ref 0 0 0), (5, .int .i64 1), (8, .int .i64 x2)], [(0, .box [.int .i64 0, .int .i64 0] false)], 1, 0⟩)
def qJ8 (x0 : Int) (x1 : List AV) (x2 x3 : Int) (x4 x5 : Int) : X × St := (.exit 2,
 ⟨[(0, .int .i64 x0), (1, .view 2 x1), (4, .ref 0 0 0), (5, .junk), (8, .int .i64 x2)], [(0, .box [.int .i64 x4, .int .i64 x5] false)], 1, 0⟩)
def qXj : List (qcY -> X × St) := [(k6 qJ7), (k6 qJ8)]
def qin (x0 : Int) (x1 : List AV) (x2 x3 : Int) (x4 x5 : Int) : DT (Rd qcY) :=
 .br (decide (x3 < (x1.length : Int)))
 (.br (qay [.int .i64, .int .i64] x1 x3)
 (.bi (qfd (intOf (cellAt x1 x3 0)) (intOf (cellAt x1 x3 1))) (fun y0 =>
 .br (!y0) (.at (.done 0)) (.at (.next ((x0, x1, x2, IntKind.i64.wrap (x3 + 1), x4, x5)))))
 (.no))
 (.no))
 (.at (.done 1))
def qhb : qcY -> DT (Rd qcY) := (fun v => qin v.1 v.2.1 v.2.2.1 v.2.2.2.1 v.2.2.2.2.1 v.2.2.2.2.2)
def qeM (v : qcY) : Option (Nat × qcY) := qav (qaq (fun v => (qhb v).ev) v)
theorem qoj (v) : qeM v = qaq (fun v => (qhb v).ev) v := qaa _
def qwD : qb3 := LE (τ := qcY) (hD qvX) (qeM) qXj
theorem qWI : Go.Eng.Told IP (qaf F11 1).1 (qaf F11 1).2 (qwD) := lp (inferInstance : Inhabited qcY) (hs := qvX) qhb qtG qoj
abbrev qB1 : Type := Int × Int
def qHv : PArgs := ⟨[.int .i64], []⟩
def qI6 : List PRes := [⟨false, .agg [.int .i64, .int .u64], []⟩]
def qkh (x0 : Int) : DT qB1 :=
 .br (decide (x0 < 0)) (.at ((-1, IntKind.u64.wrap x0))) (.at ((0, IntKind.u64.wrap x0)))
def qbD (x0 : Int) : Option qB1 := qav (qkh x0).ev
theorem qyZ (x0) : qbD x0 = (qkh x0).ev := qaa _
theorem qVM : FH IP 28 qHv qI6 qbD := fh F28 qkh qtG
def q9b : Tab := (28, FE qHv qI6 qbD) :: q9a
theorem qCu : qai IP q9b := ⟨qah qVM, qtG⟩
abbrev qBk : Type := Bool × Int × Int
def qGL : PArgs := ⟨[.agg [.int .i64, .int .u64]], []⟩
def qIm : List PRes := [⟨false, .tup [.bool, .agg [.int .u64, .int .u64]], []⟩]
def qjC (x0 x1 : Int) : DT qBk :=
 .br (decide (x0 >= 0))
 (.at ((false, IntKind.u64.wrap x0, x1)))
 (.br (IntKind.u64.wrap (IntKind.u64.wrap (-1 - x1) + 1) == 0)
 (.at ((true, IntKind.u64.wrap (IntKind.u64.wrap (-1 - IntKind.u64.wrap x0) + 1), IntKind.u64.wrap (IntKind.u64.wrap (-1 - x1) + 1))))
 (.at ((true, IntKind.u64.wrap (-1 - IntKind.u64.wrap x0), IntKind.u64.wrap (IntKind.u64.wrap (-1 - x1) + 1)))))
def qdT (x0 x1 : Int) : Option qBk := qav (qjC x0 x1).ev
theorem qyk (x0 x1) : qdT x0 x1 = (qjC x0 x1).ev := qaa _
theorem qUV : FH IP 64 qGL qIm (k2 qdT) := fh F64 (k2 qjC) qCu
def q9c : Tab := (64, FE qGL qIm (k2 qdT)) :: q9b
theorem qCv : qai IP q9c := ⟨qah qUV, qCu⟩
abbrev qBy : Type := Int × Int × Bool
def qG0 : PArgs := ⟨[.agg [.int .u64, .int .u64], .agg [.int .u64, .int .u64]], []⟩
def qIB : List PRes := [⟨false, .tup [.agg [.int .u64, .int .u64], .bool], []⟩]
def qjP (x0 x1 : Int) (x2 x3 : Int) : DT qBy :=
 .br (decide (IntKind.u64.wrap (x1 + x3) < x1))
 (.bi (br (decide (IntKind.u64.wrap (x0 + x2) >= x0)) (some (decide (IntKind.u64.wrap (IntKind.u64.wrap (x0 + x2) + 1) >= 1))) (some false)) (fun y0 =>
 .at ((IntKind.u64.wrap (IntKind.u64.wrap (x0 + x2) + 1), IntKind.u64.wrap (x1 + x3), y0)))
 (.no))
 (.bi (br (decide (IntKind.u64.wrap (x0 + x2) >= x0)) (some (decide (IntKind.u64.wrap (IntKind.u64.wrap (x0 + x2) + 0) >= 0))) (some false)) (fun y0 =>
 .at ((IntKind.u64.wrap (IntKind.u64.wrap (x0 + x2) + 0), IntKind.u64.wrap (x1 + x3), y0)))
 (.no))
def qeK (x0 x1 : Int) (x2 x3 : Int) : Option qBy := qav (qjP x0 x1 x2 x3).ev
theorem qyx (x0 x1 x2 x3) : qeK x0 x1 x2 x3 = (qjP x0 x1 x2 x3).ev := qaa _
theorem qVi : FH IP 94 qG0 qIB (k4 qeK) := fh F94 (k4 qjP) qCv
def q9d : Tab := (94, FE qG0 qIB (k4 qeK)) :: q9c
theorem qCw : qai IP q9d := ⟨qah qVi, qCv⟩
abbrev qBw : Type := Int × Int × Bool
def qGY : PArgs := ⟨[.bool, .agg [.int .u64, .int .u64]], []⟩
def qIz : List PRes := [⟨false, .tup [.agg [.int .i64, .int .u64], .bool], []⟩]
def qjN (x0 : Bool) (x1 x2 : Int) : DT qBw :=
 .br (!x0)
 (.at ((IntKind.i64.wrap x1, x2, decide (x1 < 9223372036854775808))))
 (.br (IntKind.u64.wrap (IntKind.u64.wrap (-1 - x2) + 1) == 0)
 (.br (decide (x1 < 9223372036854775808))
 (.at ((IntKind.i64.wrap (IntKind.u64.wrap (IntKind.u64.wrap (-1 - x1) + 1)), IntKind.u64.wrap (IntKind.u64.wrap (-1 - x2) + 1), true)))
 (.br (x1 == 9223372036854775808)
 (.at ((IntKind.i64.wrap (IntKind.u64.wrap (IntKind.u64.wrap (-1 - x1) + 1)), IntKind.u64.wrap (IntKind.u64.wrap (-1 - x2) + 1), x2 == 0)))
 (.at ((IntKind.i64.wrap (IntKind.u64.wrap (IntKind.u64.wrap (-1 - x1) + 1)), IntKind.u64.wrap (IntKind.u64.wrap (-1 - x2) + 1), false)))))
 (.br (decide (x1 < 9223372036854775808))
 (.at ((IntKind.i64.wrap (IntKind.u64.wrap (-1 - x1)), IntKind.u64.wrap (IntKind.u64.wrap (-1 - x2) + 1), true)))
 (.br (x1 == 9223372036854775808)
 (.at ((IntKind.i64.wrap (IntKind.u64.wrap (-1 - x1)), IntKind.u64.wrap (IntKind.u64.wrap (-1 - x2) + 1), x2 == 0)))
 (.at ((IntKind.i64.wrap (IntKind.u64.wrap (-1 - x1)), IntKind.u64.wrap (IntKind.u64.wrap (-1 - x2) + 1), false))))))
def qdU (x0 : Bool) (x1 x2 : Int) : Option qBw := qav (qjN x0 x1 x2).ev
theorem qyv (x0 x1 x2) : qdU x0 x1 x2 = (qjN x0 x1 x2).ev := qaa _
theorem qVg : FH IP 97 qGY qIz (k3 qdU) := fh F97 (k3 qjN) qCw
def q9e : Tab := (97, FE qGY qIz (k3 qdU)) :: q9d
theorem qCx : qai IP q9e := ⟨qah qVg, qCw⟩
abbrev qBx : Type := Bool
def qGZ : PArgs := ⟨[.agg [.int .u64, .int .u64], .agg [.int .u64, .int .u64]], []⟩
def qIA : List PRes := [⟨false, .bool, []⟩]
def qjO (x0 x1 : Int) (x2 x3 : Int) : DT qBx :=
 .bi (br (decide (x0 < x2)) (some true) (br (x0 == x2) (some (decide (x1 < x3))) (some false))) (fun y0 =>
 .at (y0))
 (.no)
def qk3 (x0 x1 : Int) (x2 x3 : Int) : Option qBx := qav (qjO x0 x1 x2 x3).ev
theorem qyw (x0 x1 x2 x3) : qk3 x0 x1 x2 x3 = (qjO x0 x1 x2 x3).ev := qaa _
theorem qVh : FH IP 95 qGZ qIA (k4 qk3) := fh F95 (k4 qjO) qCx
def q9f : Tab := (95, FE qGZ qIA (k4 qk3)) :: q9e
theorem qCy : qai IP q9f := ⟨qah qVh, qCx⟩
abbrev qBl : Type := Int × Int
def qGM : PArgs := ⟨[.agg [.int .u64, .int .u64], .agg [.int .u64, .int .u64]], []⟩
def qIn : List PRes := [⟨false, .agg [.int .u64, .int .u64], []⟩]
def qjD (x0 x1 : Int) (x2 x3 : Int) : DT qBl :=
 .br (decide (x1 < x3))
 (.at ((IntKind.u64.wrap (IntKind.u64.wrap (x0 - x2) - 1), IntKind.u64.wrap (x1 - x3))))
 (.at ((IntKind.u64.wrap (x0 - x2), IntKind.u64.wrap (x1 - x3))))
def qhL (x0 x1 : Int) (x2 x3 : Int) : Option qBl := qav (qjD x0 x1 x2 x3).ev
theorem qyl (x0 x1 x2 x3) : qhL x0 x1 x2 x3 = (qjD x0 x1 x2 x3).ev := qaa _
theorem qUW : FH IP 96 qGM qIn (k4 qhL) := fh F96 (k4 qjD) qCy
def q9g : Tab := (96, FE qGM qIn (k4 qhL)) :: q9f
theorem qCz : qai IP q9g := ⟨qah qUW, qCy⟩
abbrev qBU : Type := Int × Int × Int
def qHo : PArgs := ⟨[.bool, .agg [.int .u64, .int .u64], .bool, .agg [.int .u64, .int .u64]], []⟩
def qIZ : List PRes := [⟨false, .tup [.agg [.int .i64, .int .u64], .int .i64], []⟩]
def qkb (x0 : Bool) (x1 x2 : Int) (x3 : Bool) (x4 x5 : Int) : DT qBU :=
 .br (if false = true then !x0 == x3 else x0 == x3)
 (.bi (qeK x1 x2 x4 x5) (fun y0 =>
 .bi (qdU x0 y0.1 y0.2.1) (fun y1 =>
 .bi (br (!y0.2.2) (some true) (some !y1.2.2)) (fun y2 =>
 .br (y2) (.at ((0, 0, 6))) (.at ((y1.1, y1.2.1, 0))))
 (.no))
 (.no))
 (.no))
 (.bi (qk3 x1 x2 x4 x5) (fun y0 =>
 .br (y0)
 (.bi (qhL x4 x5 x1 x2) (fun y1 =>
 .bi (qdU x3 y1.1 y1.2) (fun y2 =>
 .br (gv (some !y2.2.2)) (.at ((0, 0, 6))) (.at ((y2.1, y2.2.1, 0))))
 (.no))
 (.no))
 (.bi (qhL x1 x2 x4 x5) (fun y1 =>
 .bi (qdU x0 y1.1 y1.2) (fun y2 =>
 .br (gv (some !y2.2.2)) (.at ((0, 0, 6))) (.at ((y2.1, y2.2.1, 0))))
 (.no))
 (.no)))
 (.no))
def qhW (x0 : Bool) (x1 x2 : Int) (x3 : Bool) (x4 x5 : Int) : Option qBU := qav (qkb x0 x1 x2 x3 x4 x5).ev
theorem qyT (x0 x1 x2 x3 x4 x5) : qhW x0 x1 x2 x3 x4 x5 = (qkb x0 x1 x2 x3 x4 x5).ev := qaa _
theorem qVF : FH IP 65 qHo qIZ (k6 qhW) := fh F65 (k6 qkb) qCz
def q9h : Tab := (65, FE qHo qIZ (k6 qhW)) :: q9g
theorem qCA : qai IP q9h := ⟨qah qVF, qCz⟩
end
end Go.Proofs.H13

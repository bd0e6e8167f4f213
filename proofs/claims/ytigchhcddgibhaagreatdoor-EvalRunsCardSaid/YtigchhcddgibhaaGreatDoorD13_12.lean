/- Functions over plain data. Printed by a program of mine. -/
import Derived.Test.YtigchhcddgibhaaGreatDoorD13_11
import Derived.KernelRfl
namespace Go.Proofs.H13
open Go Go.Eng
set_option maxRecDepth 100000
noncomputable section
abbrev qa8 : Type := (List AV × Int × Int × Int × List AV × List AV × Int × Int) ⊕ (List AV × Int × Int × Int × List AV × List AV × Int × Int × List AV) ⊕ (List AV × Int × Nat × Int × Int × List AV × List AV × Int × Int × List AV)
def qwc : List PSt := [⟨[(1001800, .junk), (1, .view 2), (2, .int .i64), (3, .ref 0 0 0), (6, .ref 1 0 0), (9, .nils 2), (10, .int .i64)], [(0, .box [.int .i64, .view 2, .view 3] false), (1, .box [.int .i64, .int .i64] false)], 2, 0⟩, ⟨[(1001800, .junk), (1, .view 2), (2, .int .i64), (3, .ref 0 0 0), (6, .ref 1 0 0), (9, .own 2 0), (10, .int .i64)], [(0, .box [.int .i64, .view 2, .view 3] false), (1, .box [.int .i64, .int .i64] false), (2, .arr 2 false)], 3, 0⟩, ⟨[(1001800, .junk), (1, .view 2), (2, .int .i64), (3, .ref 0 0 0), (6, .ref 1 0 0), (9, .ownn 2 0), (10, .int .i64)], [(0, .box [.int .i64, .view 2, .view 3] false), (1, .box [.int .i64, .int .i64] false), (2, .arr 2 false)], 3, 0⟩]
def qKQ (x0 : List AV) (x1 x2 x3 : Int) (x4 x5 : List AV) (x6 x7 : Int) : X × St := (.ret,
 ⟨[(2, .int .i64 x1), (6, .ref 0 0 0), (7, .int .i64 0), (8, .int .i64 8), (9, .nils ⟨2, .nil⟩)], [(0, .box [.int .i64 0, .int .i64 0] false)], 1, 0⟩)
def qKR (x0 : List AV) (x1 x2 x3 : Int) (x4 x5 : List AV) (x6 x7 : Int) : X × St := (.exit 0,
 ⟨[(2, .int .i64 x1), (6, .ref 0 0 0), (7, .junk), (8, .junk), (9, .nils ⟨2, .nil⟩)], [(0, .box [.int .i64 x6, .int .i64 x7] false)], 1, 0⟩)
def qKS (x0 : List AV) (x1 x2 x3 : Int) (x4 x5 : List AV) (x6 x7 : Int) (x8 : List AV) : X × St := (.ret,
 ⟨[(2, .int .i64 x1), (6, .ref 0 0 0), (7, .int .i64 0), (8, .int .i64 8), (9, .own 1 0 none)], [(0, .box [.int .i64 0, .int .i64 0] false), (1, .arr 2 x8 false)], 2, 0⟩)
def qKT (x0 : List AV) (x1 x2 x3 : Int) (x4 x5 : List AV) (x6 x7 : Int) (x8 : List AV) : X × St := (.ret,
 ⟨[(2, .int .i64 (IntKind.i64.wrap (x1 - 1))), (6, .ref 0 0 0), (7, .int .i64 0),
 (8,
 .int .i64
 (gv (qbt (intOf (cellAt x5 x2 1)) (qf2 x8 (0 + (IntKind.i64.wrap ((x8.length : Int) - gv (qdm (intOf (cellAt x5 x2 1))))).toNat)))).2.2),
 (9, .own 1 0 none)], [(0, .box [.int .i64 0, .int .i64 0] false), (1, .arr 2 x8 false)], 2, 0⟩)
def qKU (x0 : List AV) (x1 x2 x3 : Int) (x4 x5 : List AV) (x6 x7 : Int) (x8 : List AV) : X × St := (.exit 0,
 ⟨[(2, .int .i64 x1), (6, .ref 0 0 0), (7, .junk), (8, .junk), (9, .own 1 0 none)], [(0, .box [.int .i64 x6, .int .i64 x7] false), (1, .arr 2 x8 false)], 2, 0⟩)
def qKV (x0 : List AV) (x1 : Int) (x2 : Nat) (x3 x4 : Int) (x5 x6 : List AV) (x7 x8 : Int) (x9 : List AV) : X × St := (.ret,
 ⟨[(2, .int .i64 x1), (6, .ref 0 0 0), (7, .int .i64 0), (8, .int .i64 8), (9, .own 1 0 (some x2))], [(0, .box [.int .i64 0, .int .i64 0] false), (1, .arr 2 x9 false)], 2, 0⟩)
def qKW (x0 : List AV) (x1 : Int) (x2 : Nat) (x3 x4 : Int) (x5 x6 : List AV) (x7 x8 : Int) (x9 : List AV) : X × St := (.ret,
 ⟨[(2, .int .i64 (IntKind.i64.wrap (x1 - 1))), (6, .ref 0 0 0), (7, .int .i64 0),
 (8,
 .int .i64
 (gv
 (qbt (intOf (cellAt x6 x3 1))
 (List.take (x2 - (IntKind.i64.wrap ((x2 : Int) - gv (qdm (intOf (cellAt x6 x3 1))))).toNat)
 (qf2 x9 (0 + (IntKind.i64.wrap ((x2 : Int) - gv (qdm (intOf (cellAt x6 x3 1))))).toNat))))).2.2),
 (9, .own 1 0 (some x2))], [(0, .box [.int .i64 0, .int .i64 0] false), (1, .arr 2 x9 false)], 2, 0⟩)
def qKX (x0 : List AV) (x1 : Int) (x2 : Nat) (x3 x4 : Int) (x5 x6 : List AV) (x7 x8 : Int) (x9 : List AV) : X × St := (.exit 0,
 ⟨[(2, .int .i64 x1), (6, .ref 0 0 0), (7, .junk), (8, .junk), (9, .own 1 0 (some x2))], [(0, .box [.int .i64 x7, .int .i64 x8] false), (1, .arr 2 x9 false)], 2, 0⟩)
def qKY (x0 : List AV) (x1 x2 x3 : Int) (x4 x5 : List AV) (x6 x7 : Int) : X × St := (.ret,
 ⟨[(2, .int .i64 (IntKind.i64.wrap (x1 - 1))), (6, .ref 0 0 0), (7, .int .i64 0), (8, .int .i64 (gv (qbt (intOf (cellAt x5 x2 1)) [])).2.2), (9, .nils ⟨2, .nil⟩)], [(0, .box [.int .i64 0, .int .i64 0] false)], 1, 0⟩)
def qXw : List (qa8 -> X × St) := [fun w => (k8 qKQ) ((sl w)), fun w => (k8 qKR) ((sl w)), fun w => (k9 qKS) ((sl (sr w))), fun w => (k9 qKT) ((sl (sr w))), fun w => (k9 qKU) ((sl (sr w))), fun w => (k10 qKV) ((sr (sr w))), fun w => (k10 qKW) ((sr (sr w))), fun w => (k10 qKX) ((sr (sr w))), fun w => (k8 qKY) ((sl w))]
def qef (x0 : List AV) (x1 x2 x3 : Int) (x4 x5 : List AV) (x6 x7 : Int) : DT (Rd qa8) :=
 .br (decide (x2 < (x5.length : Int)))
 (.br (decide (x1 <= 0))
 (.at (.done 0))
 (.br (qay [.int .i64, .int .i64, .int .i64] x5 x2)
 (.br (intOf (cellAt x5 x2 0) == 1)
 (.at (.next ((.inr (.inl (x0, IntKind.i64.wrap (x1 - 1), IntKind.i64.wrap (x2 + 1), x3, x4, x5, x6, x7, [AV.agg [.int .i64 (intOf (cellAt x5 x2 1)), .int .i64 (intOf (cellAt x5 x2 2))]]))))))
 (.br (intOf (cellAt x5 x2 0) == 2)
 (.br (qay [.int .i64, .int .i64] x0 (intOf (cellAt x5 x2 1)))
 (.at (.next ((.inr (.inl (x0, IntKind.i64.wrap (x1 - 1), IntKind.i64.wrap (x2 + 1), x3, x4, x5, x6, x7, [AV.agg [.int .i64 (intOf (cellAt x0 (intOf (cellAt x5 x2 1)) 0)), .int .i64 (intOf (cellAt x0 (intOf (cellAt x5 x2 1)) 1))]]))))))
 (.no))
 (.br (intOf (cellAt x5 x2 0) == 4)
 (.at (.next ((.inl (x0, IntKind.i64.wrap (x1 - 1), intOf (cellAt x5 x2 1), x3, x4, x5, x6, x7)))))
 (.br (intOf (cellAt x5 x2 0) == 5)
 (.no)
 (.br (intOf (cellAt x5 x2 0) == 3)
 (.bi (qdm (intOf (cellAt x5 x2 1))) (fun y0 =>
 .br (q3R 0 0 (some (AV.int IntKind.i64 (IntKind.i64.wrap (0 - y0)))) none)
 (.bi (qbt (intOf (cellAt x5 x2 1)) []) (fun y1 =>
 .br (y1.2.2 != 0)
 (.at (.done 8))
 (.br (q3R 0 0 none (some (AV.int IntKind.i64 (IntKind.i64.wrap (0 - y0)))))
 (.at (.next ((.inr (.inl (x0, IntKind.i64.wrap (x1 - 1), IntKind.i64.wrap (x2 + 1), x3, x4, x5, x6, x7, [AV.agg [.int .i64 y1.1, .int .i64 y1.2.1]]))))))
 (.no)))
 (.no))
 (.no))
 (.no))
 (.at (.next ((.inl (x0, IntKind.i64.wrap (x1 - 1), IntKind.i64.wrap (x2 + 1), x3, x4, x5, x6, x7))))))))))
 (.no)))
 (.at (.done 1))
def qbe (x0 : List AV) (x1 x2 x3 : Int) (x4 x5 : List AV) (x6 x7 : Int) (x8 : List AV) : DT (Rd qa8) :=
 .br (decide (x2 < (x5.length : Int)))
 (.br (decide (x1 <= 0))
 (.at (.done 2))
 (.br (qay [.int .i64, .int .i64, .int .i64] x5 x2)
 (.br (intOf (cellAt x5 x2 0) == 1)
 (.br (room (x8.length + 1) 16)
 (.at (.next ((.inr (.inl (x0, IntKind.i64.wrap (x1 - 1), IntKind.i64.wrap (x2 + 1), x3, x4, x5, x6, x7, x8 ++ [AV.agg [.int .i64 (intOf (cellAt x5 x2 1)), .int .i64 (intOf (cellAt x5 x2 2))]]))))))
 (.no))
 (.br (intOf (cellAt x5 x2 0) == 2)
 (.br (qay [.int .i64, .int .i64] x0 (intOf (cellAt x5 x2 1)))
 (.br (room (x8.length + 1) 16)
 (.at (.next ((.inr (.inl (x0, IntKind.i64.wrap (x1 - 1), IntKind.i64.wrap (x2 + 1), x3, x4, x5, x6, x7, x8 ++ [AV.agg [.int .i64 (intOf (cellAt x0 (intOf (cellAt x5 x2 1)) 0)), .int .i64 (intOf (cellAt x0 (intOf (cellAt x5 x2 1)) 1))]]))))))
 (.no))
 (.no))
 (.br (intOf (cellAt x5 x2 0) == 4)
 (.at (.next ((.inr (.inl (x0, IntKind.i64.wrap (x1 - 1), intOf (cellAt x5 x2 1), x3, x4, x5, x6, x7, x8))))))
 (.br (intOf (cellAt x5 x2 0) == 5)
 (.br (inB x8.length (IntKind.i64.wrap ((x8.length : Int) - 1)))
 (.br (okP [.int .i64] x8 (IntKind.i64.wrap ((x8.length : Int) - 1)).toNat 1)
 (.br (intOf (qaz x8 (IntKind.i64.wrap ((x8.length : Int) - 1)).toNat 1) == 0)
 (.br (leB (IntKind.i64.wrap ((x8.length : Int) - 1)) x8.length && true && decide (0 + (IntKind.i64.wrap ((x8.length : Int) - 1)).toNat <= x8.length))
 (.at (.next ((.inr (.inr (x0, IntKind.i64.wrap (x1 - 1), (IntKind.i64.wrap ((x8.length : Int) - 1)).toNat - 0, intOf (cellAt x5 x2 1), x3, x4, x5, x6, x7, x8))))))
 (.no))
 (.br (leB (IntKind.i64.wrap ((x8.length : Int) - 1)) x8.length && true && decide (0 + (IntKind.i64.wrap ((x8.length : Int) - 1)).toNat <= x8.length))
 (.at (.next ((.inr (.inr (x0, IntKind.i64.wrap (x1 - 1), (IntKind.i64.wrap ((x8.length : Int) - 1)).toNat - 0, IntKind.i64.wrap (x2 + 1), x3, x4, x5, x6, x7, x8))))))
 (.no)))
 (.no))
 (.no))
 (.br (intOf (cellAt x5 x2 0) == 3)
 (.bi (qdm (intOf (cellAt x5 x2 1))) (fun y0 =>
 .br (leB (IntKind.i64.wrap ((x8.length : Int) - y0)) x8.length && true)
 (.bi (qbt (intOf (cellAt x5 x2 1)) (qf2 x8 (0 + (IntKind.i64.wrap ((x8.length : Int) - y0)).toNat))) (fun y1 =>
 .br (y1.2.2 != 0)
 (.at (.done 3))
 (.br (leB (IntKind.i64.wrap ((x8.length : Int) - y0)) x8.length && true && decide (0 + (IntKind.i64.wrap ((x8.length : Int) - y0)).toNat <= x8.length))
 (.br (decide ((List.take ((IntKind.i64.wrap ((x8.length : Int) - y0)).toNat - 0) x8).length = 0) && decide (0 + ((IntKind.i64.wrap ((x8.length : Int) - y0)).toNat - 0) <= x8.length))
 (.at (.next ((.inr (.inl (x0, IntKind.i64.wrap (x1 - 1), IntKind.i64.wrap (x2 + 1), x3, x4, x5, x6, x7, [AV.agg [.int .i64 y1.1, .int .i64 y1.2.1]]))))))
 (.br (decide ((List.take ((IntKind.i64.wrap ((x8.length : Int) - y0)).toNat - 0) x8).length ≠ 0) &&
 (decide (0 + ((IntKind.i64.wrap ((x8.length : Int) - y0)).toNat - 0) <= x8.length) && room (List.take ((IntKind.i64.wrap ((x8.length : Int) - y0)).toNat - 0) x8).length 16))
 (.br (room ((List.take ((IntKind.i64.wrap ((x8.length : Int) - y0)).toNat - 0) x8).length + 1) 16)
 (.at (.next ((.inr (.inl (x0, IntKind.i64.wrap (x1 - 1), IntKind.i64.wrap (x2 + 1), x3, x4, x5, x6, x7, List.take ((IntKind.i64.wrap ((x8.length : Int) - y0)).toNat - 0) x8 ++ [AV.agg [.int .i64 y1.1, .int .i64 y1.2.1]]))))))
 (.no))
 (.no)))
 (.no)))
 (.no))
 (.no))
 (.no))
 (.at (.next ((.inr (.inl (x0, IntKind.i64.wrap (x1 - 1), IntKind.i64.wrap (x2 + 1), x3, x4, x5, x6, x7, x8)))))))))))
 (.no)))
 (.at (.done 4))
def qaU (x0 : List AV) (x1 : Int) (x2 : Nat) (x3 x4 : Int) (x5 x6 : List AV) (x7 x8 : Int) (x9 : List AV) : DT (Rd qa8) :=
 .br (decide (x3 < (x6.length : Int)))
 (.br (decide (x1 <= 0))
 (.at (.done 5))
 (.br (qay [.int .i64, .int .i64, .int .i64] x6 x3)
 (.br (intOf (cellAt x6 x3 0) == 1)
 (.br (decide (0 + x2 + 1 <= x9.length) && decide (2 = 2))
 (.at (.next ((.inr (.inr (x0, IntKind.i64.wrap (x1 - 1), x2 + 1, IntKind.i64.wrap (x3 + 1), x4, x5, x6, x7, x8, List.take (0 + x2) x9 ++ [AV.agg [.int .i64 (intOf (cellAt x6 x3 1)), .int .i64 (intOf (cellAt x6 x3 2))]] ++ List.drop (0 + x2 + 1) x9))))))
 (.br (decide (x9.length < 0 + x2 + 1) && (decide (0 + x2 <= x9.length) && room (x2 + 1) 16))
 (.at (.next ((.inr (.inl (x0, IntKind.i64.wrap (x1 - 1), IntKind.i64.wrap (x3 + 1), x4, x5, x6, x7, x8, List.take x2 x9 ++ [AV.agg [.int .i64 (intOf (cellAt x6 x3 1)), .int .i64 (intOf (cellAt x6 x3 2))]]))))))
 (.no)))
 (.br (intOf (cellAt x6 x3 0) == 2)
 (.br (qay [.int .i64, .int .i64] x0 (intOf (cellAt x6 x3 1)))
 (.br (decide (0 + x2 + 1 <= x9.length) && decide (2 = 2))
 (.at (.next ((.inr (.inr (x0, IntKind.i64.wrap (x1 - 1), x2 + 1, IntKind.i64.wrap (x3 + 1), x4, x5, x6, x7, x8, List.take (0 + x2) x9 ++ [AV.agg [.int .i64 (intOf (cellAt x0 (intOf (cellAt x6 x3 1)) 0)), .int .i64 (intOf (cellAt x0 (intOf (cellAt x6 x3 1)) 1))]] ++
 List.drop (0 + x2 + 1) x9))))))
 (.br (decide (x9.length < 0 + x2 + 1) && (decide (0 + x2 <= x9.length) && room (x2 + 1) 16))
 (.at (.next ((.inr (.inl (x0, IntKind.i64.wrap (x1 - 1), IntKind.i64.wrap (x3 + 1), x4, x5, x6, x7, x8, List.take x2 x9 ++ [AV.agg [.int .i64 (intOf (cellAt x0 (intOf (cellAt x6 x3 1)) 0)), .int .i64 (intOf (cellAt x0 (intOf (cellAt x6 x3 1)) 1))]]))))))
 (.no)))
 (.no))
 (.br (intOf (cellAt x6 x3 0) == 4)
 (.at (.next ((.inr (.inr (x0, IntKind.i64.wrap (x1 - 1), x2, intOf (cellAt x6 x3 1), x4, x5, x6, x7, x8, x9))))))
 (.br (intOf (cellAt x6 x3 0) == 5)
 (.br (inB x2 (IntKind.i64.wrap ((x2 : Int) - 1)) && decide (0 + (IntKind.i64.wrap ((x2 : Int) - 1)).toNat < x9.length))
 (.br (okP [.int .i64] x9 (IntKind.i64.wrap ((x2 : Int) - 1)).toNat 1)
 (.br (intOf (qaz x9 (IntKind.i64.wrap ((x2 : Int) - 1)).toNat 1) == 0)
 (.br (leB (IntKind.i64.wrap ((x2 : Int) - 1)) x9.length && true && decide (0 + (IntKind.i64.wrap ((x2 : Int) - 1)).toNat <= x9.length))
 (.at (.next ((.inr (.inr (x0, IntKind.i64.wrap (x1 - 1), (IntKind.i64.wrap ((x2 : Int) - 1)).toNat - 0, intOf (cellAt x6 x3 1), x4, x5, x6, x7, x8, x9))))))
 (.no))
 (.br (leB (IntKind.i64.wrap ((x2 : Int) - 1)) x9.length && true && decide (0 + (IntKind.i64.wrap ((x2 : Int) - 1)).toNat <= x9.length))
 (.at (.next ((.inr (.inr (x0, IntKind.i64.wrap (x1 - 1), (IntKind.i64.wrap ((x2 : Int) - 1)).toNat - 0, IntKind.i64.wrap (x3 + 1), x4, x5, x6, x7, x8, x9))))))
 (.no)))
 (.no))
 (.no))
 (.br (intOf (cellAt x6 x3 0) == 3)
 (.bi (qdm (intOf (cellAt x6 x3 1))) (fun y0 =>
 .br (leB (IntKind.i64.wrap ((x2 : Int) - y0)) x2 && decide (0 + x2 <= x9.length))
 (.br (qgb [(2, Blk.arr 2 x9 false)] qdu (AV.own 2 (0 + (IntKind.i64.wrap ((x2 : Int) - y0)).toNat) (some (x2 - (IntKind.i64.wrap ((x2 : Int) - y0)).toNat))))
 (.bi (qbt (intOf (cellAt x6 x3 1)) (List.take (x2 - (IntKind.i64.wrap ((x2 : Int) - y0)).toNat) (qf2 x9 (0 + (IntKind.i64.wrap ((x2 : Int) - y0)).toNat)))) (fun y1 =>
 .br (y1.2.2 != 0)
 (.at (.done 6))
 (.br (leB (IntKind.i64.wrap ((x2 : Int) - y0)) x9.length && true && decide (0 + (IntKind.i64.wrap ((x2 : Int) - y0)).toNat <= x9.length))
 (.br (decide ((List.take ((IntKind.i64.wrap ((x2 : Int) - y0)).toNat - 0) x9).length = 0) && decide (0 + ((IntKind.i64.wrap ((x2 : Int) - y0)).toNat - 0) <= x9.length))
 (.at (.next ((.inr (.inl (x0, IntKind.i64.wrap (x1 - 1), IntKind.i64.wrap (x3 + 1), x4, x5, x6, x7, x8, [AV.agg [.int .i64 y1.1, .int .i64 y1.2.1]]))))))
 (.br (decide ((List.take ((IntKind.i64.wrap ((x2 : Int) - y0)).toNat - 0) x9).length ≠ 0) &&
 (decide (0 + ((IntKind.i64.wrap ((x2 : Int) - y0)).toNat - 0) <= x9.length) && room (List.take ((IntKind.i64.wrap ((x2 : Int) - y0)).toNat - 0) x9).length 16))
 (.br (room ((List.take ((IntKind.i64.wrap ((x2 : Int) - y0)).toNat - 0) x9).length + 1) 16)
 (.at (.next ((.inr (.inl (x0, IntKind.i64.wrap (x1 - 1), IntKind.i64.wrap (x3 + 1), x4, x5, x6, x7, x8, List.take ((IntKind.i64.wrap ((x2 : Int) - y0)).toNat - 0) x9 ++ [AV.agg [.int .i64 y1.1, .int .i64 y1.2.1]]))))))
 (.no))
 (.no)))
 (.no)))
 (.no))
 (.no))
 (.no))
 (.no))
 (.at (.next ((.inr (.inr (x0, IntKind.i64.wrap (x1 - 1), x2, IntKind.i64.wrap (x3 + 1), x4, x5, x6, x7, x8, x9)))))))))))
 (.no)))
 (.at (.done 7))
def qaD : qa8 -> DT (Rd qa8) := (Sum.elim (fun v => qef v.1 v.2.1 v.2.2.1 v.2.2.2.1 v.2.2.2.2.1 v.2.2.2.2.2.1 v.2.2.2.2.2.2.1 v.2.2.2.2.2.2.2) (Sum.elim (fun v => qbe v.1 v.2.1 v.2.2.1 v.2.2.2.1 v.2.2.2.2.1 v.2.2.2.2.2.1 v.2.2.2.2.2.2.1 v.2.2.2.2.2.2.2.1 v.2.2.2.2.2.2.2.2) (fun v => qaU v.1 v.2.1 v.2.2.1 v.2.2.2.1 v.2.2.2.2.1 v.2.2.2.2.2.1 v.2.2.2.2.2.2.1 v.2.2.2.2.2.2.2.1 v.2.2.2.2.2.2.2.2.1 v.2.2.2.2.2.2.2.2.2)))
def qh6 (v : qa8) : Option (Nat × qa8) := qav (qaq (fun v => (qaD v).ev) v)
theorem qch (v) : qh6 v = qaq (fun v => (qaD v).ev) v := qaa _
def qwQ : qb3 := LE (τ := qa8) (hD qwc) (qh6) qXw
theorem qWV : Go.Eng.Told IP (qaf F18 0).1 (qaf F18 0).2 (qwQ) := qat (inferInstance : Inhabited qa8) (hs := qwc) (st := qaD) (L := []) qtT (qab (l := []) (by kernel_rfl) trivial) (qch) (fun v => match v with | (.inl v) => by kernel_rfl | (.inr (.inl v)) => by kernel_rfl | (.inr (.inr v)) => by kernel_rfl) (fun v => match v with | (.inl v) => by kernel_rfl | (.inr (.inl v)) => by kernel_rfl | (.inr (.inr v)) => by kernel_rfl)
abbrev qty : Type := Int × Int × Int × Int
def qHr : PArgs := ⟨[.agg [.int .i64, .view 2, .view 3], .view 2, .int .i64], []⟩
def qI2 : List PRes := [⟨false, .tup [.agg [.int .i64, .int .i64], .int .i64, .int .i64], []⟩]
def rqT (y : Option (Nat × qa8)) : DT qty :=
 (.bi (pj 0 y) (fun y2 =>
 .at ((0, 0, 0, 8)))
 (.bi (pj 1 y) (fun y2 =>
 .no)
 (.bi (pj 2 y) (fun y2 =>
 .at ((0, 0, 0, 8)))
 (.bi (pj 3 y) (fun y2 =>
 .at ((0, 0, 0, (gv
 (qbt (intOf (cellAt (sl (sr y2)).2.2.2.2.2.1 (sl (sr y2)).2.2.1 1))
 (qf2 (sl (sr y2)).2.2.2.2.2.2.2.2
 (0 +
 (IntKind.i64.wrap
 (((sl (sr y2)).2.2.2.2.2.2.2.2.length : Int) -
 gv (qdm (intOf (cellAt (sl (sr y2)).2.2.2.2.2.1 (sl (sr y2)).2.2.1 1))))).toNat)))).2.2)))
 (.bi (pj 4 y) (fun y2 =>
 .br (inB (sl (sr y2)).2.2.2.2.2.2.2.2.length 0)
 (.br (okP [.int .i64, .int .i64] (sl (sr y2)).2.2.2.2.2.2.2.2 0 0)
 (.at ((intOf (qaz (sl (sr y2)).2.2.2.2.2.2.2.2 0 0), intOf (qaz (sl (sr y2)).2.2.2.2.2.2.2.2 0 1), (sl (sr y2)).2.1, 0)))
 (.no))
 (.no))
 (.bi (pj 5 y) (fun y2 =>
 .at ((0, 0, 0, 8)))
 (.bi (pj 6 y) (fun y2 =>
 .at ((0, 0, 0, (gv
 (qbt (intOf (cellAt (sr (sr y2)).2.2.2.2.2.2.1 (sr (sr y2)).2.2.2.1 1))
 (List.take
 ((sr (sr y2)).2.2.1 -
 (IntKind.i64.wrap
 (((sr (sr y2)).2.2.1 : Int) - gv (qdm (intOf (cellAt (sr (sr y2)).2.2.2.2.2.2.1 (sr (sr y2)).2.2.2.1 1))))).toNat)
 (qf2 (sr (sr y2)).2.2.2.2.2.2.2.2.2
 (0 +
 (IntKind.i64.wrap
 (((sr (sr y2)).2.2.1 : Int) -
 gv (qdm (intOf (cellAt (sr (sr y2)).2.2.2.2.2.2.1 (sr (sr y2)).2.2.2.1 1))))).toNat))))).2.2)))
 (.bi (pj 7 y) (fun y2 =>
 .br (inB (sr (sr y2)).2.2.1 0 && decide (0 < (sr (sr y2)).2.2.2.2.2.2.2.2.2.length))
 (.br (okP [.int .i64, .int .i64] (sr (sr y2)).2.2.2.2.2.2.2.2.2 0 0)
 (.at ((intOf (qaz (sr (sr y2)).2.2.2.2.2.2.2.2.2 0 0), intOf (qaz (sr (sr y2)).2.2.2.2.2.2.2.2.2 0 1), (sr (sr y2)).2.1, 0)))
 (.no))
 (.no))
 (.bi (pj 8 y) (fun y2 =>
 .at ((0, 0, 0, (gv (qbt (intOf (cellAt (sl y2).2.2.2.2.2.1 (sl y2).2.2.1 1)) [])).2.2)))
 (.no))))))))))
def qke (x0 : Int) (x1 x2 x3 : List AV) (x4 : Int) : DT qty :=
 .bi (qn7 x0 x1 x2) (fun y0 =>
 .br (y0 != 0)
 (.at ((0, 0, 0, 9)))
 (.bi (qe9 x1 x3) (fun y1 =>
 .br (!y1)
 (.at ((0, 0, 0, 1)))
 ((rqT (qh6 (Sum.inl (x3, x4, 0, x0, x1, x2, 0, 0))))))
 (.no)))
 (.no)
def qlk (x0 : Int) (x1 x2 x3 : List AV) (x4 : Int) : Option qty := qav (qke x0 x1 x2 x3 x4).ev
theorem qyW (x0 x1 x2 x3 x4) : qlk x0 x1 x2 x3 x4 = (qke x0 x1 x2 x3 x4).ev := qaa _
theorem qVI : FH IP 18 qHr qI2 (k5 qlk) := qae (F := F18) (L := [(1001800, qwQ)]) (t := (k5 qke)) qtT (qab (l := [qaf F18 0]) (by kernel_rfl) ⟨qau (by kernel_rfl) qWV, trivial⟩) (by kernel_rfl) (fun v => by kernel_rfl) (fun _ => qaa _)
def q9Z : Tab := (18, FE qHr qI2 (k5 qlk)) :: q9Y
theorem qDa : qai IP q9Z := ⟨qah qVI, qtT⟩
abbrev qPd : Type := Bool
def qR7 : PArgs := ⟨[.agg [.int .i64, .view 2, .view 3], .view 2, .int .i64], []⟩
def qTa : List PRes := [⟨false, .bool, []⟩]
def qqU (x0 : Int) (x1 x2 x3 : List AV) (x4 : Int) : DT qPd :=
 .bi (br (decide ((x2.length : Int) > 300)) (some true) (some (decide ((x1.length : Int) > 100)))) (fun y0 =>
 .bi (br y0 (some true) (some (decide ((x3.length : Int) > 100)))) (fun y1 =>
 .br (y1)
 (.bi (qaR) (fun y2 =>
 .at (y2))
 (.no))
 (.bi (qdj x0 x1 x2 x3 x4) (fun y2 =>
 .bi (qlk x0 x1 x2 x3 x4) (fun y3 =>
 .bi (br (if false = true then !(y2.1 == y3.1 && (y2.2.1 == y3.2.1 && true)) else y2.1 == y3.1 && (y2.2.1 == y3.2.1 && true))
 (some (y2.2.2.1 == y3.2.2.1)) (some false)) (fun y4 =>
 .bi (br y4 (some (y2.2.2.2 == y3.2.2.2)) (some false)) (fun y5 =>
 .bi (br y5 (br (sm qaR) (some (gv qaR)) none) (some false)) (fun y6 =>
 .at (y6))
 (.no))
 (.no))
 (.no))
 (.no))
 (.no)))
 (.no))
 (.no)
def qvF (x0 : Int) (x1 x2 x3 : List AV) (x4 : Int) : Option qPd := qav (qqU x0 x1 x2 x3 x4).ev
theorem qEF (x0 x1 x2 x3 x4) : qvF x0 x1 x2 x3 x4 = (qqU x0 x1 x2 x3 x4).ev := qaa _
theorem qQF : FH IP 5 qR7 qTa (k5 qvF) := fh F5 (k5 qqU) qDa
end
end Go.Proofs.H13

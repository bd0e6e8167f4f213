/- Functions over plain data. Printed by a program of mine. -/
import Derived.Test.YtigchhcddgibhaaGreatDoorD13_6
import Derived.KernelRfl
namespace Go.Proofs.H13
open Go Go.Eng
set_option maxRecDepth 100000
noncomputable section
abbrev qa7 : Type := (Int × Int × List AV × List AV × Int × Int × List AV × Int) ⊕ (Int × Int × List AV × List AV × Int × Int × List AV × Int × List AV) ⊕ (Int × Int × List AV × List AV × Int × Int × List AV × Nat × Int × List AV)
def qwa : List PSt := [⟨[(1001700, .junk), (2, .int .i64), (3, .ref 0 0 0), (6, .ref 1 0 0), (9, .ref 2 0 0)], [(0, .box [.int .i64, .view 2, .view 3] false), (1, .box [.int .i64, .int .i64] false), (2, .box [.view 2, .nils 2, .int .i64] false)], 3, 0⟩, ⟨[(1001700, .junk), (2, .int .i64), (3, .ref 0 0 0), (6, .ref 1 0 0), (9, .ref 2 0 0)], [(0, .box [.int .i64, .view 2, .view 3] false), (1, .box [.int .i64, .int .i64] false), (2, .box [.view 2, .own 3 0, .int .i64] false), (3, .arr 2 false)], 4, 0⟩, ⟨[(1001700, .junk), (2, .int .i64), (3, .ref 0 0 0), (6, .ref 1 0 0), (9, .ref 2 0 0)], [(0, .box [.int .i64, .view 2, .view 3] false), (1, .box [.int .i64, .int .i64] false), (2, .box [.view 2, .ownn 3 0, .int .i64] false), (3, .arr 2 false)], 4, 0⟩]
def qKB (x0 x1 : Int) (x2 x3 : List AV) (x4 x5 : Int) (x6 : List AV) (x7 : Int) : X × St := (.ret,
 ⟨[(2, .int .i64 x0), (6, .ref 0 0 0), (7, .int .i64 0), (8, .int .i64 8), (9, .ref 1 0 0)], [(0, .box [.int .i64 0, .int .i64 0] false), (1, .box [.view 2 x6, .nils ⟨2, .nil⟩, .int .i64 x7] false)], 2, 0⟩)
def qKC (x0 x1 : Int) (x2 x3 : List AV) (x4 x5 : Int) (x6 : List AV) (x7 : Int) : X × St := (.ret,
 ⟨[(2, .int .i64 (IntKind.i64.wrap (x0 - 1))), (6, .ref 0 0 0), (7, .int .i64 0),
 (8,
 .int .i64
 (gv
 (qdR (gv (pl (qad (intOf (cellAt x3 x7 0)) (intOf (cellAt x3 x7 1)) (intOf (cellAt x3 x7 2))))).1
 (gv (pl (qad (intOf (cellAt x3 x7 0)) (intOf (cellAt x3 x7 1)) (intOf (cellAt x3 x7 2))))).2 x6 (IntKind.i64.wrap (x7 + 1)))).1),
 (9, .ref 1 0 0)], [(0, .box [.int .i64 0, .int .i64 0] false),
 (1,
 .box
 [.view 2
 (gv
 (qdR (gv (pl (qad (intOf (cellAt x3 x7 0)) (intOf (cellAt x3 x7 1)) (intOf (cellAt x3 x7 2))))).1
 (gv (pl (qad (intOf (cellAt x3 x7 0)) (intOf (cellAt x3 x7 1)) (intOf (cellAt x3 x7 2))))).2 x6 (IntKind.i64.wrap (x7 + 1)))).2.1,
 .own 2 0 none,
 .int .i64
 (gv
 (qdR (gv (pl (qad (intOf (cellAt x3 x7 0)) (intOf (cellAt x3 x7 1)) (intOf (cellAt x3 x7 2))))).1
 (gv (pl (qad (intOf (cellAt x3 x7 0)) (intOf (cellAt x3 x7 1)) (intOf (cellAt x3 x7 2))))).2 x6 (IntKind.i64.wrap (x7 + 1)))).2.2.1]
 false),
 (2,
 .arr 2
 (gv
 (qdR (gv (pl (qad (intOf (cellAt x3 x7 0)) (intOf (cellAt x3 x7 1)) (intOf (cellAt x3 x7 2))))).1
 (gv (pl (qad (intOf (cellAt x3 x7 0)) (intOf (cellAt x3 x7 1)) (intOf (cellAt x3 x7 2))))).2 x6 (IntKind.i64.wrap (x7 + 1)))).2.2.2
 false)], 3, 0⟩)
def qKD (x0 x1 : Int) (x2 x3 : List AV) (x4 x5 : Int) (x6 : List AV) (x7 : Int) : X × St := (.ret,
 ⟨[(2, .int .i64 (IntKind.i64.wrap (x0 - 1))), (6, .ref 0 0 0), (7, .int .i64 0),
 (8,
 .int .i64
 (gv (qdQ (gv (pl (pr (qad (intOf (cellAt x3 x7 0)) (intOf (cellAt x3 x7 1)) (intOf (cellAt x3 x7 2)))))) x6 (IntKind.i64.wrap (x7 + 1)))).1),
 (9, .ref 1 0 0)], [(0, .box [.int .i64 0, .int .i64 0] false),
 (1,
 .box
 [.view 2
 (gv (qdQ (gv (pl (pr (qad (intOf (cellAt x3 x7 0)) (intOf (cellAt x3 x7 1)) (intOf (cellAt x3 x7 2)))))) x6 (IntKind.i64.wrap (x7 + 1)))).2.1,
 .own 2 0 none,
 .int .i64
 (gv
 (qdQ (gv (pl (pr (qad (intOf (cellAt x3 x7 0)) (intOf (cellAt x3 x7 1)) (intOf (cellAt x3 x7 2)))))) x6
 (IntKind.i64.wrap (x7 + 1)))).2.2.1]
 false),
 (2,
 .arr 2
 (gv (qdQ (gv (pl (pr (qad (intOf (cellAt x3 x7 0)) (intOf (cellAt x3 x7 1)) (intOf (cellAt x3 x7 2)))))) x6 (IntKind.i64.wrap (x7 + 1)))).2.2.2
 false)], 3, 0⟩)
def qKE (x0 x1 : Int) (x2 x3 : List AV) (x4 x5 : Int) (x6 : List AV) (x7 : Int) : X × St := (.ret,
 ⟨[(2, .int .i64 (IntKind.i64.wrap (x0 - 1))), (6, .ref 0 0 0), (7, .int .i64 0),
 (8,
 .int .i64
 (gv
 (qeD (gv (pl (pr (pr (pr (qad (intOf (cellAt x3 x7 0)) (intOf (cellAt x3 x7 1)) (intOf (cellAt x3 x7 2)))))))) x6
 (IntKind.i64.wrap (x7 + 1)))).1),
 (9, .ref 1 0 0)], [(0, .box [.int .i64 0, .int .i64 0] false),
 (1,
 .box
 [.view 2
 (gv
 (qeD (gv (pl (pr (pr (pr (qad (intOf (cellAt x3 x7 0)) (intOf (cellAt x3 x7 1)) (intOf (cellAt x3 x7 2)))))))) x6
 (IntKind.i64.wrap (x7 + 1)))).2.1,
 .nils ⟨2, .nil⟩,
 .int .i64
 (gv
 (qeD (gv (pl (pr (pr (pr (qad (intOf (cellAt x3 x7 0)) (intOf (cellAt x3 x7 1)) (intOf (cellAt x3 x7 2)))))))) x6
 (IntKind.i64.wrap (x7 + 1)))).2.2]
 false)], 2, 0⟩)
def qKF (x0 x1 : Int) (x2 x3 : List AV) (x4 x5 : Int) (x6 : List AV) (x7 : Int) : X × St := (.exit 0,
 ⟨[(2, .int .i64 x0), (6, .ref 0 0 0), (7, .junk), (8, .junk), (9, .ref 1 0 0)], [(0, .box [.int .i64 x4, .int .i64 x5] false), (1, .box [.view 2 x6, .nils ⟨2, .nil⟩, .int .i64 x7] false)], 2, 0⟩)
def qKG (x0 x1 : Int) (x2 x3 : List AV) (x4 x5 : Int) (x6 : List AV) (x7 : Int) (x8 : List AV) : X × St := (.ret,
 ⟨[(2, .int .i64 x0), (6, .ref 0 0 0), (7, .int .i64 0), (8, .int .i64 8), (9, .ref 1 0 0)], [(0, .box [.int .i64 0, .int .i64 0] false), (1, .box [.view 2 x6, .own 2 0 none, .int .i64 x7] false), (2, .arr 2 x8 false)], 3, 0⟩)
def qKH (x0 x1 : Int) (x2 x3 : List AV) (x4 x5 : Int) (x6 : List AV) (x7 : Int) (x8 : List AV) : X × St := (.ret,
 ⟨[(2, .int .i64 (IntKind.i64.wrap (x0 - 1))), (6, .ref 0 0 0), (7, .int .i64 0),
 (8,
 .int .i64
 (gv
 (qf7 (gv (pl (qad (intOf (cellAt x3 x7 0)) (intOf (cellAt x3 x7 1)) (intOf (cellAt x3 x7 2))))).1
 (gv (pl (qad (intOf (cellAt x3 x7 0)) (intOf (cellAt x3 x7 1)) (intOf (cellAt x3 x7 2))))).2 x6 (IntKind.i64.wrap (x7 + 1)) x8)).1),
 (9, .ref 1 0 0)], [(0, .box [.int .i64 0, .int .i64 0] false),
 (1,
 .box
 [.view 2
 (gv
 (qf7 (gv (pl (qad (intOf (cellAt x3 x7 0)) (intOf (cellAt x3 x7 1)) (intOf (cellAt x3 x7 2))))).1
 (gv (pl (qad (intOf (cellAt x3 x7 0)) (intOf (cellAt x3 x7 1)) (intOf (cellAt x3 x7 2))))).2 x6 (IntKind.i64.wrap (x7 + 1)) x8)).2.1,
 .own 2 0 none,
 .int .i64
 (gv
 (qf7 (gv (pl (qad (intOf (cellAt x3 x7 0)) (intOf (cellAt x3 x7 1)) (intOf (cellAt x3 x7 2))))).1
 (gv (pl (qad (intOf (cellAt x3 x7 0)) (intOf (cellAt x3 x7 1)) (intOf (cellAt x3 x7 2))))).2 x6 (IntKind.i64.wrap (x7 + 1)) x8)).2.2.1]
 false),
 (2,
 .arr 2
 (gv
 (qf7 (gv (pl (qad (intOf (cellAt x3 x7 0)) (intOf (cellAt x3 x7 1)) (intOf (cellAt x3 x7 2))))).1
 (gv (pl (qad (intOf (cellAt x3 x7 0)) (intOf (cellAt x3 x7 1)) (intOf (cellAt x3 x7 2))))).2 x6 (IntKind.i64.wrap (x7 + 1)) x8)).2.2.2
 false)], 3, 0⟩)
def qKI (x0 x1 : Int) (x2 x3 : List AV) (x4 x5 : Int) (x6 : List AV) (x7 : Int) (x8 : List AV) : X × St := (.ret,
 ⟨[(2, .int .i64 (IntKind.i64.wrap (x0 - 1))), (6, .ref 0 0 0), (7, .int .i64 0),
 (8,
 .int .i64
 (gv (qf6 (gv (pl (pr (qad (intOf (cellAt x3 x7 0)) (intOf (cellAt x3 x7 1)) (intOf (cellAt x3 x7 2)))))) x6 (IntKind.i64.wrap (x7 + 1)) x8)).1),
 (9, .ref 1 0 0)], [(0, .box [.int .i64 0, .int .i64 0] false),
 (1,
 .box
 [.view 2
 (gv
 (qf6 (gv (pl (pr (qad (intOf (cellAt x3 x7 0)) (intOf (cellAt x3 x7 1)) (intOf (cellAt x3 x7 2)))))) x6 (IntKind.i64.wrap (x7 + 1))
 x8)).2.1,
 .own 2 0 none,
 .int .i64
 (gv
 (qf6 (gv (pl (pr (qad (intOf (cellAt x3 x7 0)) (intOf (cellAt x3 x7 1)) (intOf (cellAt x3 x7 2)))))) x6 (IntKind.i64.wrap (x7 + 1))
 x8)).2.2.1]
 false),
 (2,
 .arr 2
 (gv
 (qf6 (gv (pl (pr (qad (intOf (cellAt x3 x7 0)) (intOf (cellAt x3 x7 1)) (intOf (cellAt x3 x7 2)))))) x6 (IntKind.i64.wrap (x7 + 1))
 x8)).2.2.2
 false)], 3, 0⟩)
def qKJ (x0 x1 : Int) (x2 x3 : List AV) (x4 x5 : Int) (x6 : List AV) (x7 : Int) (x8 : List AV) : X × St := (.ret,
 ⟨[(2, .int .i64 (IntKind.i64.wrap (x0 - 1))), (6, .ref 0 0 0), (7, .int .i64 0),
 (8,
 .int .i64
 (gv
 (pl
 (qbm (gv (pl (pr (pr (qad (intOf (cellAt x3 x7 0)) (intOf (cellAt x3 x7 1)) (intOf (cellAt x3 x7 2))))))) x6 (IntKind.i64.wrap (x7 + 1))
 x8))).1),
 (9, .ref 1 0 0)], [(0, .box [.int .i64 0, .int .i64 0] false),
 (1,
 .box
 [.view 2
 (gv
 (pl
 (qbm (gv (pl (pr (pr (qad (intOf (cellAt x3 x7 0)) (intOf (cellAt x3 x7 1)) (intOf (cellAt x3 x7 2))))))) x6 (IntKind.i64.wrap (x7 + 1))
 x8))).2.1,
 .own 2 0 none,
 .int .i64
 (gv
 (pl
 (qbm (gv (pl (pr (pr (qad (intOf (cellAt x3 x7 0)) (intOf (cellAt x3 x7 1)) (intOf (cellAt x3 x7 2))))))) x6 (IntKind.i64.wrap (x7 + 1))
 x8))).2.2.1]
 false),
 (2,
 .arr 2
 (gv
 (pl
 (qbm (gv (pl (pr (pr (qad (intOf (cellAt x3 x7 0)) (intOf (cellAt x3 x7 1)) (intOf (cellAt x3 x7 2))))))) x6 (IntKind.i64.wrap (x7 + 1))
 x8))).2.2.2
 false)], 3, 0⟩)
def qKK (x0 x1 : Int) (x2 x3 : List AV) (x4 x5 : Int) (x6 : List AV) (x7 : Int) (x8 : List AV) : X × St := (.ret,
 ⟨[(2, .int .i64 (IntKind.i64.wrap (x0 - 1))), (6, .ref 0 0 0), (7, .int .i64 0),
 (8,
 .int .i64
 (gv
 (pl
 (pr
 (qbm (gv (pl (pr (pr (qad (intOf (cellAt x3 x7 0)) (intOf (cellAt x3 x7 1)) (intOf (cellAt x3 x7 2))))))) x6 (IntKind.i64.wrap (x7 + 1))
 x8)))).1),
 (9, .ref 1 0 0)], [(0, .box [.int .i64 0, .int .i64 0] false),
 (1,
 .box
 [.view 2
 (gv
 (pl
 (pr
 (qbm (gv (pl (pr (pr (qad (intOf (cellAt x3 x7 0)) (intOf (cellAt x3 x7 1)) (intOf (cellAt x3 x7 2))))))) x6 (IntKind.i64.wrap (x7 + 1))
 x8)))).2.1,
 .own 2 0
 (some
 (gv
 (pl
 (pr
 (qbm (gv (pl (pr (pr (qad (intOf (cellAt x3 x7 0)) (intOf (cellAt x3 x7 1)) (intOf (cellAt x3 x7 2))))))) x6
 (IntKind.i64.wrap (x7 + 1)) x8)))).2.2.1),
 .int .i64
 (gv
 (pl
 (pr
 (qbm (gv (pl (pr (pr (qad (intOf (cellAt x3 x7 0)) (intOf (cellAt x3 x7 1)) (intOf (cellAt x3 x7 2))))))) x6
 (IntKind.i64.wrap (x7 + 1)) x8)))).2.2.2.1]
 false),
 (2,
 .arr 2
 (gv
 (pl
 (pr
 (qbm (gv (pl (pr (pr (qad (intOf (cellAt x3 x7 0)) (intOf (cellAt x3 x7 1)) (intOf (cellAt x3 x7 2))))))) x6 (IntKind.i64.wrap (x7 + 1))
 x8)))).2.2.2.2
 false)], 3, 0⟩)
def qzT (x0 x1 : Int) (x2 x3 : List AV) (x4 x5 : Int) (x6 : List AV) (x7 : Int) (x8 : List AV) : X × St := (.ret,
 ⟨[(2, .int .i64 (IntKind.i64.wrap (x0 - 1))), (6, .ref 0 0 0), (7, .int .i64 0),
 (8,
 .int .i64
 (gv
 (pr
 (pr
 (qbm (gv (pl (pr (pr (qad (intOf (cellAt x3 x7 0)) (intOf (cellAt x3 x7 1)) (intOf (cellAt x3 x7 2))))))) x6 (IntKind.i64.wrap (x7 + 1))
 x8)))).1),
 (9, .ref 1 0 0)], [(0, .box [.int .i64 0, .int .i64 0] false),
 (1,
 .box
 [.view 2
 (gv
 (pr
 (pr
 (qbm (gv (pl (pr (pr (qad (intOf (cellAt x3 x7 0)) (intOf (cellAt x3 x7 1)) (intOf (cellAt x3 x7 2))))))) x6 (IntKind.i64.wrap (x7 + 1))
 x8)))).2.1,
 .own 2 0 none,
 .int .i64
 (gv
 (pr
 (pr
 (qbm (gv (pl (pr (pr (qad (intOf (cellAt x3 x7 0)) (intOf (cellAt x3 x7 1)) (intOf (cellAt x3 x7 2))))))) x6
 (IntKind.i64.wrap (x7 + 1)) x8)))).2.2.1]
 false),
 (2,
 .arr 2
 (gv
 (pr
 (pr
 (qbm (gv (pl (pr (pr (qad (intOf (cellAt x3 x7 0)) (intOf (cellAt x3 x7 1)) (intOf (cellAt x3 x7 2))))))) x6 (IntKind.i64.wrap (x7 + 1))
 x8)))).2.2.2
 false)], 3, 0⟩)
def qzU (x0 x1 : Int) (x2 x3 : List AV) (x4 x5 : Int) (x6 : List AV) (x7 : Int) (x8 : List AV) : X × St := (.ret,
 ⟨[(2, .int .i64 (IntKind.i64.wrap (x0 - 1))), (6, .ref 0 0 0), (7, .int .i64 0),
 (8,
 .int .i64
 (gv
 (qf5 (gv (pl (pr (pr (pr (qad (intOf (cellAt x3 x7 0)) (intOf (cellAt x3 x7 1)) (intOf (cellAt x3 x7 2)))))))) x6 (IntKind.i64.wrap (x7 + 1))
 x8)).1),
 (9, .ref 1 0 0)], [(0, .box [.int .i64 0, .int .i64 0] false),
 (1,
 .box
 [.view 2
 (gv
 (qf5 (gv (pl (pr (pr (pr (qad (intOf (cellAt x3 x7 0)) (intOf (cellAt x3 x7 1)) (intOf (cellAt x3 x7 2)))))))) x6
 (IntKind.i64.wrap (x7 + 1)) x8)).2.1,
 .own 2 0 none,
 .int .i64
 (gv
 (qf5 (gv (pl (pr (pr (pr (qad (intOf (cellAt x3 x7 0)) (intOf (cellAt x3 x7 1)) (intOf (cellAt x3 x7 2)))))))) x6
 (IntKind.i64.wrap (x7 + 1)) x8)).2.2.1]
 false),
 (2,
 .arr 2
 (gv
 (qf5 (gv (pl (pr (pr (pr (qad (intOf (cellAt x3 x7 0)) (intOf (cellAt x3 x7 1)) (intOf (cellAt x3 x7 2)))))))) x6 (IntKind.i64.wrap (x7 + 1))
 x8)).2.2.2
 false)], 3, 0⟩)
def qzV (x0 x1 : Int) (x2 x3 : List AV) (x4 x5 : Int) (x6 : List AV) (x7 : Int) (x8 : List AV) : X × St := (.ret,
 ⟨[(2, .int .i64 (IntKind.i64.wrap (x0 - 1))), (6, .ref 0 0 0), (7, .int .i64 0),
 (8,
 .int .i64
 (gv
 (qff (gv (pr (pr (pr (pr (qad (intOf (cellAt x3 x7 0)) (intOf (cellAt x3 x7 1)) (intOf (cellAt x3 x7 2)))))))) x6 (IntKind.i64.wrap (x7 + 1))
 x8)).1),
 (9, .ref 1 0 0)], [(0, .box [.int .i64 0, .int .i64 0] false),
 (1,
 .box
 [.view 2
 (gv
 (qff (gv (pr (pr (pr (pr (qad (intOf (cellAt x3 x7 0)) (intOf (cellAt x3 x7 1)) (intOf (cellAt x3 x7 2)))))))) x6
 (IntKind.i64.wrap (x7 + 1)) x8)).2.1,
 .own 2 0
 (some
 (gv
 (qff (gv (pr (pr (pr (pr (qad (intOf (cellAt x3 x7 0)) (intOf (cellAt x3 x7 1)) (intOf (cellAt x3 x7 2)))))))) x6
 (IntKind.i64.wrap (x7 + 1)) x8)).2.2.1),
 .int .i64
 (gv
 (qff (gv (pr (pr (pr (pr (qad (intOf (cellAt x3 x7 0)) (intOf (cellAt x3 x7 1)) (intOf (cellAt x3 x7 2)))))))) x6
 (IntKind.i64.wrap (x7 + 1)) x8)).2.2.2.1]
 false),
 (2,
 .arr 2
 (gv
 (qff (gv (pr (pr (pr (pr (qad (intOf (cellAt x3 x7 0)) (intOf (cellAt x3 x7 1)) (intOf (cellAt x3 x7 2)))))))) x6
 (IntKind.i64.wrap (x7 + 1)) x8)).2.2.2.2
 false)], 3, 0⟩)
def qzW (x0 x1 : Int) (x2 x3 : List AV) (x4 x5 : Int) (x6 : List AV) (x7 : Int) (x8 : List AV) : X × St := (.exit 0,
 ⟨[(2, .int .i64 x0), (6, .ref 0 0 0), (7, .junk), (8, .junk), (9, .ref 1 0 0)], [(0, .box [.int .i64 x4, .int .i64 x5] false), (1, .box [.view 2 x6, .own 2 0 none, .int .i64 x7] false), (2, .arr 2 x8 false)], 3, 0⟩)
def qzX (x0 x1 : Int) (x2 x3 : List AV) (x4 x5 : Int) (x6 : List AV) (x7 : Nat) (x8 : Int) (x9 : List AV) : X × St := (.ret,
 ⟨[(2, .int .i64 x0), (6, .ref 0 0 0), (7, .int .i64 0), (8, .int .i64 8), (9, .ref 1 0 0)], [(0, .box [.int .i64 0, .int .i64 0] false), (1, .box [.view 2 x6, .own 2 0 (some x7), .int .i64 x8] false), (2, .arr 2 x9 false)], 3, 0⟩)
def qzY (x0 x1 : Int) (x2 x3 : List AV) (x4 x5 : Int) (x6 : List AV) (x7 : Nat) (x8 : Int) (x9 : List AV) : X × St := (.ret,
 ⟨[(2, .int .i64 (IntKind.i64.wrap (x0 - 1))), (6, .ref 0 0 0), (7, .int .i64 0),
 (8,
 .int .i64
 (gv
 (pl
 (qcx (gv (pl (qad (intOf (cellAt x3 x8 0)) (intOf (cellAt x3 x8 1)) (intOf (cellAt x3 x8 2))))).1
 (gv (pl (qad (intOf (cellAt x3 x8 0)) (intOf (cellAt x3 x8 1)) (intOf (cellAt x3 x8 2))))).2 x6 x7 (IntKind.i64.wrap (x8 + 1)) x9))).1),
 (9, .ref 1 0 0)], [(0, .box [.int .i64 0, .int .i64 0] false),
 (1,
 .box
 [.view 2
 (gv
 (pl
 (qcx (gv (pl (qad (intOf (cellAt x3 x8 0)) (intOf (cellAt x3 x8 1)) (intOf (cellAt x3 x8 2))))).1
 (gv (pl (qad (intOf (cellAt x3 x8 0)) (intOf (cellAt x3 x8 1)) (intOf (cellAt x3 x8 2))))).2 x6 x7 (IntKind.i64.wrap (x8 + 1)) x9))).2.1,
 .own 2 0
 (some
 (gv
 (pl
 (qcx (gv (pl (qad (intOf (cellAt x3 x8 0)) (intOf (cellAt x3 x8 1)) (intOf (cellAt x3 x8 2))))).1
 (gv (pl (qad (intOf (cellAt x3 x8 0)) (intOf (cellAt x3 x8 1)) (intOf (cellAt x3 x8 2))))).2 x6 x7 (IntKind.i64.wrap (x8 + 1))
 x9))).2.2.1),
 .int .i64
 (gv
 (pl
 (qcx (gv (pl (qad (intOf (cellAt x3 x8 0)) (intOf (cellAt x3 x8 1)) (intOf (cellAt x3 x8 2))))).1
 (gv (pl (qad (intOf (cellAt x3 x8 0)) (intOf (cellAt x3 x8 1)) (intOf (cellAt x3 x8 2))))).2 x6 x7 (IntKind.i64.wrap (x8 + 1))
 x9))).2.2.2.1]
 false),
 (2,
 .arr 2
 (gv
 (pl
 (qcx (gv (pl (qad (intOf (cellAt x3 x8 0)) (intOf (cellAt x3 x8 1)) (intOf (cellAt x3 x8 2))))).1
 (gv (pl (qad (intOf (cellAt x3 x8 0)) (intOf (cellAt x3 x8 1)) (intOf (cellAt x3 x8 2))))).2 x6 x7 (IntKind.i64.wrap (x8 + 1))
 x9))).2.2.2.2
 false)], 3, 0⟩)
def qzZ (x0 x1 : Int) (x2 x3 : List AV) (x4 x5 : Int) (x6 : List AV) (x7 : Nat) (x8 : Int) (x9 : List AV) : X × St := (.ret,
 ⟨[(2, .int .i64 (IntKind.i64.wrap (x0 - 1))), (6, .ref 0 0 0), (7, .int .i64 0),
 (8,
 .int .i64
 (gv
 (pr
 (qcx (gv (pl (qad (intOf (cellAt x3 x8 0)) (intOf (cellAt x3 x8 1)) (intOf (cellAt x3 x8 2))))).1
 (gv (pl (qad (intOf (cellAt x3 x8 0)) (intOf (cellAt x3 x8 1)) (intOf (cellAt x3 x8 2))))).2 x6 x7 (IntKind.i64.wrap (x8 + 1)) x9))).1),
 (9, .ref 1 0 0)], [(0, .box [.int .i64 0, .int .i64 0] false),
 (1,
 .box
 [.view 2
 (gv
 (pr
 (qcx (gv (pl (qad (intOf (cellAt x3 x8 0)) (intOf (cellAt x3 x8 1)) (intOf (cellAt x3 x8 2))))).1
 (gv (pl (qad (intOf (cellAt x3 x8 0)) (intOf (cellAt x3 x8 1)) (intOf (cellAt x3 x8 2))))).2 x6 x7 (IntKind.i64.wrap (x8 + 1)) x9))).2.1,
 .own 2 0 none,
 .int .i64
 (gv
 (pr
 (qcx (gv (pl (qad (intOf (cellAt x3 x8 0)) (intOf (cellAt x3 x8 1)) (intOf (cellAt x3 x8 2))))).1
 (gv (pl (qad (intOf (cellAt x3 x8 0)) (intOf (cellAt x3 x8 1)) (intOf (cellAt x3 x8 2))))).2 x6 x7 (IntKind.i64.wrap (x8 + 1))
 x9))).2.2.1]
 false),
 (2,
 .arr 2
 (gv
 (pr
 (qcx (gv (pl (qad (intOf (cellAt x3 x8 0)) (intOf (cellAt x3 x8 1)) (intOf (cellAt x3 x8 2))))).1
 (gv (pl (qad (intOf (cellAt x3 x8 0)) (intOf (cellAt x3 x8 1)) (intOf (cellAt x3 x8 2))))).2 x6 x7 (IntKind.i64.wrap (x8 + 1)) x9))).2.2.2
 false)], 3, 0⟩)
def qz0 (x0 x1 : Int) (x2 x3 : List AV) (x4 x5 : Int) (x6 : List AV) (x7 : Nat) (x8 : Int) (x9 : List AV) : X × St := (.ret,
 ⟨[(2, .int .i64 (IntKind.i64.wrap (x0 - 1))), (6, .ref 0 0 0), (7, .int .i64 0),
 (8,
 .int .i64
 (gv
 (pl
 (qcv (gv (pl (pr (qad (intOf (cellAt x3 x8 0)) (intOf (cellAt x3 x8 1)) (intOf (cellAt x3 x8 2)))))) x6 x7 (IntKind.i64.wrap (x8 + 1))
 x9))).1),
 (9, .ref 1 0 0)], [(0, .box [.int .i64 0, .int .i64 0] false),
 (1,
 .box
 [.view 2
 (gv
 (pl
 (qcv (gv (pl (pr (qad (intOf (cellAt x3 x8 0)) (intOf (cellAt x3 x8 1)) (intOf (cellAt x3 x8 2)))))) x6 x7 (IntKind.i64.wrap (x8 + 1))
 x9))).2.1,
 .own 2 0
 (some
 (gv
 (pl
 (qcv (gv (pl (pr (qad (intOf (cellAt x3 x8 0)) (intOf (cellAt x3 x8 1)) (intOf (cellAt x3 x8 2)))))) x6 x7 (IntKind.i64.wrap (x8 + 1))
 x9))).2.2.1),
 .int .i64
 (gv
 (pl
 (qcv (gv (pl (pr (qad (intOf (cellAt x3 x8 0)) (intOf (cellAt x3 x8 1)) (intOf (cellAt x3 x8 2)))))) x6 x7 (IntKind.i64.wrap (x8 + 1))
 x9))).2.2.2.1]
 false),
 (2,
 .arr 2
 (gv
 (pl
 (qcv (gv (pl (pr (qad (intOf (cellAt x3 x8 0)) (intOf (cellAt x3 x8 1)) (intOf (cellAt x3 x8 2)))))) x6 x7 (IntKind.i64.wrap (x8 + 1))
 x9))).2.2.2.2
 false)], 3, 0⟩)
def qz1 (x0 x1 : Int) (x2 x3 : List AV) (x4 x5 : Int) (x6 : List AV) (x7 : Nat) (x8 : Int) (x9 : List AV) : X × St := (.ret,
 ⟨[(2, .int .i64 (IntKind.i64.wrap (x0 - 1))), (6, .ref 0 0 0), (7, .int .i64 0),
 (8,
 .int .i64
 (gv
 (pr
 (qcv (gv (pl (pr (qad (intOf (cellAt x3 x8 0)) (intOf (cellAt x3 x8 1)) (intOf (cellAt x3 x8 2)))))) x6 x7 (IntKind.i64.wrap (x8 + 1))
 x9))).1),
 (9, .ref 1 0 0)], [(0, .box [.int .i64 0, .int .i64 0] false),
 (1,
 .box
 [.view 2
 (gv
 (pr
 (qcv (gv (pl (pr (qad (intOf (cellAt x3 x8 0)) (intOf (cellAt x3 x8 1)) (intOf (cellAt x3 x8 2)))))) x6 x7 (IntKind.i64.wrap (x8 + 1))
 x9))).2.1,
 .own 2 0 none,
 .int .i64
 (gv
 (pr
 (qcv (gv (pl (pr (qad (intOf (cellAt x3 x8 0)) (intOf (cellAt x3 x8 1)) (intOf (cellAt x3 x8 2)))))) x6 x7 (IntKind.i64.wrap (x8 + 1))
 x9))).2.2.1]
 false),
 (2,
 .arr 2
 (gv
 (pr
 (qcv (gv (pl (pr (qad (intOf (cellAt x3 x8 0)) (intOf (cellAt x3 x8 1)) (intOf (cellAt x3 x8 2)))))) x6 x7 (IntKind.i64.wrap (x8 + 1))
 x9))).2.2.2
 false)], 3, 0⟩)
def qz2 (x0 x1 : Int) (x2 x3 : List AV) (x4 x5 : Int) (x6 : List AV) (x7 : Nat) (x8 : Int) (x9 : List AV) : X × St := (.ret,
 ⟨[(2, .int .i64 (IntKind.i64.wrap (x0 - 1))), (6, .ref 0 0 0), (7, .int .i64 0),
 (8,
 .int .i64
 (gv
 (pl
 (qcw (gv (pl (pr (pr (qad (intOf (cellAt x3 x8 0)) (intOf (cellAt x3 x8 1)) (intOf (cellAt x3 x8 2))))))) x6 x7 (IntKind.i64.wrap (x8 + 1))
 x9))).1),
 (9, .ref 1 0 0)], [(0, .box [.int .i64 0, .int .i64 0] false),
 (1,
 .box
 [.view 2
 (gv
 (pl
 (qcw (gv (pl (pr (pr (qad (intOf (cellAt x3 x8 0)) (intOf (cellAt x3 x8 1)) (intOf (cellAt x3 x8 2))))))) x6 x7
 (IntKind.i64.wrap (x8 + 1)) x9))).2.1,
 .own 2 0
 (some
 (gv
 (pl
 (qcw (gv (pl (pr (pr (qad (intOf (cellAt x3 x8 0)) (intOf (cellAt x3 x8 1)) (intOf (cellAt x3 x8 2))))))) x6 x7
 (IntKind.i64.wrap (x8 + 1)) x9))).2.2.1),
 .int .i64
 (gv
 (pl
 (qcw (gv (pl (pr (pr (qad (intOf (cellAt x3 x8 0)) (intOf (cellAt x3 x8 1)) (intOf (cellAt x3 x8 2))))))) x6 x7
 (IntKind.i64.wrap (x8 + 1)) x9))).2.2.2.1]
 false),
 (2,
 .arr 2
 (gv
 (pl
 (qcw (gv (pl (pr (pr (qad (intOf (cellAt x3 x8 0)) (intOf (cellAt x3 x8 1)) (intOf (cellAt x3 x8 2))))))) x6 x7
 (IntKind.i64.wrap (x8 + 1)) x9))).2.2.2.2
 false)], 3, 0⟩)
def qz3 (x0 x1 : Int) (x2 x3 : List AV) (x4 x5 : Int) (x6 : List AV) (x7 : Nat) (x8 : Int) (x9 : List AV) : X × St := (.ret,
 ⟨[(2, .int .i64 (IntKind.i64.wrap (x0 - 1))), (6, .ref 0 0 0), (7, .int .i64 0),
 (8,
 .int .i64
 (gv
 (pr
 (qcw (gv (pl (pr (pr (qad (intOf (cellAt x3 x8 0)) (intOf (cellAt x3 x8 1)) (intOf (cellAt x3 x8 2))))))) x6 x7 (IntKind.i64.wrap (x8 + 1))
 x9))).1),
 (9, .ref 1 0 0)], [(0, .box [.int .i64 0, .int .i64 0] false),
 (1,
 .box
 [.view 2
 (gv
 (pr
 (qcw (gv (pl (pr (pr (qad (intOf (cellAt x3 x8 0)) (intOf (cellAt x3 x8 1)) (intOf (cellAt x3 x8 2))))))) x6 x7
 (IntKind.i64.wrap (x8 + 1)) x9))).2.1,
 .own 2 0 none,
 .int .i64
 (gv
 (pr
 (qcw (gv (pl (pr (pr (qad (intOf (cellAt x3 x8 0)) (intOf (cellAt x3 x8 1)) (intOf (cellAt x3 x8 2))))))) x6 x7
 (IntKind.i64.wrap (x8 + 1)) x9))).2.2.1]
 false),
 (2,
 .arr 2
 (gv
 (pr
 (qcw (gv (pl (pr (pr (qad (intOf (cellAt x3 x8 0)) (intOf (cellAt x3 x8 1)) (intOf (cellAt x3 x8 2))))))) x6 x7 (IntKind.i64.wrap (x8 + 1))
 x9))).2.2.2
 false)], 3, 0⟩)
def qz4 (x0 x1 : Int) (x2 x3 : List AV) (x4 x5 : Int) (x6 : List AV) (x7 : Nat) (x8 : Int) (x9 : List AV) : X × St := (.ret,
 ⟨[(2, .int .i64 (IntKind.i64.wrap (x0 - 1))), (6, .ref 0 0 0), (7, .int .i64 0),
 (8,
 .int .i64
 (gv
 (qfe (gv (pl (pr (pr (pr (qad (intOf (cellAt x3 x8 0)) (intOf (cellAt x3 x8 1)) (intOf (cellAt x3 x8 2)))))))) x6 x7 (IntKind.i64.wrap (x8 + 1))
 x9)).1),
 (9, .ref 1 0 0)], [(0, .box [.int .i64 0, .int .i64 0] false),
 (1,
 .box
 [.view 2
 (gv
 (qfe (gv (pl (pr (pr (pr (qad (intOf (cellAt x3 x8 0)) (intOf (cellAt x3 x8 1)) (intOf (cellAt x3 x8 2)))))))) x6 x7
 (IntKind.i64.wrap (x8 + 1)) x9)).2.1,
 .own 2 0
 (some
 (gv
 (qfe (gv (pl (pr (pr (pr (qad (intOf (cellAt x3 x8 0)) (intOf (cellAt x3 x8 1)) (intOf (cellAt x3 x8 2)))))))) x6 x7
 (IntKind.i64.wrap (x8 + 1)) x9)).2.2.1),
 .int .i64
 (gv
 (qfe (gv (pl (pr (pr (pr (qad (intOf (cellAt x3 x8 0)) (intOf (cellAt x3 x8 1)) (intOf (cellAt x3 x8 2)))))))) x6 x7
 (IntKind.i64.wrap (x8 + 1)) x9)).2.2.2.1]
 false),
 (2,
 .arr 2
 (gv
 (qfe (gv (pl (pr (pr (pr (qad (intOf (cellAt x3 x8 0)) (intOf (cellAt x3 x8 1)) (intOf (cellAt x3 x8 2)))))))) x6 x7
 (IntKind.i64.wrap (x8 + 1)) x9)).2.2.2.2
 false)], 3, 0⟩)
def qz5 (x0 x1 : Int) (x2 x3 : List AV) (x4 x5 : Int) (x6 : List AV) (x7 : Nat) (x8 : Int) (x9 : List AV) : X × St := (.ret,
 ⟨[(2, .int .i64 (IntKind.i64.wrap (x0 - 1))), (6, .ref 0 0 0), (7, .int .i64 0),
 (8,
 .int .i64
 (gv
 (qfg (gv (pr (pr (pr (pr (qad (intOf (cellAt x3 x8 0)) (intOf (cellAt x3 x8 1)) (intOf (cellAt x3 x8 2)))))))) x6 x7 (IntKind.i64.wrap (x8 + 1))
 x9)).1),
 (9, .ref 1 0 0)], [(0, .box [.int .i64 0, .int .i64 0] false),
 (1,
 .box
 [.view 2
 (gv
 (qfg (gv (pr (pr (pr (pr (qad (intOf (cellAt x3 x8 0)) (intOf (cellAt x3 x8 1)) (intOf (cellAt x3 x8 2)))))))) x6 x7
 (IntKind.i64.wrap (x8 + 1)) x9)).2.1,
 .own 2 0
 (some
 (gv
 (qfg (gv (pr (pr (pr (pr (qad (intOf (cellAt x3 x8 0)) (intOf (cellAt x3 x8 1)) (intOf (cellAt x3 x8 2)))))))) x6 x7
 (IntKind.i64.wrap (x8 + 1)) x9)).2.2.1),
 .int .i64
 (gv
 (qfg (gv (pr (pr (pr (pr (qad (intOf (cellAt x3 x8 0)) (intOf (cellAt x3 x8 1)) (intOf (cellAt x3 x8 2)))))))) x6 x7
 (IntKind.i64.wrap (x8 + 1)) x9)).2.2.2.1]
 false),
 (2,
 .arr 2
 (gv
 (qfg (gv (pr (pr (pr (pr (qad (intOf (cellAt x3 x8 0)) (intOf (cellAt x3 x8 1)) (intOf (cellAt x3 x8 2)))))))) x6 x7
 (IntKind.i64.wrap (x8 + 1)) x9)).2.2.2.2
 false)], 3, 0⟩)
def qz6 (x0 x1 : Int) (x2 x3 : List AV) (x4 x5 : Int) (x6 : List AV) (x7 : Nat) (x8 : Int) (x9 : List AV) : X × St := (.exit 0,
 ⟨[(2, .int .i64 x0), (6, .ref 0 0 0), (7, .junk), (8, .junk), (9, .ref 1 0 0)], [(0, .box [.int .i64 x4, .int .i64 x5] false), (1, .box [.view 2 x6, .own 2 0 (some x7), .int .i64 x8] false), (2, .arr 2 x9 false)], 3, 0⟩)
def qXu : List (qa7 -> X × St) := [fun w => (k8 qKB) ((sl w)), fun w => (k8 qKC) ((sl w)), fun w => (k8 qKD) ((sl w)), fun w => (k8 qKE) ((sl w)), fun w => (k8 qKF) ((sl w)), fun w => (k9 qKG) ((sl (sr w))), fun w => (k9 qKH) ((sl (sr w))), fun w => (k9 qKI) ((sl (sr w))), fun w => (k9 qKJ) ((sl (sr w))), fun w => (k9 qKK) ((sl (sr w))), fun w => (k9 qzT) ((sl (sr w))), fun w => (k9 qzU) ((sl (sr w))), fun w => (k9 qzV) ((sl (sr w))), fun w => (k9 qzW) ((sl (sr w))), fun w => (k10 qzX) ((sr (sr w))), fun w => (k10 qzY) ((sr (sr w))), fun w => (k10 qzZ) ((sr (sr w))), fun w => (k10 qz0) ((sr (sr w))), fun w => (k10 qz1) ((sr (sr w))), fun w => (k10 qz2) ((sr (sr w))), fun w => (k10 qz3) ((sr (sr w))), fun w => (k10 qz4) ((sr (sr w))), fun w => (k10 qz5) ((sr (sr w))), fun w => (k10 qz6) ((sr (sr w)))]
def qee (x0 x1 : Int) (x2 x3 : List AV) (x4 x5 : Int) (x6 : List AV) (x7 : Int) : DT (Rd qa7) :=
 .br (decide (x7 < (x3.length : Int)))
 (.br (decide (x0 <= 0))
 (.at (.done 0))
 (.br (qay [.int .i64, .int .i64, .int .i64] x3 x7)
 (.bi (pl (qad (intOf (cellAt x3 x7 0)) (intOf (cellAt x3 x7 1)) (intOf (cellAt x3 x7 2)))) (fun y0 =>
 .bi (qdR y0.1 y0.2 x6 (IntKind.i64.wrap (x7 + 1))) (fun y1 =>
 .br (y1.1 != 0) (.at (.done 1)) (.at (.next ((.inr (.inl (IntKind.i64.wrap (x0 - 1), x1, x2, x3, x4, x5, y1.2.1, y1.2.2.1, y1.2.2.2)))))))
 (.no))
 (.bi (pl (pr (qad (intOf (cellAt x3 x7 0)) (intOf (cellAt x3 x7 1)) (intOf (cellAt x3 x7 2))))) (fun y0 =>
 .bi (qdQ y0 x6 (IntKind.i64.wrap (x7 + 1))) (fun y1 =>
 .br (y1.1 != 0) (.at (.done 2)) (.at (.next ((.inr (.inl (IntKind.i64.wrap (x0 - 1), x1, x2, x3, x4, x5, y1.2.1, y1.2.2.1, y1.2.2.2)))))))
 (.no))
 (.bi (pl (pr (pr (qad (intOf (cellAt x3 x7 0)) (intOf (cellAt x3 x7 1)) (intOf (cellAt x3 x7 2)))))) (fun y0 =>
 .no)
 (.bi (pl (pr (pr (pr (qad (intOf (cellAt x3 x7 0)) (intOf (cellAt x3 x7 1)) (intOf (cellAt x3 x7 2))))))) (fun y0 =>
 .bi (qeD y0 x6 (IntKind.i64.wrap (x7 + 1))) (fun y1 =>
 .br (y1.1 != 0) (.at (.done 3)) (.at (.next ((.inl (IntKind.i64.wrap (x0 - 1), x1, x2, x3, x4, x5, y1.2.1, y1.2.2))))))
 (.no))
 (.bi (pr (pr (pr (pr (qad (intOf (cellAt x3 x7 0)) (intOf (cellAt x3 x7 1)) (intOf (cellAt x3 x7 2))))))) (fun y0 =>
 .no)
 (.no))))))
 (.no)))
 (.at (.done 4))
def qbr (x0 x1 : Int) (x2 x3 : List AV) (x4 x5 : Int) (x6 : List AV) (x7 : Int) (x8 : List AV) : DT (Rd qa7) :=
 .br (decide (x7 < (x3.length : Int)))
 (.br (decide (x0 <= 0))
 (.at (.done 5))
 (.br (qay [.int .i64, .int .i64, .int .i64] x3 x7)
 (.bi (pl (qad (intOf (cellAt x3 x7 0)) (intOf (cellAt x3 x7 1)) (intOf (cellAt x3 x7 2)))) (fun y0 =>
 .bi (qf7 y0.1 y0.2 x6 (IntKind.i64.wrap (x7 + 1)) x8) (fun y1 =>
 .br (y1.1 != 0) (.at (.done 6)) (.at (.next ((.inr (.inl (IntKind.i64.wrap (x0 - 1), x1, x2, x3, x4, x5, y1.2.1, y1.2.2.1, y1.2.2.2)))))))
 (.no))
 (.bi (pl (pr (qad (intOf (cellAt x3 x7 0)) (intOf (cellAt x3 x7 1)) (intOf (cellAt x3 x7 2))))) (fun y0 =>
 .bi (qf6 y0 x6 (IntKind.i64.wrap (x7 + 1)) x8) (fun y1 =>
 .br (y1.1 != 0) (.at (.done 7)) (.at (.next ((.inr (.inl (IntKind.i64.wrap (x0 - 1), x1, x2, x3, x4, x5, y1.2.1, y1.2.2.1, y1.2.2.2)))))))
 (.no))
 (.bi (pl (pr (pr (qad (intOf (cellAt x3 x7 0)) (intOf (cellAt x3 x7 1)) (intOf (cellAt x3 x7 2)))))) (fun y0 =>
 .bi (pl (qbm y0 x6 (IntKind.i64.wrap (x7 + 1)) x8)) (fun y1 =>
 .br (y1.1 != 0) (.at (.done 8)) (.at (.next ((.inr (.inl (IntKind.i64.wrap (x0 - 1), x1, x2, x3, x4, x5, y1.2.1, y1.2.2.1, y1.2.2.2)))))))
 (.bi (pl (pr (qbm y0 x6 (IntKind.i64.wrap (x7 + 1)) x8))) (fun y1 =>
 .br (y1.1 != 0)
 (.at (.done 9))
 (.at (.next ((.inr (.inr (IntKind.i64.wrap (x0 - 1), x1, x2, x3, x4, x5, y1.2.1, y1.2.2.1, y1.2.2.2.1, y1.2.2.2.2)))))))
 (.bi (pr (pr (qbm y0 x6 (IntKind.i64.wrap (x7 + 1)) x8))) (fun y1 =>
 .br (y1.1 != 0) (.at (.done 10)) (.at (.next ((.inr (.inl (IntKind.i64.wrap (x0 - 1), x1, x2, x3, x4, x5, y1.2.1, y1.2.2.1, y1.2.2.2)))))))
 (.no))))
 (.bi (pl (pr (pr (pr (qad (intOf (cellAt x3 x7 0)) (intOf (cellAt x3 x7 1)) (intOf (cellAt x3 x7 2))))))) (fun y0 =>
 .bi (qf5 y0 x6 (IntKind.i64.wrap (x7 + 1)) x8) (fun y1 =>
 .br (y1.1 != 0) (.at (.done 11)) (.at (.next ((.inr (.inl (IntKind.i64.wrap (x0 - 1), x1, x2, x3, x4, x5, y1.2.1, y1.2.2.1, y1.2.2.2)))))))
 (.no))
 (.bi (pr (pr (pr (pr (qad (intOf (cellAt x3 x7 0)) (intOf (cellAt x3 x7 1)) (intOf (cellAt x3 x7 2))))))) (fun y0 =>
 .bi (qff y0 x6 (IntKind.i64.wrap (x7 + 1)) x8) (fun y1 =>
 .br (y1.1 != 0)
 (.at (.done 12))
 (.at (.next ((.inr (.inr (IntKind.i64.wrap (x0 - 1), x1, x2, x3, x4, x5, y1.2.1, y1.2.2.1, y1.2.2.2.1, y1.2.2.2.2)))))))
 (.no))
 (.no))))))
 (.no)))
 (.at (.done 13))
def qa3 (x0 x1 : Int) (x2 x3 : List AV) (x4 x5 : Int) (x6 : List AV) (x7 : Nat) (x8 : Int) (x9 : List AV) : DT (Rd qa7) :=
 .br (decide (x8 < (x3.length : Int)))
 (.br (decide (x0 <= 0))
 (.at (.done 14))
 (.br (qay [.int .i64, .int .i64, .int .i64] x3 x8)
 (.bi (pl (qad (intOf (cellAt x3 x8 0)) (intOf (cellAt x3 x8 1)) (intOf (cellAt x3 x8 2)))) (fun y0 =>
 .bi (pl (qcx y0.1 y0.2 x6 x7 (IntKind.i64.wrap (x8 + 1)) x9)) (fun y1 =>
 .br (y1.1 != 0)
 (.at (.done 15))
 (.at (.next ((.inr (.inr (IntKind.i64.wrap (x0 - 1), x1, x2, x3, x4, x5, y1.2.1, y1.2.2.1, y1.2.2.2.1, y1.2.2.2.2)))))))
 (.bi (pr (qcx y0.1 y0.2 x6 x7 (IntKind.i64.wrap (x8 + 1)) x9)) (fun y1 =>
 .br (y1.1 != 0) (.at (.done 16)) (.at (.next ((.inr (.inl (IntKind.i64.wrap (x0 - 1), x1, x2, x3, x4, x5, y1.2.1, y1.2.2.1, y1.2.2.2)))))))
 (.no)))
 (.bi (pl (pr (qad (intOf (cellAt x3 x8 0)) (intOf (cellAt x3 x8 1)) (intOf (cellAt x3 x8 2))))) (fun y0 =>
 .bi (pl (qcv y0 x6 x7 (IntKind.i64.wrap (x8 + 1)) x9)) (fun y1 =>
 .br (y1.1 != 0)
 (.at (.done 17))
 (.at (.next ((.inr (.inr (IntKind.i64.wrap (x0 - 1), x1, x2, x3, x4, x5, y1.2.1, y1.2.2.1, y1.2.2.2.1, y1.2.2.2.2)))))))
 (.bi (pr (qcv y0 x6 x7 (IntKind.i64.wrap (x8 + 1)) x9)) (fun y1 =>
 .br (y1.1 != 0) (.at (.done 18)) (.at (.next ((.inr (.inl (IntKind.i64.wrap (x0 - 1), x1, x2, x3, x4, x5, y1.2.1, y1.2.2.1, y1.2.2.2)))))))
 (.no)))
 (.bi (pl (pr (pr (qad (intOf (cellAt x3 x8 0)) (intOf (cellAt x3 x8 1)) (intOf (cellAt x3 x8 2)))))) (fun y0 =>
 .bi (pl (qcw y0 x6 x7 (IntKind.i64.wrap (x8 + 1)) x9)) (fun y1 =>
 .br (y1.1 != 0)
 (.at (.done 19))
 (.at (.next ((.inr (.inr (IntKind.i64.wrap (x0 - 1), x1, x2, x3, x4, x5, y1.2.1, y1.2.2.1, y1.2.2.2.1, y1.2.2.2.2)))))))
 (.bi (pr (qcw y0 x6 x7 (IntKind.i64.wrap (x8 + 1)) x9)) (fun y1 =>
 .br (y1.1 != 0) (.at (.done 20)) (.at (.next ((.inr (.inl (IntKind.i64.wrap (x0 - 1), x1, x2, x3, x4, x5, y1.2.1, y1.2.2.1, y1.2.2.2)))))))
 (.no)))
 (.bi (pl (pr (pr (pr (qad (intOf (cellAt x3 x8 0)) (intOf (cellAt x3 x8 1)) (intOf (cellAt x3 x8 2))))))) (fun y0 =>
 .bi (qfe y0 x6 x7 (IntKind.i64.wrap (x8 + 1)) x9) (fun y1 =>
 .br (y1.1 != 0)
 (.at (.done 21))
 (.at (.next ((.inr (.inr (IntKind.i64.wrap (x0 - 1), x1, x2, x3, x4, x5, y1.2.1, y1.2.2.1, y1.2.2.2.1, y1.2.2.2.2)))))))
 (.no))
 (.bi (pr (pr (pr (pr (qad (intOf (cellAt x3 x8 0)) (intOf (cellAt x3 x8 1)) (intOf (cellAt x3 x8 2))))))) (fun y0 =>
 .bi (qfg y0 x6 x7 (IntKind.i64.wrap (x8 + 1)) x9) (fun y1 =>
 .br (y1.1 != 0)
 (.at (.done 22))
 (.at (.next ((.inr (.inr (IntKind.i64.wrap (x0 - 1), x1, x2, x3, x4, x5, y1.2.1, y1.2.2.1, y1.2.2.2.1, y1.2.2.2.2)))))))
 (.no))
 (.no))))))
 (.no)))
 (.at (.done 23))
def qaG : qa7 -> DT (Rd qa7) := (Sum.elim (fun v => qee v.1 v.2.1 v.2.2.1 v.2.2.2.1 v.2.2.2.2.1 v.2.2.2.2.2.1 v.2.2.2.2.2.2.1 v.2.2.2.2.2.2.2) (Sum.elim (fun v => qbr v.1 v.2.1 v.2.2.1 v.2.2.2.1 v.2.2.2.2.1 v.2.2.2.2.2.1 v.2.2.2.2.2.2.1 v.2.2.2.2.2.2.2.1 v.2.2.2.2.2.2.2.2) (fun v => qa3 v.1 v.2.1 v.2.2.1 v.2.2.2.1 v.2.2.2.2.1 v.2.2.2.2.2.1 v.2.2.2.2.2.2.1 v.2.2.2.2.2.2.2.1 v.2.2.2.2.2.2.2.2.1 v.2.2.2.2.2.2.2.2.2)))
def qh5 (v : qa7) : Option (Nat × qa7) := qav (qaq (fun v => (qaG v).ev) v)
theorem qcf (v) : qh5 v = qaq (fun v => (qaG v).ev) v := qaa _
def qwO : qb3 := LE (τ := qa7) (hD qwa) (qh5) qXu
theorem qWT : Go.Eng.Told IP (qaf F17 0).1 (qaf F17 0).2 (qwO) := qat (inferInstance : Inhabited qa7) (hs := qwa) (st := qaG) (L := []) qtD (qab (l := []) (by kernel_rfl) trivial) (qcf) (fun v => match v with | (.inl v) => by kernel_rfl | (.inr (.inl v)) => by kernel_rfl | (.inr (.inr v)) => by kernel_rfl) (fun v => match v with | (.inl v) => by kernel_rfl | (.inr (.inl v)) => by kernel_rfl | (.inr (.inr v)) => by kernel_rfl)
end
end Go.Proofs.H13

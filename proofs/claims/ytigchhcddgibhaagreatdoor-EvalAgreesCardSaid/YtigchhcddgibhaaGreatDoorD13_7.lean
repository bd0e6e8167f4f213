/- Functions over plain data. Printed by a program of mine. -/
import Derived.Test.YtigchhcddgibhaaGreatDoorD13_6
import Derived.KernelRfl
set_option linter.unusedVariables false
set_option linter.unusedSimpArgs false
set_option linter.unnecessarySimpa false
namespace Go.Proofs.H13
open Go Go.Eng
set_option maxRecDepth 100000
noncomputable section
abbrev qbD : Type := (Int × Int × List AV × List AV × Int × Int × List AV × Int) ⊕ (Int × Int × List AV × List AV × Int × Int × List AV × Int × List AV) ⊕ (Int × Int × List AV × List AV × Int × Int × List AV × Nat × Int × List AV)
def qBm : List PSt := [⟨[(1001700, .junk), (2, .int .i64), (3, .ref 0 0 0), (6, .ref 1 0 0), (9, .ref 2 0 0)], [(0, .box [.int .i64, .view 2, .view 3] false), (1, .box [.int .i64, .int .i64] false), (2, .box [.view 2, .nils 2, .int .i64] false)], 3, 0⟩, ⟨[(1001700, .junk), (2, .int .i64), (3, .ref 0 0 0), (6, .ref 1 0 0), (9, .ref 2 0 0)], [(0, .box [.int .i64, .view 2, .view 3] false), (1, .box [.int .i64, .int .i64] false), (2, .box [.view 2, .own 3 0, .int .i64] false), (3, .arr 2 false)], 4, 0⟩, ⟨[(1001700, .junk), (2, .int .i64), (3, .ref 0 0 0), (6, .ref 1 0 0), (9, .ref 2 0 0)], [(0, .box [.int .i64, .view 2, .view 3] false), (1, .box [.int .i64, .int .i64] false), (2, .box [.view 2, .ownn 3 0, .int .i64] false), (3, .arr 2 false)], 4, 0⟩]
def qQC (x0 x1 : Int) (x2 x3 : List AV) (x4 x5 : Int) (x6 : List AV) (x7 : Int) : X × St := (X.ret,
 ⟨[(2, AV.int IntKind.i64 x0), (6, AV.ref 0 0 0), (7, AV.int IntKind.i64 0), (8, AV.int IntKind.i64 8), (9, AV.ref 1 0 0)], [(0, Blk.box [AV.int IntKind.i64 0, AV.int IntKind.i64 0] false), (1, Blk.box [AV.view 2 x6, AV.nils ⟨2, NKd.nil⟩, AV.int IntKind.i64 x7] false)], 2, 0⟩)
def qQD (x0 x1 : Int) (x2 x3 : List AV) (x4 x5 : Int) (x6 : List AV) (x7 : Int) : X × St := (X.ret,
 ⟨[(2, AV.int IntKind.i64 (IntKind.i64.wrap (x0 - 1))), (6, AV.ref 0 0 0), (7, AV.int IntKind.i64 0),
 (8,
 AV.int IntKind.i64
 (gv
 (qfb (gv (pl (qae (intOf (cellAt x3 x7 0)) (intOf (cellAt x3 x7 1)) (intOf (cellAt x3 x7 2))))).1
 (gv (pl (qae (intOf (cellAt x3 x7 0)) (intOf (cellAt x3 x7 1)) (intOf (cellAt x3 x7 2))))).2 x6 (IntKind.i64.wrap (x7 + 1)))).1),
 (9, AV.ref 1 0 0)], [(0, Blk.box [AV.int IntKind.i64 0, AV.int IntKind.i64 0] false),
 (1,
 Blk.box
 [AV.view 2
 (gv
 (qfb (gv (pl (qae (intOf (cellAt x3 x7 0)) (intOf (cellAt x3 x7 1)) (intOf (cellAt x3 x7 2))))).1
 (gv (pl (qae (intOf (cellAt x3 x7 0)) (intOf (cellAt x3 x7 1)) (intOf (cellAt x3 x7 2))))).2 x6 (IntKind.i64.wrap (x7 + 1)))).2.1,
 AV.own 2 0 none,
 AV.int IntKind.i64
 (gv
 (qfb (gv (pl (qae (intOf (cellAt x3 x7 0)) (intOf (cellAt x3 x7 1)) (intOf (cellAt x3 x7 2))))).1
 (gv (pl (qae (intOf (cellAt x3 x7 0)) (intOf (cellAt x3 x7 1)) (intOf (cellAt x3 x7 2))))).2 x6 (IntKind.i64.wrap (x7 + 1)))).2.2.1]
 false),
 (2,
 Blk.arr 2
 (gv
 (qfb (gv (pl (qae (intOf (cellAt x3 x7 0)) (intOf (cellAt x3 x7 1)) (intOf (cellAt x3 x7 2))))).1
 (gv (pl (qae (intOf (cellAt x3 x7 0)) (intOf (cellAt x3 x7 1)) (intOf (cellAt x3 x7 2))))).2 x6 (IntKind.i64.wrap (x7 + 1)))).2.2.2
 false)], 3, 0⟩)
def qQE (x0 x1 : Int) (x2 x3 : List AV) (x4 x5 : Int) (x6 : List AV) (x7 : Int) : X × St := (X.ret,
 ⟨[(2, AV.int IntKind.i64 (IntKind.i64.wrap (x0 - 1))), (6, AV.ref 0 0 0), (7, AV.int IntKind.i64 0),
 (8,
 AV.int IntKind.i64
 (gv (qfa (gv (pl (pr (qae (intOf (cellAt x3 x7 0)) (intOf (cellAt x3 x7 1)) (intOf (cellAt x3 x7 2)))))) x6 (IntKind.i64.wrap (x7 + 1)))).1),
 (9, AV.ref 1 0 0)], [(0, Blk.box [AV.int IntKind.i64 0, AV.int IntKind.i64 0] false),
 (1,
 Blk.box
 [AV.view 2
 (gv (qfa (gv (pl (pr (qae (intOf (cellAt x3 x7 0)) (intOf (cellAt x3 x7 1)) (intOf (cellAt x3 x7 2)))))) x6 (IntKind.i64.wrap (x7 + 1)))).2.1,
 AV.own 2 0 none,
 AV.int IntKind.i64
 (gv
 (qfa (gv (pl (pr (qae (intOf (cellAt x3 x7 0)) (intOf (cellAt x3 x7 1)) (intOf (cellAt x3 x7 2)))))) x6
 (IntKind.i64.wrap (x7 + 1)))).2.2.1]
 false),
 (2,
 Blk.arr 2
 (gv (qfa (gv (pl (pr (qae (intOf (cellAt x3 x7 0)) (intOf (cellAt x3 x7 1)) (intOf (cellAt x3 x7 2)))))) x6 (IntKind.i64.wrap (x7 + 1)))).2.2.2
 false)], 3, 0⟩)
def qQF (x0 x1 : Int) (x2 x3 : List AV) (x4 x5 : Int) (x6 : List AV) (x7 : Int) : X × St := (X.ret,
 ⟨[(2, AV.int IntKind.i64 (IntKind.i64.wrap (x0 - 1))), (6, AV.ref 0 0 0), (7, AV.int IntKind.i64 0),
 (8,
 AV.int IntKind.i64
 (gv
 (qga (gv (pl (pr (pr (pr (qae (intOf (cellAt x3 x7 0)) (intOf (cellAt x3 x7 1)) (intOf (cellAt x3 x7 2)))))))) x6
 (IntKind.i64.wrap (x7 + 1)))).1),
 (9, AV.ref 1 0 0)], [(0, Blk.box [AV.int IntKind.i64 0, AV.int IntKind.i64 0] false),
 (1,
 Blk.box
 [AV.view 2
 (gv
 (qga (gv (pl (pr (pr (pr (qae (intOf (cellAt x3 x7 0)) (intOf (cellAt x3 x7 1)) (intOf (cellAt x3 x7 2)))))))) x6
 (IntKind.i64.wrap (x7 + 1)))).2.1,
 AV.nils ⟨2, NKd.nil⟩,
 AV.int IntKind.i64
 (gv
 (qga (gv (pl (pr (pr (pr (qae (intOf (cellAt x3 x7 0)) (intOf (cellAt x3 x7 1)) (intOf (cellAt x3 x7 2)))))))) x6
 (IntKind.i64.wrap (x7 + 1)))).2.2]
 false)], 2, 0⟩)
def qQG (x0 x1 : Int) (x2 x3 : List AV) (x4 x5 : Int) (x6 : List AV) (x7 : Int) : X × St := (X.exit 0,
 ⟨[(2, AV.int IntKind.i64 x0), (6, AV.ref 0 0 0), (7, AV.junk), (8, AV.junk), (9, AV.ref 1 0 0)], [(0, Blk.box [AV.int IntKind.i64 x4, AV.int IntKind.i64 x5] false), (1, Blk.box [AV.view 2 x6, AV.nils ⟨2, NKd.nil⟩, AV.int IntKind.i64 x7] false)], 2, 0⟩)
def qQH (x0 x1 : Int) (x2 x3 : List AV) (x4 x5 : Int) (x6 : List AV) (x7 : Int) (x8 : List AV) : X × St := (X.ret,
 ⟨[(2, AV.int IntKind.i64 x0), (6, AV.ref 0 0 0), (7, AV.int IntKind.i64 0), (8, AV.int IntKind.i64 8), (9, AV.ref 1 0 0)], [(0, Blk.box [AV.int IntKind.i64 0, AV.int IntKind.i64 0] false), (1, Blk.box [AV.view 2 x6, AV.own 2 0 none, AV.int IntKind.i64 x7] false), (2, Blk.arr 2 x8 false)], 3, 0⟩)
def qQI (x0 x1 : Int) (x2 x3 : List AV) (x4 x5 : Int) (x6 : List AV) (x7 : Int) (x8 : List AV) : X × St := (X.ret,
 ⟨[(2, AV.int IntKind.i64 (IntKind.i64.wrap (x0 - 1))), (6, AV.ref 0 0 0), (7, AV.int IntKind.i64 0),
 (8,
 AV.int IntKind.i64
 (gv
 (qie (gv (pl (qae (intOf (cellAt x3 x7 0)) (intOf (cellAt x3 x7 1)) (intOf (cellAt x3 x7 2))))).1
 (gv (pl (qae (intOf (cellAt x3 x7 0)) (intOf (cellAt x3 x7 1)) (intOf (cellAt x3 x7 2))))).2 x6 (IntKind.i64.wrap (x7 + 1)) x8)).1),
 (9, AV.ref 1 0 0)], [(0, Blk.box [AV.int IntKind.i64 0, AV.int IntKind.i64 0] false),
 (1,
 Blk.box
 [AV.view 2
 (gv
 (qie (gv (pl (qae (intOf (cellAt x3 x7 0)) (intOf (cellAt x3 x7 1)) (intOf (cellAt x3 x7 2))))).1
 (gv (pl (qae (intOf (cellAt x3 x7 0)) (intOf (cellAt x3 x7 1)) (intOf (cellAt x3 x7 2))))).2 x6 (IntKind.i64.wrap (x7 + 1)) x8)).2.1,
 AV.own 2 0 none,
 AV.int IntKind.i64
 (gv
 (qie (gv (pl (qae (intOf (cellAt x3 x7 0)) (intOf (cellAt x3 x7 1)) (intOf (cellAt x3 x7 2))))).1
 (gv (pl (qae (intOf (cellAt x3 x7 0)) (intOf (cellAt x3 x7 1)) (intOf (cellAt x3 x7 2))))).2 x6 (IntKind.i64.wrap (x7 + 1)) x8)).2.2.1]
 false),
 (2,
 Blk.arr 2
 (gv
 (qie (gv (pl (qae (intOf (cellAt x3 x7 0)) (intOf (cellAt x3 x7 1)) (intOf (cellAt x3 x7 2))))).1
 (gv (pl (qae (intOf (cellAt x3 x7 0)) (intOf (cellAt x3 x7 1)) (intOf (cellAt x3 x7 2))))).2 x6 (IntKind.i64.wrap (x7 + 1)) x8)).2.2.2
 false)], 3, 0⟩)
def qQJ (x0 x1 : Int) (x2 x3 : List AV) (x4 x5 : Int) (x6 : List AV) (x7 : Int) (x8 : List AV) : X × St := (X.ret,
 ⟨[(2, AV.int IntKind.i64 (IntKind.i64.wrap (x0 - 1))), (6, AV.ref 0 0 0), (7, AV.int IntKind.i64 0),
 (8,
 AV.int IntKind.i64
 (gv (qid (gv (pl (pr (qae (intOf (cellAt x3 x7 0)) (intOf (cellAt x3 x7 1)) (intOf (cellAt x3 x7 2)))))) x6 (IntKind.i64.wrap (x7 + 1)) x8)).1),
 (9, AV.ref 1 0 0)], [(0, Blk.box [AV.int IntKind.i64 0, AV.int IntKind.i64 0] false),
 (1,
 Blk.box
 [AV.view 2
 (gv
 (qid (gv (pl (pr (qae (intOf (cellAt x3 x7 0)) (intOf (cellAt x3 x7 1)) (intOf (cellAt x3 x7 2)))))) x6 (IntKind.i64.wrap (x7 + 1))
 x8)).2.1,
 AV.own 2 0 none,
 AV.int IntKind.i64
 (gv
 (qid (gv (pl (pr (qae (intOf (cellAt x3 x7 0)) (intOf (cellAt x3 x7 1)) (intOf (cellAt x3 x7 2)))))) x6 (IntKind.i64.wrap (x7 + 1))
 x8)).2.2.1]
 false),
 (2,
 Blk.arr 2
 (gv
 (qid (gv (pl (pr (qae (intOf (cellAt x3 x7 0)) (intOf (cellAt x3 x7 1)) (intOf (cellAt x3 x7 2)))))) x6 (IntKind.i64.wrap (x7 + 1))
 x8)).2.2.2
 false)], 3, 0⟩)
def qQK (x0 x1 : Int) (x2 x3 : List AV) (x4 x5 : Int) (x6 : List AV) (x7 : Int) (x8 : List AV) : X × St := (X.ret,
 ⟨[(2, AV.int IntKind.i64 (IntKind.i64.wrap (x0 - 1))), (6, AV.ref 0 0 0), (7, AV.int IntKind.i64 0),
 (8,
 AV.int IntKind.i64
 (gv
 (pl
 (qbV (gv (pl (pr (pr (qae (intOf (cellAt x3 x7 0)) (intOf (cellAt x3 x7 1)) (intOf (cellAt x3 x7 2))))))) x6 (IntKind.i64.wrap (x7 + 1))
 x8))).1),
 (9, AV.ref 1 0 0)], [(0, Blk.box [AV.int IntKind.i64 0, AV.int IntKind.i64 0] false),
 (1,
 Blk.box
 [AV.view 2
 (gv
 (pl
 (qbV (gv (pl (pr (pr (qae (intOf (cellAt x3 x7 0)) (intOf (cellAt x3 x7 1)) (intOf (cellAt x3 x7 2))))))) x6 (IntKind.i64.wrap (x7 + 1))
 x8))).2.1,
 AV.own 2 0 none,
 AV.int IntKind.i64
 (gv
 (pl
 (qbV (gv (pl (pr (pr (qae (intOf (cellAt x3 x7 0)) (intOf (cellAt x3 x7 1)) (intOf (cellAt x3 x7 2))))))) x6 (IntKind.i64.wrap (x7 + 1))
 x8))).2.2.1]
 false),
 (2,
 Blk.arr 2
 (gv
 (pl
 (qbV (gv (pl (pr (pr (qae (intOf (cellAt x3 x7 0)) (intOf (cellAt x3 x7 1)) (intOf (cellAt x3 x7 2))))))) x6 (IntKind.i64.wrap (x7 + 1))
 x8))).2.2.2
 false)], 3, 0⟩)
def qQL (x0 x1 : Int) (x2 x3 : List AV) (x4 x5 : Int) (x6 : List AV) (x7 : Int) (x8 : List AV) : X × St := (X.ret,
 ⟨[(2, AV.int IntKind.i64 (IntKind.i64.wrap (x0 - 1))), (6, AV.ref 0 0 0), (7, AV.int IntKind.i64 0),
 (8,
 AV.int IntKind.i64
 (gv
 (pl
 (pr
 (qbV (gv (pl (pr (pr (qae (intOf (cellAt x3 x7 0)) (intOf (cellAt x3 x7 1)) (intOf (cellAt x3 x7 2))))))) x6 (IntKind.i64.wrap (x7 + 1))
 x8)))).1),
 (9, AV.ref 1 0 0)], [(0, Blk.box [AV.int IntKind.i64 0, AV.int IntKind.i64 0] false),
 (1,
 Blk.box
 [AV.view 2
 (gv
 (pl
 (pr
 (qbV (gv (pl (pr (pr (qae (intOf (cellAt x3 x7 0)) (intOf (cellAt x3 x7 1)) (intOf (cellAt x3 x7 2))))))) x6 (IntKind.i64.wrap (x7 + 1))
 x8)))).2.1,
 AV.own 2 0
 (some
 (gv
 (pl
 (pr
 (qbV (gv (pl (pr (pr (qae (intOf (cellAt x3 x7 0)) (intOf (cellAt x3 x7 1)) (intOf (cellAt x3 x7 2))))))) x6
 (IntKind.i64.wrap (x7 + 1)) x8)))).2.2.1),
 AV.int IntKind.i64
 (gv
 (pl
 (pr
 (qbV (gv (pl (pr (pr (qae (intOf (cellAt x3 x7 0)) (intOf (cellAt x3 x7 1)) (intOf (cellAt x3 x7 2))))))) x6
 (IntKind.i64.wrap (x7 + 1)) x8)))).2.2.2.1]
 false),
 (2,
 Blk.arr 2
 (gv
 (pl
 (pr
 (qbV (gv (pl (pr (pr (qae (intOf (cellAt x3 x7 0)) (intOf (cellAt x3 x7 1)) (intOf (cellAt x3 x7 2))))))) x6 (IntKind.i64.wrap (x7 + 1))
 x8)))).2.2.2.2
 false)], 3, 0⟩)
def qFD (x0 x1 : Int) (x2 x3 : List AV) (x4 x5 : Int) (x6 : List AV) (x7 : Int) (x8 : List AV) : X × St := (X.ret,
 ⟨[(2, AV.int IntKind.i64 (IntKind.i64.wrap (x0 - 1))), (6, AV.ref 0 0 0), (7, AV.int IntKind.i64 0),
 (8,
 AV.int IntKind.i64
 (gv
 (pr
 (pr
 (qbV (gv (pl (pr (pr (qae (intOf (cellAt x3 x7 0)) (intOf (cellAt x3 x7 1)) (intOf (cellAt x3 x7 2))))))) x6 (IntKind.i64.wrap (x7 + 1))
 x8)))).1),
 (9, AV.ref 1 0 0)], [(0, Blk.box [AV.int IntKind.i64 0, AV.int IntKind.i64 0] false),
 (1,
 Blk.box
 [AV.view 2
 (gv
 (pr
 (pr
 (qbV (gv (pl (pr (pr (qae (intOf (cellAt x3 x7 0)) (intOf (cellAt x3 x7 1)) (intOf (cellAt x3 x7 2))))))) x6 (IntKind.i64.wrap (x7 + 1))
 x8)))).2.1,
 AV.own 2 0 none,
 AV.int IntKind.i64
 (gv
 (pr
 (pr
 (qbV (gv (pl (pr (pr (qae (intOf (cellAt x3 x7 0)) (intOf (cellAt x3 x7 1)) (intOf (cellAt x3 x7 2))))))) x6
 (IntKind.i64.wrap (x7 + 1)) x8)))).2.2.1]
 false),
 (2,
 Blk.arr 2
 (gv
 (pr
 (pr
 (qbV (gv (pl (pr (pr (qae (intOf (cellAt x3 x7 0)) (intOf (cellAt x3 x7 1)) (intOf (cellAt x3 x7 2))))))) x6 (IntKind.i64.wrap (x7 + 1))
 x8)))).2.2.2
 false)], 3, 0⟩)
def qFE (x0 x1 : Int) (x2 x3 : List AV) (x4 x5 : Int) (x6 : List AV) (x7 : Int) (x8 : List AV) : X × St := (X.ret,
 ⟨[(2, AV.int IntKind.i64 (IntKind.i64.wrap (x0 - 1))), (6, AV.ref 0 0 0), (7, AV.int IntKind.i64 0),
 (8,
 AV.int IntKind.i64
 (gv
 (qic (gv (pl (pr (pr (pr (qae (intOf (cellAt x3 x7 0)) (intOf (cellAt x3 x7 1)) (intOf (cellAt x3 x7 2)))))))) x6 (IntKind.i64.wrap (x7 + 1))
 x8)).1),
 (9, AV.ref 1 0 0)], [(0, Blk.box [AV.int IntKind.i64 0, AV.int IntKind.i64 0] false),
 (1,
 Blk.box
 [AV.view 2
 (gv
 (qic (gv (pl (pr (pr (pr (qae (intOf (cellAt x3 x7 0)) (intOf (cellAt x3 x7 1)) (intOf (cellAt x3 x7 2)))))))) x6
 (IntKind.i64.wrap (x7 + 1)) x8)).2.1,
 AV.own 2 0 none,
 AV.int IntKind.i64
 (gv
 (qic (gv (pl (pr (pr (pr (qae (intOf (cellAt x3 x7 0)) (intOf (cellAt x3 x7 1)) (intOf (cellAt x3 x7 2)))))))) x6
 (IntKind.i64.wrap (x7 + 1)) x8)).2.2.1]
 false),
 (2,
 Blk.arr 2
 (gv
 (qic (gv (pl (pr (pr (pr (qae (intOf (cellAt x3 x7 0)) (intOf (cellAt x3 x7 1)) (intOf (cellAt x3 x7 2)))))))) x6 (IntKind.i64.wrap (x7 + 1))
 x8)).2.2.2
 false)], 3, 0⟩)
def qFF (x0 x1 : Int) (x2 x3 : List AV) (x4 x5 : Int) (x6 : List AV) (x7 : Int) (x8 : List AV) : X × St := (X.ret,
 ⟨[(2, AV.int IntKind.i64 (IntKind.i64.wrap (x0 - 1))), (6, AV.ref 0 0 0), (7, AV.int IntKind.i64 0),
 (8,
 AV.int IntKind.i64
 (gv
 (qg2 (gv (pr (pr (pr (pr (qae (intOf (cellAt x3 x7 0)) (intOf (cellAt x3 x7 1)) (intOf (cellAt x3 x7 2)))))))) x6 (IntKind.i64.wrap (x7 + 1))
 x8)).1),
 (9, AV.ref 1 0 0)], [(0, Blk.box [AV.int IntKind.i64 0, AV.int IntKind.i64 0] false),
 (1,
 Blk.box
 [AV.view 2
 (gv
 (qg2 (gv (pr (pr (pr (pr (qae (intOf (cellAt x3 x7 0)) (intOf (cellAt x3 x7 1)) (intOf (cellAt x3 x7 2)))))))) x6
 (IntKind.i64.wrap (x7 + 1)) x8)).2.1,
 AV.own 2 0
 (some
 (gv
 (qg2 (gv (pr (pr (pr (pr (qae (intOf (cellAt x3 x7 0)) (intOf (cellAt x3 x7 1)) (intOf (cellAt x3 x7 2)))))))) x6
 (IntKind.i64.wrap (x7 + 1)) x8)).2.2.1),
 AV.int IntKind.i64
 (gv
 (qg2 (gv (pr (pr (pr (pr (qae (intOf (cellAt x3 x7 0)) (intOf (cellAt x3 x7 1)) (intOf (cellAt x3 x7 2)))))))) x6
 (IntKind.i64.wrap (x7 + 1)) x8)).2.2.2.1]
 false),
 (2,
 Blk.arr 2
 (gv
 (qg2 (gv (pr (pr (pr (pr (qae (intOf (cellAt x3 x7 0)) (intOf (cellAt x3 x7 1)) (intOf (cellAt x3 x7 2)))))))) x6
 (IntKind.i64.wrap (x7 + 1)) x8)).2.2.2.2
 false)], 3, 0⟩)
def qFG (x0 x1 : Int) (x2 x3 : List AV) (x4 x5 : Int) (x6 : List AV) (x7 : Int) (x8 : List AV) : X × St := (X.exit 0,
 ⟨[(2, AV.int IntKind.i64 x0), (6, AV.ref 0 0 0), (7, AV.junk), (8, AV.junk), (9, AV.ref 1 0 0)], [(0, Blk.box [AV.int IntKind.i64 x4, AV.int IntKind.i64 x5] false), (1, Blk.box [AV.view 2 x6, AV.own 2 0 none, AV.int IntKind.i64 x7] false), (2, Blk.arr 2 x8 false)], 3, 0⟩)
def qFH (x0 x1 : Int) (x2 x3 : List AV) (x4 x5 : Int) (x6 : List AV) (x7 : Nat) (x8 : Int) (x9 : List AV) : X × St := (X.ret,
 ⟨[(2, AV.int IntKind.i64 x0), (6, AV.ref 0 0 0), (7, AV.int IntKind.i64 0), (8, AV.int IntKind.i64 8), (9, AV.ref 1 0 0)], [(0, Blk.box [AV.int IntKind.i64 0, AV.int IntKind.i64 0] false), (1, Blk.box [AV.view 2 x6, AV.own 2 0 (some x7), AV.int IntKind.i64 x8] false), (2, Blk.arr 2 x9 false)], 3, 0⟩)
def qFI (x0 x1 : Int) (x2 x3 : List AV) (x4 x5 : Int) (x6 : List AV) (x7 : Nat) (x8 : Int) (x9 : List AV) : X × St := (X.ret,
 ⟨[(2, AV.int IntKind.i64 (IntKind.i64.wrap (x0 - 1))), (6, AV.ref 0 0 0), (7, AV.int IntKind.i64 0),
 (8,
 AV.int IntKind.i64
 (gv
 (pl
 (qdC (gv (pl (qae (intOf (cellAt x3 x8 0)) (intOf (cellAt x3 x8 1)) (intOf (cellAt x3 x8 2))))).1
 (gv (pl (qae (intOf (cellAt x3 x8 0)) (intOf (cellAt x3 x8 1)) (intOf (cellAt x3 x8 2))))).2 x6 x7 (IntKind.i64.wrap (x8 + 1)) x9))).1),
 (9, AV.ref 1 0 0)], [(0, Blk.box [AV.int IntKind.i64 0, AV.int IntKind.i64 0] false),
 (1,
 Blk.box
 [AV.view 2
 (gv
 (pl
 (qdC (gv (pl (qae (intOf (cellAt x3 x8 0)) (intOf (cellAt x3 x8 1)) (intOf (cellAt x3 x8 2))))).1
 (gv (pl (qae (intOf (cellAt x3 x8 0)) (intOf (cellAt x3 x8 1)) (intOf (cellAt x3 x8 2))))).2 x6 x7 (IntKind.i64.wrap (x8 + 1)) x9))).2.1,
 AV.own 2 0
 (some
 (gv
 (pl
 (qdC (gv (pl (qae (intOf (cellAt x3 x8 0)) (intOf (cellAt x3 x8 1)) (intOf (cellAt x3 x8 2))))).1
 (gv (pl (qae (intOf (cellAt x3 x8 0)) (intOf (cellAt x3 x8 1)) (intOf (cellAt x3 x8 2))))).2 x6 x7 (IntKind.i64.wrap (x8 + 1))
 x9))).2.2.1),
 AV.int IntKind.i64
 (gv
 (pl
 (qdC (gv (pl (qae (intOf (cellAt x3 x8 0)) (intOf (cellAt x3 x8 1)) (intOf (cellAt x3 x8 2))))).1
 (gv (pl (qae (intOf (cellAt x3 x8 0)) (intOf (cellAt x3 x8 1)) (intOf (cellAt x3 x8 2))))).2 x6 x7 (IntKind.i64.wrap (x8 + 1))
 x9))).2.2.2.1]
 false),
 (2,
 Blk.arr 2
 (gv
 (pl
 (qdC (gv (pl (qae (intOf (cellAt x3 x8 0)) (intOf (cellAt x3 x8 1)) (intOf (cellAt x3 x8 2))))).1
 (gv (pl (qae (intOf (cellAt x3 x8 0)) (intOf (cellAt x3 x8 1)) (intOf (cellAt x3 x8 2))))).2 x6 x7 (IntKind.i64.wrap (x8 + 1))
 x9))).2.2.2.2
 false)], 3, 0⟩)
def qFJ (x0 x1 : Int) (x2 x3 : List AV) (x4 x5 : Int) (x6 : List AV) (x7 : Nat) (x8 : Int) (x9 : List AV) : X × St := (X.ret,
 ⟨[(2, AV.int IntKind.i64 (IntKind.i64.wrap (x0 - 1))), (6, AV.ref 0 0 0), (7, AV.int IntKind.i64 0),
 (8,
 AV.int IntKind.i64
 (gv
 (pr
 (qdC (gv (pl (qae (intOf (cellAt x3 x8 0)) (intOf (cellAt x3 x8 1)) (intOf (cellAt x3 x8 2))))).1
 (gv (pl (qae (intOf (cellAt x3 x8 0)) (intOf (cellAt x3 x8 1)) (intOf (cellAt x3 x8 2))))).2 x6 x7 (IntKind.i64.wrap (x8 + 1)) x9))).1),
 (9, AV.ref 1 0 0)], [(0, Blk.box [AV.int IntKind.i64 0, AV.int IntKind.i64 0] false),
 (1,
 Blk.box
 [AV.view 2
 (gv
 (pr
 (qdC (gv (pl (qae (intOf (cellAt x3 x8 0)) (intOf (cellAt x3 x8 1)) (intOf (cellAt x3 x8 2))))).1
 (gv (pl (qae (intOf (cellAt x3 x8 0)) (intOf (cellAt x3 x8 1)) (intOf (cellAt x3 x8 2))))).2 x6 x7 (IntKind.i64.wrap (x8 + 1)) x9))).2.1,
 AV.own 2 0 none,
 AV.int IntKind.i64
 (gv
 (pr
 (qdC (gv (pl (qae (intOf (cellAt x3 x8 0)) (intOf (cellAt x3 x8 1)) (intOf (cellAt x3 x8 2))))).1
 (gv (pl (qae (intOf (cellAt x3 x8 0)) (intOf (cellAt x3 x8 1)) (intOf (cellAt x3 x8 2))))).2 x6 x7 (IntKind.i64.wrap (x8 + 1))
 x9))).2.2.1]
 false),
 (2,
 Blk.arr 2
 (gv
 (pr
 (qdC (gv (pl (qae (intOf (cellAt x3 x8 0)) (intOf (cellAt x3 x8 1)) (intOf (cellAt x3 x8 2))))).1
 (gv (pl (qae (intOf (cellAt x3 x8 0)) (intOf (cellAt x3 x8 1)) (intOf (cellAt x3 x8 2))))).2 x6 x7 (IntKind.i64.wrap (x8 + 1)) x9))).2.2.2
 false)], 3, 0⟩)
def qFK (x0 x1 : Int) (x2 x3 : List AV) (x4 x5 : Int) (x6 : List AV) (x7 : Nat) (x8 : Int) (x9 : List AV) : X × St := (X.ret,
 ⟨[(2, AV.int IntKind.i64 (IntKind.i64.wrap (x0 - 1))), (6, AV.ref 0 0 0), (7, AV.int IntKind.i64 0),
 (8,
 AV.int IntKind.i64
 (gv
 (pl
 (qdA (gv (pl (pr (qae (intOf (cellAt x3 x8 0)) (intOf (cellAt x3 x8 1)) (intOf (cellAt x3 x8 2)))))) x6 x7 (IntKind.i64.wrap (x8 + 1))
 x9))).1),
 (9, AV.ref 1 0 0)], [(0, Blk.box [AV.int IntKind.i64 0, AV.int IntKind.i64 0] false),
 (1,
 Blk.box
 [AV.view 2
 (gv
 (pl
 (qdA (gv (pl (pr (qae (intOf (cellAt x3 x8 0)) (intOf (cellAt x3 x8 1)) (intOf (cellAt x3 x8 2)))))) x6 x7 (IntKind.i64.wrap (x8 + 1))
 x9))).2.1,
 AV.own 2 0
 (some
 (gv
 (pl
 (qdA (gv (pl (pr (qae (intOf (cellAt x3 x8 0)) (intOf (cellAt x3 x8 1)) (intOf (cellAt x3 x8 2)))))) x6 x7 (IntKind.i64.wrap (x8 + 1))
 x9))).2.2.1),
 AV.int IntKind.i64
 (gv
 (pl
 (qdA (gv (pl (pr (qae (intOf (cellAt x3 x8 0)) (intOf (cellAt x3 x8 1)) (intOf (cellAt x3 x8 2)))))) x6 x7 (IntKind.i64.wrap (x8 + 1))
 x9))).2.2.2.1]
 false),
 (2,
 Blk.arr 2
 (gv
 (pl
 (qdA (gv (pl (pr (qae (intOf (cellAt x3 x8 0)) (intOf (cellAt x3 x8 1)) (intOf (cellAt x3 x8 2)))))) x6 x7 (IntKind.i64.wrap (x8 + 1))
 x9))).2.2.2.2
 false)], 3, 0⟩)
def qFL (x0 x1 : Int) (x2 x3 : List AV) (x4 x5 : Int) (x6 : List AV) (x7 : Nat) (x8 : Int) (x9 : List AV) : X × St := (X.ret,
 ⟨[(2, AV.int IntKind.i64 (IntKind.i64.wrap (x0 - 1))), (6, AV.ref 0 0 0), (7, AV.int IntKind.i64 0),
 (8,
 AV.int IntKind.i64
 (gv
 (pr
 (qdA (gv (pl (pr (qae (intOf (cellAt x3 x8 0)) (intOf (cellAt x3 x8 1)) (intOf (cellAt x3 x8 2)))))) x6 x7 (IntKind.i64.wrap (x8 + 1))
 x9))).1),
 (9, AV.ref 1 0 0)], [(0, Blk.box [AV.int IntKind.i64 0, AV.int IntKind.i64 0] false),
 (1,
 Blk.box
 [AV.view 2
 (gv
 (pr
 (qdA (gv (pl (pr (qae (intOf (cellAt x3 x8 0)) (intOf (cellAt x3 x8 1)) (intOf (cellAt x3 x8 2)))))) x6 x7 (IntKind.i64.wrap (x8 + 1))
 x9))).2.1,
 AV.own 2 0 none,
 AV.int IntKind.i64
 (gv
 (pr
 (qdA (gv (pl (pr (qae (intOf (cellAt x3 x8 0)) (intOf (cellAt x3 x8 1)) (intOf (cellAt x3 x8 2)))))) x6 x7 (IntKind.i64.wrap (x8 + 1))
 x9))).2.2.1]
 false),
 (2,
 Blk.arr 2
 (gv
 (pr
 (qdA (gv (pl (pr (qae (intOf (cellAt x3 x8 0)) (intOf (cellAt x3 x8 1)) (intOf (cellAt x3 x8 2)))))) x6 x7 (IntKind.i64.wrap (x8 + 1))
 x9))).2.2.2
 false)], 3, 0⟩)
def qFM (x0 x1 : Int) (x2 x3 : List AV) (x4 x5 : Int) (x6 : List AV) (x7 : Nat) (x8 : Int) (x9 : List AV) : X × St := (X.ret,
 ⟨[(2, AV.int IntKind.i64 (IntKind.i64.wrap (x0 - 1))), (6, AV.ref 0 0 0), (7, AV.int IntKind.i64 0),
 (8,
 AV.int IntKind.i64
 (gv
 (pl
 (qdB (gv (pl (pr (pr (qae (intOf (cellAt x3 x8 0)) (intOf (cellAt x3 x8 1)) (intOf (cellAt x3 x8 2))))))) x6 x7 (IntKind.i64.wrap (x8 + 1))
 x9))).1),
 (9, AV.ref 1 0 0)], [(0, Blk.box [AV.int IntKind.i64 0, AV.int IntKind.i64 0] false),
 (1,
 Blk.box
 [AV.view 2
 (gv
 (pl
 (qdB (gv (pl (pr (pr (qae (intOf (cellAt x3 x8 0)) (intOf (cellAt x3 x8 1)) (intOf (cellAt x3 x8 2))))))) x6 x7
 (IntKind.i64.wrap (x8 + 1)) x9))).2.1,
 AV.own 2 0
 (some
 (gv
 (pl
 (qdB (gv (pl (pr (pr (qae (intOf (cellAt x3 x8 0)) (intOf (cellAt x3 x8 1)) (intOf (cellAt x3 x8 2))))))) x6 x7
 (IntKind.i64.wrap (x8 + 1)) x9))).2.2.1),
 AV.int IntKind.i64
 (gv
 (pl
 (qdB (gv (pl (pr (pr (qae (intOf (cellAt x3 x8 0)) (intOf (cellAt x3 x8 1)) (intOf (cellAt x3 x8 2))))))) x6 x7
 (IntKind.i64.wrap (x8 + 1)) x9))).2.2.2.1]
 false),
 (2,
 Blk.arr 2
 (gv
 (pl
 (qdB (gv (pl (pr (pr (qae (intOf (cellAt x3 x8 0)) (intOf (cellAt x3 x8 1)) (intOf (cellAt x3 x8 2))))))) x6 x7
 (IntKind.i64.wrap (x8 + 1)) x9))).2.2.2.2
 false)], 3, 0⟩)
def qFN (x0 x1 : Int) (x2 x3 : List AV) (x4 x5 : Int) (x6 : List AV) (x7 : Nat) (x8 : Int) (x9 : List AV) : X × St := (X.ret,
 ⟨[(2, AV.int IntKind.i64 (IntKind.i64.wrap (x0 - 1))), (6, AV.ref 0 0 0), (7, AV.int IntKind.i64 0),
 (8,
 AV.int IntKind.i64
 (gv
 (pr
 (qdB (gv (pl (pr (pr (qae (intOf (cellAt x3 x8 0)) (intOf (cellAt x3 x8 1)) (intOf (cellAt x3 x8 2))))))) x6 x7 (IntKind.i64.wrap (x8 + 1))
 x9))).1),
 (9, AV.ref 1 0 0)], [(0, Blk.box [AV.int IntKind.i64 0, AV.int IntKind.i64 0] false),
 (1,
 Blk.box
 [AV.view 2
 (gv
 (pr
 (qdB (gv (pl (pr (pr (qae (intOf (cellAt x3 x8 0)) (intOf (cellAt x3 x8 1)) (intOf (cellAt x3 x8 2))))))) x6 x7
 (IntKind.i64.wrap (x8 + 1)) x9))).2.1,
 AV.own 2 0 none,
 AV.int IntKind.i64
 (gv
 (pr
 (qdB (gv (pl (pr (pr (qae (intOf (cellAt x3 x8 0)) (intOf (cellAt x3 x8 1)) (intOf (cellAt x3 x8 2))))))) x6 x7
 (IntKind.i64.wrap (x8 + 1)) x9))).2.2.1]
 false),
 (2,
 Blk.arr 2
 (gv
 (pr
 (qdB (gv (pl (pr (pr (qae (intOf (cellAt x3 x8 0)) (intOf (cellAt x3 x8 1)) (intOf (cellAt x3 x8 2))))))) x6 x7 (IntKind.i64.wrap (x8 + 1))
 x9))).2.2.2
 false)], 3, 0⟩)
def qFO (x0 x1 : Int) (x2 x3 : List AV) (x4 x5 : Int) (x6 : List AV) (x7 : Nat) (x8 : Int) (x9 : List AV) : X × St := (X.ret,
 ⟨[(2, AV.int IntKind.i64 (IntKind.i64.wrap (x0 - 1))), (6, AV.ref 0 0 0), (7, AV.int IntKind.i64 0),
 (8,
 AV.int IntKind.i64
 (gv
 (qg1 (gv (pl (pr (pr (pr (qae (intOf (cellAt x3 x8 0)) (intOf (cellAt x3 x8 1)) (intOf (cellAt x3 x8 2)))))))) x6 x7 (IntKind.i64.wrap (x8 + 1))
 x9)).1),
 (9, AV.ref 1 0 0)], [(0, Blk.box [AV.int IntKind.i64 0, AV.int IntKind.i64 0] false),
 (1,
 Blk.box
 [AV.view 2
 (gv
 (qg1 (gv (pl (pr (pr (pr (qae (intOf (cellAt x3 x8 0)) (intOf (cellAt x3 x8 1)) (intOf (cellAt x3 x8 2)))))))) x6 x7
 (IntKind.i64.wrap (x8 + 1)) x9)).2.1,
 AV.own 2 0
 (some
 (gv
 (qg1 (gv (pl (pr (pr (pr (qae (intOf (cellAt x3 x8 0)) (intOf (cellAt x3 x8 1)) (intOf (cellAt x3 x8 2)))))))) x6 x7
 (IntKind.i64.wrap (x8 + 1)) x9)).2.2.1),
 AV.int IntKind.i64
 (gv
 (qg1 (gv (pl (pr (pr (pr (qae (intOf (cellAt x3 x8 0)) (intOf (cellAt x3 x8 1)) (intOf (cellAt x3 x8 2)))))))) x6 x7
 (IntKind.i64.wrap (x8 + 1)) x9)).2.2.2.1]
 false),
 (2,
 Blk.arr 2
 (gv
 (qg1 (gv (pl (pr (pr (pr (qae (intOf (cellAt x3 x8 0)) (intOf (cellAt x3 x8 1)) (intOf (cellAt x3 x8 2)))))))) x6 x7
 (IntKind.i64.wrap (x8 + 1)) x9)).2.2.2.2
 false)], 3, 0⟩)
def qFP (x0 x1 : Int) (x2 x3 : List AV) (x4 x5 : Int) (x6 : List AV) (x7 : Nat) (x8 : Int) (x9 : List AV) : X × St := (X.ret,
 ⟨[(2, AV.int IntKind.i64 (IntKind.i64.wrap (x0 - 1))), (6, AV.ref 0 0 0), (7, AV.int IntKind.i64 0),
 (8,
 AV.int IntKind.i64
 (gv
 (qg3 (gv (pr (pr (pr (pr (qae (intOf (cellAt x3 x8 0)) (intOf (cellAt x3 x8 1)) (intOf (cellAt x3 x8 2)))))))) x6 x7 (IntKind.i64.wrap (x8 + 1))
 x9)).1),
 (9, AV.ref 1 0 0)], [(0, Blk.box [AV.int IntKind.i64 0, AV.int IntKind.i64 0] false),
 (1,
 Blk.box
 [AV.view 2
 (gv
 (qg3 (gv (pr (pr (pr (pr (qae (intOf (cellAt x3 x8 0)) (intOf (cellAt x3 x8 1)) (intOf (cellAt x3 x8 2)))))))) x6 x7
 (IntKind.i64.wrap (x8 + 1)) x9)).2.1,
 AV.own 2 0
 (some
 (gv
 (qg3 (gv (pr (pr (pr (pr (qae (intOf (cellAt x3 x8 0)) (intOf (cellAt x3 x8 1)) (intOf (cellAt x3 x8 2)))))))) x6 x7
 (IntKind.i64.wrap (x8 + 1)) x9)).2.2.1),
 AV.int IntKind.i64
 (gv
 (qg3 (gv (pr (pr (pr (pr (qae (intOf (cellAt x3 x8 0)) (intOf (cellAt x3 x8 1)) (intOf (cellAt x3 x8 2)))))))) x6 x7
 (IntKind.i64.wrap (x8 + 1)) x9)).2.2.2.1]
 false),
 (2,
 Blk.arr 2
 (gv
 (qg3 (gv (pr (pr (pr (pr (qae (intOf (cellAt x3 x8 0)) (intOf (cellAt x3 x8 1)) (intOf (cellAt x3 x8 2)))))))) x6 x7
 (IntKind.i64.wrap (x8 + 1)) x9)).2.2.2.2
 false)], 3, 0⟩)
def qFQ (x0 x1 : Int) (x2 x3 : List AV) (x4 x5 : Int) (x6 : List AV) (x7 : Nat) (x8 : Int) (x9 : List AV) : X × St := (X.exit 0,
 ⟨[(2, AV.int IntKind.i64 x0), (6, AV.ref 0 0 0), (7, AV.junk), (8, AV.junk), (9, AV.ref 1 0 0)], [(0, Blk.box [AV.int IntKind.i64 x4, AV.int IntKind.i64 x5] false), (1, Blk.box [AV.view 2 x6, AV.own 2 0 (some x7), AV.int IntKind.i64 x8] false), (2, Blk.arr 2 x9 false)], 3, 0⟩)
def q2b : List (qbD → X × St) := [fun w => (k8 qQC) ((sl w)), fun w => (k8 qQD) ((sl w)), fun w => (k8 qQE) ((sl w)), fun w => (k8 qQF) ((sl w)), fun w => (k8 qQG) ((sl w)), fun w => (k9 qQH) ((sl (sr w))), fun w => (k9 qQI) ((sl (sr w))), fun w => (k9 qQJ) ((sl (sr w))), fun w => (k9 qQK) ((sl (sr w))), fun w => (k9 qQL) ((sl (sr w))), fun w => (k9 qFD) ((sl (sr w))), fun w => (k9 qFE) ((sl (sr w))), fun w => (k9 qFF) ((sl (sr w))), fun w => (k9 qFG) ((sl (sr w))), fun w => (k10 qFH) ((sr (sr w))), fun w => (k10 qFI) ((sr (sr w))), fun w => (k10 qFJ) ((sr (sr w))), fun w => (k10 qFK) ((sr (sr w))), fun w => (k10 qFL) ((sr (sr w))), fun w => (k10 qFM) ((sr (sr w))), fun w => (k10 qFN) ((sr (sr w))), fun w => (k10 qFO) ((sr (sr w))), fun w => (k10 qFP) ((sr (sr w))), fun w => (k10 qFQ) ((sr (sr w)))]
def qfF (x0 x1 : Int) (x2 x3 : List AV) (x4 x5 : Int) (x6 : List AV) (x7 : Int) : DT (Rd qbD) :=
 .br (decide (x7 < (x3.length : Int)))
 (.br (decide (x0 ≤ 0))
 (.at (.done 0))
 (.br (qaB [CS.int IntKind.i64, CS.int IntKind.i64, CS.int IntKind.i64] x3 x7)
 (.bi (pl (qae (intOf (cellAt x3 x7 0)) (intOf (cellAt x3 x7 1)) (intOf (cellAt x3 x7 2)))) (fun y0 =>
 .bi (qfb y0.1 y0.2 x6 (IntKind.i64.wrap (x7 + 1))) (fun y1 =>
 .br (y1.1 != 0) (.at (.done 1)) (.at (.next ((.inr (.inl (IntKind.i64.wrap (x0 - 1), x1, x2, x3, x4, x5, y1.2.1, y1.2.2.1, y1.2.2.2)))))))
 (.no))
 (.bi (pl (pr (qae (intOf (cellAt x3 x7 0)) (intOf (cellAt x3 x7 1)) (intOf (cellAt x3 x7 2))))) (fun y0 =>
 .bi (qfa y0 x6 (IntKind.i64.wrap (x7 + 1))) (fun y1 =>
 .br (y1.1 != 0) (.at (.done 2)) (.at (.next ((.inr (.inl (IntKind.i64.wrap (x0 - 1), x1, x2, x3, x4, x5, y1.2.1, y1.2.2.1, y1.2.2.2)))))))
 (.no))
 (.bi (pl (pr (pr (qae (intOf (cellAt x3 x7 0)) (intOf (cellAt x3 x7 1)) (intOf (cellAt x3 x7 2)))))) (fun y0 =>
 .no)
 (.bi (pl (pr (pr (pr (qae (intOf (cellAt x3 x7 0)) (intOf (cellAt x3 x7 1)) (intOf (cellAt x3 x7 2))))))) (fun y0 =>
 .bi (qga y0 x6 (IntKind.i64.wrap (x7 + 1))) (fun y1 =>
 .br (y1.1 != 0) (.at (.done 3)) (.at (.next ((.inl (IntKind.i64.wrap (x0 - 1), x1, x2, x3, x4, x5, y1.2.1, y1.2.2))))))
 (.no))
 (.bi (pr (pr (pr (pr (qae (intOf (cellAt x3 x7 0)) (intOf (cellAt x3 x7 1)) (intOf (cellAt x3 x7 2))))))) (fun y0 =>
 .no)
 (.no))))))
 (.no)))
 (.at (.done 4))
def qb7 (x0 x1 : Int) (x2 x3 : List AV) (x4 x5 : Int) (x6 : List AV) (x7 : Int) (x8 : List AV) : DT (Rd qbD) :=
 .br (decide (x7 < (x3.length : Int)))
 (.br (decide (x0 ≤ 0))
 (.at (.done 5))
 (.br (qaB [CS.int IntKind.i64, CS.int IntKind.i64, CS.int IntKind.i64] x3 x7)
 (.bi (pl (qae (intOf (cellAt x3 x7 0)) (intOf (cellAt x3 x7 1)) (intOf (cellAt x3 x7 2)))) (fun y0 =>
 .bi (qie y0.1 y0.2 x6 (IntKind.i64.wrap (x7 + 1)) x8) (fun y1 =>
 .br (y1.1 != 0) (.at (.done 6)) (.at (.next ((.inr (.inl (IntKind.i64.wrap (x0 - 1), x1, x2, x3, x4, x5, y1.2.1, y1.2.2.1, y1.2.2.2)))))))
 (.no))
 (.bi (pl (pr (qae (intOf (cellAt x3 x7 0)) (intOf (cellAt x3 x7 1)) (intOf (cellAt x3 x7 2))))) (fun y0 =>
 .bi (qid y0 x6 (IntKind.i64.wrap (x7 + 1)) x8) (fun y1 =>
 .br (y1.1 != 0) (.at (.done 7)) (.at (.next ((.inr (.inl (IntKind.i64.wrap (x0 - 1), x1, x2, x3, x4, x5, y1.2.1, y1.2.2.1, y1.2.2.2)))))))
 (.no))
 (.bi (pl (pr (pr (qae (intOf (cellAt x3 x7 0)) (intOf (cellAt x3 x7 1)) (intOf (cellAt x3 x7 2)))))) (fun y0 =>
 .bi (pl (qbV y0 x6 (IntKind.i64.wrap (x7 + 1)) x8)) (fun y1 =>
 .br (y1.1 != 0) (.at (.done 8)) (.at (.next ((.inr (.inl (IntKind.i64.wrap (x0 - 1), x1, x2, x3, x4, x5, y1.2.1, y1.2.2.1, y1.2.2.2)))))))
 (.bi (pl (pr (qbV y0 x6 (IntKind.i64.wrap (x7 + 1)) x8))) (fun y1 =>
 .br (y1.1 != 0)
 (.at (.done 9))
 (.at (.next ((.inr (.inr (IntKind.i64.wrap (x0 - 1), x1, x2, x3, x4, x5, y1.2.1, y1.2.2.1, y1.2.2.2.1, y1.2.2.2.2)))))))
 (.bi (pr (pr (qbV y0 x6 (IntKind.i64.wrap (x7 + 1)) x8))) (fun y1 =>
 .br (y1.1 != 0) (.at (.done 10)) (.at (.next ((.inr (.inl (IntKind.i64.wrap (x0 - 1), x1, x2, x3, x4, x5, y1.2.1, y1.2.2.1, y1.2.2.2)))))))
 (.no))))
 (.bi (pl (pr (pr (pr (qae (intOf (cellAt x3 x7 0)) (intOf (cellAt x3 x7 1)) (intOf (cellAt x3 x7 2))))))) (fun y0 =>
 .bi (qic y0 x6 (IntKind.i64.wrap (x7 + 1)) x8) (fun y1 =>
 .br (y1.1 != 0) (.at (.done 11)) (.at (.next ((.inr (.inl (IntKind.i64.wrap (x0 - 1), x1, x2, x3, x4, x5, y1.2.1, y1.2.2.1, y1.2.2.2)))))))
 (.no))
 (.bi (pr (pr (pr (pr (qae (intOf (cellAt x3 x7 0)) (intOf (cellAt x3 x7 1)) (intOf (cellAt x3 x7 2))))))) (fun y0 =>
 .bi (qg2 y0 x6 (IntKind.i64.wrap (x7 + 1)) x8) (fun y1 =>
 .br (y1.1 != 0)
 (.at (.done 12))
 (.at (.next ((.inr (.inr (IntKind.i64.wrap (x0 - 1), x1, x2, x3, x4, x5, y1.2.1, y1.2.2.1, y1.2.2.2.1, y1.2.2.2.2)))))))
 (.no))
 (.no))))))
 (.no)))
 (.at (.done 13))
def qbz (x0 x1 : Int) (x2 x3 : List AV) (x4 x5 : Int) (x6 : List AV) (x7 : Nat) (x8 : Int) (x9 : List AV) : DT (Rd qbD) :=
 .br (decide (x8 < (x3.length : Int)))
 (.br (decide (x0 ≤ 0))
 (.at (.done 14))
 (.br (qaB [CS.int IntKind.i64, CS.int IntKind.i64, CS.int IntKind.i64] x3 x8)
 (.bi (pl (qae (intOf (cellAt x3 x8 0)) (intOf (cellAt x3 x8 1)) (intOf (cellAt x3 x8 2)))) (fun y0 =>
 .bi (pl (qdC y0.1 y0.2 x6 x7 (IntKind.i64.wrap (x8 + 1)) x9)) (fun y1 =>
 .br (y1.1 != 0)
 (.at (.done 15))
 (.at (.next ((.inr (.inr (IntKind.i64.wrap (x0 - 1), x1, x2, x3, x4, x5, y1.2.1, y1.2.2.1, y1.2.2.2.1, y1.2.2.2.2)))))))
 (.bi (pr (qdC y0.1 y0.2 x6 x7 (IntKind.i64.wrap (x8 + 1)) x9)) (fun y1 =>
 .br (y1.1 != 0) (.at (.done 16)) (.at (.next ((.inr (.inl (IntKind.i64.wrap (x0 - 1), x1, x2, x3, x4, x5, y1.2.1, y1.2.2.1, y1.2.2.2)))))))
 (.no)))
 (.bi (pl (pr (qae (intOf (cellAt x3 x8 0)) (intOf (cellAt x3 x8 1)) (intOf (cellAt x3 x8 2))))) (fun y0 =>
 .bi (pl (qdA y0 x6 x7 (IntKind.i64.wrap (x8 + 1)) x9)) (fun y1 =>
 .br (y1.1 != 0)
 (.at (.done 17))
 (.at (.next ((.inr (.inr (IntKind.i64.wrap (x0 - 1), x1, x2, x3, x4, x5, y1.2.1, y1.2.2.1, y1.2.2.2.1, y1.2.2.2.2)))))))
 (.bi (pr (qdA y0 x6 x7 (IntKind.i64.wrap (x8 + 1)) x9)) (fun y1 =>
 .br (y1.1 != 0) (.at (.done 18)) (.at (.next ((.inr (.inl (IntKind.i64.wrap (x0 - 1), x1, x2, x3, x4, x5, y1.2.1, y1.2.2.1, y1.2.2.2)))))))
 (.no)))
 (.bi (pl (pr (pr (qae (intOf (cellAt x3 x8 0)) (intOf (cellAt x3 x8 1)) (intOf (cellAt x3 x8 2)))))) (fun y0 =>
 .bi (pl (qdB y0 x6 x7 (IntKind.i64.wrap (x8 + 1)) x9)) (fun y1 =>
 .br (y1.1 != 0)
 (.at (.done 19))
 (.at (.next ((.inr (.inr (IntKind.i64.wrap (x0 - 1), x1, x2, x3, x4, x5, y1.2.1, y1.2.2.1, y1.2.2.2.1, y1.2.2.2.2)))))))
 (.bi (pr (qdB y0 x6 x7 (IntKind.i64.wrap (x8 + 1)) x9)) (fun y1 =>
 .br (y1.1 != 0) (.at (.done 20)) (.at (.next ((.inr (.inl (IntKind.i64.wrap (x0 - 1), x1, x2, x3, x4, x5, y1.2.1, y1.2.2.1, y1.2.2.2)))))))
 (.no)))
 (.bi (pl (pr (pr (pr (qae (intOf (cellAt x3 x8 0)) (intOf (cellAt x3 x8 1)) (intOf (cellAt x3 x8 2))))))) (fun y0 =>
 .bi (qg1 y0 x6 x7 (IntKind.i64.wrap (x8 + 1)) x9) (fun y1 =>
 .br (y1.1 != 0)
 (.at (.done 21))
 (.at (.next ((.inr (.inr (IntKind.i64.wrap (x0 - 1), x1, x2, x3, x4, x5, y1.2.1, y1.2.2.1, y1.2.2.2.1, y1.2.2.2.2)))))))
 (.no))
 (.bi (pr (pr (pr (pr (qae (intOf (cellAt x3 x8 0)) (intOf (cellAt x3 x8 1)) (intOf (cellAt x3 x8 2))))))) (fun y0 =>
 .bi (qg3 y0 x6 x7 (IntKind.i64.wrap (x8 + 1)) x9) (fun y1 =>
 .br (y1.1 != 0)
 (.at (.done 22))
 (.at (.next ((.inr (.inr (IntKind.i64.wrap (x0 - 1), x1, x2, x3, x4, x5, y1.2.1, y1.2.2.1, y1.2.2.2.1, y1.2.2.2.2)))))))
 (.no))
 (.no))))))
 (.no)))
 (.at (.done 23))
def qaS : qbD → DT (Rd qbD) := (Sum.elim (fun v => qfF v.1 v.2.1 v.2.2.1 v.2.2.2.1 v.2.2.2.2.1 v.2.2.2.2.2.1 v.2.2.2.2.2.2.1 v.2.2.2.2.2.2.2) (Sum.elim (fun v => qb7 v.1 v.2.1 v.2.2.1 v.2.2.2.1 v.2.2.2.2.1 v.2.2.2.2.2.1 v.2.2.2.2.2.2.1 v.2.2.2.2.2.2.2.1 v.2.2.2.2.2.2.2.2) (fun v => qbz v.1 v.2.1 v.2.2.1 v.2.2.2.1 v.2.2.2.2.1 v.2.2.2.2.2.1 v.2.2.2.2.2.2.1 v.2.2.2.2.2.2.2.1 v.2.2.2.2.2.2.2.2.1 v.2.2.2.2.2.2.2.2.2)))
def qkP (v : qbD) : Option (Nat × qbD) := qaz (qar (fun v => (qaS v).ev) v)
theorem qde (v : qbD) : qkP v = qar (fun v => (qaS v).ev) v := qaa _
def qB5 : qcJ := LE (τ := qbD) (hD qBm) (qkP) q2b
theorem q1x : Go.Eng.Told IP (qah F17 0).1 (qah F17 0).2 (qB5) := qax (inferInstance : Inhabited qbD) (hs := qBm) (st := qaS) (L := []) qys (qab (l := []) (by kernel_rfl) trivial) (qde) (fun v => match v with | (.inl v) => by kernel_rfl | (.inr (.inl v)) => by kernel_rfl | (.inr (.inr v)) => by kernel_rfl) (fun v => match v with | (.inl v) => by kernel_rfl | (.inr (.inl v)) => by kernel_rfl | (.inr (.inr v)) => by kernel_rfl)
end
end Go.Proofs.H13

/- Functions over plain data. Printed by a program of mine. -/
import Derived.Test.YthljpgljbpdmjaaGreatDoorD15e_5
import Derived.KernelRfl
set_option linter.unusedVariables false
set_option linter.unusedSimpArgs false
set_option linter.unnecessarySimpa false
namespace Go.Proofs.H15e
open Go Go.Eng
set_option maxRecDepth 100000
abbrev B_u63q : Type := Int
def p_u63q : PArgs := ⟨[.agg [.str, .str, .str, .int .i64, .int .i64, .int .i64, .int .i64, .view 2, .bool, .int .i64, .int .i64, .bool, .view 2, .bool, .int .i64, .int .i64, .bool, .view 10, .view 6], .view 2, .view 3], []⟩
def r_u63q : List PRes := [⟨false, .int .i64, []⟩]
noncomputable def tr_u63q (x0 x1 x2 : List UInt8) (x3 x4 : Int) (x5 x6 : Int) (x7 : List AV) (x8 : Bool) (x9 x10 : Int) (x11 : Bool) (x12 : List AV) (x13 : Bool) (x14 x15 : Int) (x16 : Bool) (x17 x18 : List AV) (x19 x20 : List AV) : DT B_u63q :=
 .bi (f_u78q x0 x1 x2 x3 x4 x5 x6 x7 x8 x9 x10 x11 x12 x13 x14 x15 x16 x17 x18 x19 x20) (fun y0 =>
  .br (y0 != 0)
   (.at (y0))
   (.bi (pj 0 (l_u37q (x7, x8, x9, x10, x11, x12, x13, x14, x15, x16, 0, x0, x1, x2, x3, x4, x5, x6, x7, x8, x9, x10, x11, x12, x13, x14, x15, x16, x17, x18))) (fun y1 =>
    .at (gv (f_u34q y1.1 y1.2.1 y1.2.2.1 y1.2.2.2.1 y1.2.2.2.2.1)))
    (.bi (pj 1 (l_u37q (x7, x8, x9, x10, x11, x12, x13, x14, x15, x16, 0, x0, x1, x2, x3, x4, x5, x6, x7, x8, x9, x10, x11, x12, x13, x14, x15, x16, x17, x18))) (fun y1 =>
     .at (gv
  (f_u34q y1.2.2.2.2.2.1 y1.2.2.2.2.2.2.1 y1.2.2.2.2.2.2.2.1 y1.2.2.2.2.2.2.2.2.1
    y1.2.2.2.2.2.2.2.2.2.1)))
     (.bi (pj 2 (l_u37q (x7, x8, x9, x10, x11, x12, x13, x14, x15, x16, 0, x0, x1, x2, x3, x4, x5, x6, x7, x8, x9, x10, x11, x12, x13, x14, x15, x16, x17, x18))) (fun y1 =>
      .bi (br (decide ((↑y1.2.2.2.2.2.2.2.2.2.2.2.2.2.2.2.2.2.2.2.2.2.2.2.2.2.2.2.2.1.length : Int) > 4)) (some true)
          (some (decide ((↑y1.2.2.2.2.2.2.2.2.2.2.2.2.2.2.2.2.2.2.2.2.2.2.2.2.2.2.2.2.2.length : Int) > 4)))) (fun y2 =>
       .br (y2)
        (.at (5))
        (.bi (pj 0
            (l_u38q
              (y1.2.2.2.2.2.2.2.2.2.2.2.2.2.2.2.2.2.2.2.2.2.2.2.2.2.2.2.2.1,
                (↑y1.2.2.2.2.2.2.2.2.2.2.2.2.2.2.2.2.2.2.2.2.2.2.2.2.2.2.2.2.1.length : Int), 0,
                y1.2.2.2.2.2.2.2.2.2.2.2.1, y1.2.2.2.2.2.2.2.2.2.2.2.2.1, y1.2.2.2.2.2.2.2.2.2.2.2.2.2.1,
                y1.2.2.2.2.2.2.2.2.2.2.2.2.2.2.1, y1.2.2.2.2.2.2.2.2.2.2.2.2.2.2.2.1,
                y1.2.2.2.2.2.2.2.2.2.2.2.2.2.2.2.2.1, y1.2.2.2.2.2.2.2.2.2.2.2.2.2.2.2.2.2.1,
                y1.2.2.2.2.2.2.2.2.2.2.2.2.2.2.2.2.2.2.1, y1.2.2.2.2.2.2.2.2.2.2.2.2.2.2.2.2.2.2.2.1,
                y1.2.2.2.2.2.2.2.2.2.2.2.2.2.2.2.2.2.2.2.2.1,
                y1.2.2.2.2.2.2.2.2.2.2.2.2.2.2.2.2.2.2.2.2.2.1,
                y1.2.2.2.2.2.2.2.2.2.2.2.2.2.2.2.2.2.2.2.2.2.2.1,
                y1.2.2.2.2.2.2.2.2.2.2.2.2.2.2.2.2.2.2.2.2.2.2.2.1,
                y1.2.2.2.2.2.2.2.2.2.2.2.2.2.2.2.2.2.2.2.2.2.2.2.2.1,
                y1.2.2.2.2.2.2.2.2.2.2.2.2.2.2.2.2.2.2.2.2.2.2.2.2.2.1,
                y1.2.2.2.2.2.2.2.2.2.2.2.2.2.2.2.2.2.2.2.2.2.2.2.2.2.2.1,
                y1.2.2.2.2.2.2.2.2.2.2.2.2.2.2.2.2.2.2.2.2.2.2.2.2.2.2.2.1,
                y1.2.2.2.2.2.2.2.2.2.2.2.2.2.2.2.2.2.2.2.2.2.2.2.2.2.2.2.2.1,
                y1.2.2.2.2.2.2.2.2.2.2.2.2.2.2.2.2.2.2.2.2.2.2.2.2.2.2.2.2.2))) (fun y3 =>
         .at (gv
  (f_u94q (strOf (cellAt y3.1 y3.2.2.1 0)) (intOf (cellAt y3.1 y3.2.2.1 1)) (intOf (cellAt y3.1 y3.2.2.1 2)) (intOf (cellAt y3.1 y3.2.2.1 3))
    (strOf (cellAt y3.1 y3.2.2.1 4)) (viewOf (cellAt y3.1 y3.2.2.1 5)) (intOf (cellAt y3.1 y3.2.2.1 6)) (intOf (cellAt y3.1 y3.2.2.1 7))
    (strOf (cellAt y3.1 y3.2.2.1 8)) (viewOf (cellAt y3.1 y3.2.2.1 9)))))
         (.bi (pj 1
             (l_u38q
               (y1.2.2.2.2.2.2.2.2.2.2.2.2.2.2.2.2.2.2.2.2.2.2.2.2.2.2.2.2.1,
                 (↑y1.2.2.2.2.2.2.2.2.2.2.2.2.2.2.2.2.2.2.2.2.2.2.2.2.2.2.2.2.1.length : Int), 0,
                 y1.2.2.2.2.2.2.2.2.2.2.2.1, y1.2.2.2.2.2.2.2.2.2.2.2.2.1, y1.2.2.2.2.2.2.2.2.2.2.2.2.2.1,
                 y1.2.2.2.2.2.2.2.2.2.2.2.2.2.2.1, y1.2.2.2.2.2.2.2.2.2.2.2.2.2.2.2.1,
                 y1.2.2.2.2.2.2.2.2.2.2.2.2.2.2.2.2.1, y1.2.2.2.2.2.2.2.2.2.2.2.2.2.2.2.2.2.1,
                 y1.2.2.2.2.2.2.2.2.2.2.2.2.2.2.2.2.2.2.1, y1.2.2.2.2.2.2.2.2.2.2.2.2.2.2.2.2.2.2.2.1,
                 y1.2.2.2.2.2.2.2.2.2.2.2.2.2.2.2.2.2.2.2.2.1,
                 y1.2.2.2.2.2.2.2.2.2.2.2.2.2.2.2.2.2.2.2.2.2.1,
                 y1.2.2.2.2.2.2.2.2.2.2.2.2.2.2.2.2.2.2.2.2.2.2.1,
                 y1.2.2.2.2.2.2.2.2.2.2.2.2.2.2.2.2.2.2.2.2.2.2.2.1,
                 y1.2.2.2.2.2.2.2.2.2.2.2.2.2.2.2.2.2.2.2.2.2.2.2.2.1,
                 y1.2.2.2.2.2.2.2.2.2.2.2.2.2.2.2.2.2.2.2.2.2.2.2.2.2.1,
                 y1.2.2.2.2.2.2.2.2.2.2.2.2.2.2.2.2.2.2.2.2.2.2.2.2.2.2.1,
                 y1.2.2.2.2.2.2.2.2.2.2.2.2.2.2.2.2.2.2.2.2.2.2.2.2.2.2.2.1,
                 y1.2.2.2.2.2.2.2.2.2.2.2.2.2.2.2.2.2.2.2.2.2.2.2.2.2.2.2.2.1,
                 y1.2.2.2.2.2.2.2.2.2.2.2.2.2.2.2.2.2.2.2.2.2.2.2.2.2.2.2.2.2))) (fun y3 =>
          .bi (pj 0
              (l_u39q
                (y3.2.2.2.2.2.2.2.2.2.2.2.2.2.2.2.2.2.2.2.2.2,
                  (↑y3.2.2.2.2.2.2.2.2.2.2.2.2.2.2.2.2.2.2.2.2.2.length : Int), 0))) (fun y4 =>
           .at (gv
  (f_u80q (strOf (cellAt y4.1 y4.2.2 0)) (intOf (cellAt y4.1 y4.2.2 1)) (intOf (cellAt y4.1 y4.2.2 2)) (intOf (cellAt y4.1 y4.2.2 3))
    (strOf (cellAt y4.1 y4.2.2 4)) (viewOf (cellAt y4.1 y4.2.2 5)))))
           (.bi (pj 1
               (l_u39q
                 (y3.2.2.2.2.2.2.2.2.2.2.2.2.2.2.2.2.2.2.2.2.2,
                   (↑y3.2.2.2.2.2.2.2.2.2.2.2.2.2.2.2.2.2.2.2.2.2.length : Int), 0))) (fun y4 =>
            .at (0))
            (.no)))
          (.no))))
       (.no))
      (.no)))))
  (.no)
noncomputable def f_u63q (x0 x1 x2 : List UInt8) (x3 x4 : Int) (x5 x6 : Int) (x7 : List AV) (x8 : Bool) (x9 x10 : Int) (x11 : Bool) (x12 : List AV) (x13 : Bool) (x14 x15 : Int) (x16 : Bool) (x17 x18 : List AV) (x19 x20 : List AV) : Option B_u63q := lock (tr_u63q x0 x1 x2 x3 x4 x5 x6 x7 x8 x9 x10 x11 x12 x13 x14 x15 x16 x17 x18 x19 x20).ev
theorem f_u63q_eq (x0 x1 x2 : List UInt8) (x3 x4 : Int) (x5 x6 : Int) (x7 : List AV) (x8 : Bool) (x9 x10 : Int) (x11 : Bool) (x12 : List AV) (x13 : Bool) (x14 x15 : Int) (x16 : Bool) (x17 x18 : List AV) (x19 x20 : List AV) : f_u63q x0 x1 x2 x3 x4 x5 x6 x7 x8 x9 x10 x11 x12 x13 x14 x15 x16 x17 x18 x19 x20 = (tr_u63q x0 x1 x2 x3 x4 x5 x6 x7 x8 x9 x10 x11 x12 x13 x14 x15 x16 x17 x18 x19 x20).ev := lock_eq _
theorem c_u63q : FH IP 12 p_u63q r_u63q (fun (v : List UInt8 × List UInt8 × List UInt8 × Int × Int × Int × Int × List AV × Bool × Int × Int × Bool × List AV × Bool × Int × Int × Bool × List AV × List AV × List AV × List AV) => (f_u63q v.1 v.2.1 v.2.2.1 v.2.2.2.1 v.2.2.2.2.1 v.2.2.2.2.2.1 v.2.2.2.2.2.2.1 v.2.2.2.2.2.2.2.1 v.2.2.2.2.2.2.2.2.1 v.2.2.2.2.2.2.2.2.2.1 v.2.2.2.2.2.2.2.2.2.2.1 v.2.2.2.2.2.2.2.2.2.2.2.1 v.2.2.2.2.2.2.2.2.2.2.2.2.1 v.2.2.2.2.2.2.2.2.2.2.2.2.2.1 v.2.2.2.2.2.2.2.2.2.2.2.2.2.2.1 v.2.2.2.2.2.2.2.2.2.2.2.2.2.2.2.1 v.2.2.2.2.2.2.2.2.2.2.2.2.2.2.2.2.1 v.2.2.2.2.2.2.2.2.2.2.2.2.2.2.2.2.2.1 v.2.2.2.2.2.2.2.2.2.2.2.2.2.2.2.2.2.2.1 v.2.2.2.2.2.2.2.2.2.2.2.2.2.2.2.2.2.2.2.1 v.2.2.2.2.2.2.2.2.2.2.2.2.2.2.2.2.2.2.2.2 : Option B_u63q)) := fun_FH (F := F12) (L := [(1001200, ll_u37q), (1001201, ll_u38q), (1001202, ll_u39q)]) (t := fun (v : List UInt8 × List UInt8 × List UInt8 × Int × Int × Int × Int × List AV × Bool × Int × Int × Bool × List AV × Bool × Int × Int × Bool × List AV × List AV × List AV × List AV) => tr_u63q v.1 v.2.1 v.2.2.1 v.2.2.2.1 v.2.2.2.2.1 v.2.2.2.2.2.1 v.2.2.2.2.2.2.1 v.2.2.2.2.2.2.2.1 v.2.2.2.2.2.2.2.2.1 v.2.2.2.2.2.2.2.2.2.1 v.2.2.2.2.2.2.2.2.2.2.1 v.2.2.2.2.2.2.2.2.2.2.2.1 v.2.2.2.2.2.2.2.2.2.2.2.2.1 v.2.2.2.2.2.2.2.2.2.2.2.2.2.1 v.2.2.2.2.2.2.2.2.2.2.2.2.2.2.1 v.2.2.2.2.2.2.2.2.2.2.2.2.2.2.2.1 v.2.2.2.2.2.2.2.2.2.2.2.2.2.2.2.2.1 v.2.2.2.2.2.2.2.2.2.2.2.2.2.2.2.2.2.1 v.2.2.2.2.2.2.2.2.2.2.2.2.2.2.2.2.2.2.1 v.2.2.2.2.2.2.2.2.2.2.2.2.2.2.2.2.2.2.2.1 v.2.2.2.2.2.2.2.2.2.2.2.2.2.2.2.2.2.2.2.2) T69_ok (LOk_of (l := [loopAt F12 0, loopAt F12 1, loopAt F12 2]) (by kernel_rfl) ⟨sel_one (by kernel_rfl) t_u37q, sel_one (by kernel_rfl) t_u38q, sel_one (by kernel_rfl) t_u39q, trivial⟩) (by kernel_rfl) (fun v => by kernel_rfl) (fun v => f_u63q_eq v.1 v.2.1 v.2.2.1 v.2.2.2.1 v.2.2.2.2.1 v.2.2.2.2.2.1 v.2.2.2.2.2.2.1 v.2.2.2.2.2.2.2.1 v.2.2.2.2.2.2.2.2.1 v.2.2.2.2.2.2.2.2.2.1 v.2.2.2.2.2.2.2.2.2.2.1 v.2.2.2.2.2.2.2.2.2.2.2.1 v.2.2.2.2.2.2.2.2.2.2.2.2.1 v.2.2.2.2.2.2.2.2.2.2.2.2.2.1 v.2.2.2.2.2.2.2.2.2.2.2.2.2.2.1 v.2.2.2.2.2.2.2.2.2.2.2.2.2.2.2.1 v.2.2.2.2.2.2.2.2.2.2.2.2.2.2.2.2.1 v.2.2.2.2.2.2.2.2.2.2.2.2.2.2.2.2.2.1 v.2.2.2.2.2.2.2.2.2.2.2.2.2.2.2.2.2.2.1 v.2.2.2.2.2.2.2.2.2.2.2.2.2.2.2.2.2.2.2.1 v.2.2.2.2.2.2.2.2.2.2.2.2.2.2.2.2.2.2.2.2)
noncomputable def T70 : Tab := (12, FE p_u63q r_u63q (fun (v : List UInt8 × List UInt8 × List UInt8 × Int × Int × Int × Int × List AV × Bool × Int × Int × Bool × List AV × Bool × Int × Int × Bool × List AV × List AV × List AV × List AV) => (f_u63q v.1 v.2.1 v.2.2.1 v.2.2.2.1 v.2.2.2.2.1 v.2.2.2.2.2.1 v.2.2.2.2.2.2.1 v.2.2.2.2.2.2.2.1 v.2.2.2.2.2.2.2.2.1 v.2.2.2.2.2.2.2.2.2.1 v.2.2.2.2.2.2.2.2.2.2.1 v.2.2.2.2.2.2.2.2.2.2.2.1 v.2.2.2.2.2.2.2.2.2.2.2.2.1 v.2.2.2.2.2.2.2.2.2.2.2.2.2.1 v.2.2.2.2.2.2.2.2.2.2.2.2.2.2.1 v.2.2.2.2.2.2.2.2.2.2.2.2.2.2.2.1 v.2.2.2.2.2.2.2.2.2.2.2.2.2.2.2.2.1 v.2.2.2.2.2.2.2.2.2.2.2.2.2.2.2.2.2.1 v.2.2.2.2.2.2.2.2.2.2.2.2.2.2.2.2.2.2.1 v.2.2.2.2.2.2.2.2.2.2.2.2.2.2.2.2.2.2.2.1 v.2.2.2.2.2.2.2.2.2.2.2.2.2.2.2.2.2.2.2.2 : Option B_u63q))) :: T69
theorem T70_ok : TabOk IP T70 := ⟨FE_ok c_u63q, T69_ok⟩
abbrev B_u51q : Type := Int × Int × List UInt8 × List AV
def p_u51q : PArgs := ⟨[.agg [.int .i64, .int .i64, .str, .view 4]], []⟩
def r_u51q : List PRes := [⟨false, .agg [.int .i64, .int .i64, .str, .view 4], []⟩]
abbrev GT_u51q : Type := Int → Int → (List UInt8) → (List AV) → Option B_u51q
def GH_u51q (G_u51q : GT_u51q) : Prop := FH IP 40 p_u51q r_u51q (fun (v : Int × Int × List UInt8 × List AV) => (G_u51q v.1 v.2.1 v.2.2.1 v.2.2.2 : Option B_u51q))
noncomputable def TG_u51q (G_u51q : GT_u51q) : Tab := (40, FE p_u51q r_u51q (fun (v : Int × Int × List UInt8 × List AV) => (G_u51q v.1 v.2.1 v.2.2.1 v.2.2.2 : Option B_u51q))) :: T70
theorem TG_u51q_ok (G_u51q : GT_u51q) (hG : GH_u51q G_u51q) : TabOk IP (TG_u51q G_u51q) := ⟨FE_ok (hG), T70_ok⟩
abbrev TT_u33q : Type := (Int × Int × Int × Int × List UInt8 × Int × Int × List UInt8) ⊕ (Int × Int × Int × Int × List UInt8 × Int × Int × List UInt8 × List AV)
def hs_u33q : List PSt := [⟨[(1004000, .junk), (1, .ref 0 0 0), (2, .ref 1 0 0), (10, .int .i64), (11, .int .i64)], [(0, .box [.int .i64, .int .i64, .str, .nils ⟨4, .any⟩] false), (1, .box [.int .i64, .int .i64, .str, .nils 4] false)], 2, 0⟩, ⟨[(1004000, .junk), (1, .ref 0 0 0), (2, .ref 1 0 0), (10, .int .i64), (11, .int .i64)], [(0, .box [.int .i64, .int .i64, .str, .own 2 0] false), (1, .box [.int .i64, .int .i64, .str, .nils 4] false), (2, .arr 4 false)], 3, 0⟩]
noncomputable def x_u33q_0 (x0 x1 : Int) (x2 x3 : Int) (x4 : List UInt8) (x5 x6 : Int) (x7 : List UInt8) : X × St := (X.exit 0,
  { tm := [(1, AV.ref 0 0 0), (2, AV.ref 1 0 0)],
    hp :=
      [(0, Blk.box [AV.int IntKind.i64 x2, AV.int IntKind.i64 x3, AV.str x4, AV.nils { sz := 4, kd := NKd.any }] false),
        (1, Blk.box [AV.int IntKind.i64 x5, AV.int IntKind.i64 x6, AV.str x7, AV.nils { sz := 4, kd := NKd.nil }] false)],
    nx := 2, k := 0 })
noncomputable def x_u33q_1 (x0 x1 : Int) (x2 x3 : Int) (x4 : List UInt8) (x5 x6 : Int) (x7 : List UInt8) (x8 : List AV) : X × St := (X.exit 0,
  { tm := [(1, AV.ref 0 0 0), (2, AV.ref 1 0 0)],
    hp :=
      [(0, Blk.box [AV.int IntKind.i64 x2, AV.int IntKind.i64 x3, AV.str x4, AV.own 2 0 none] false),
        (1, Blk.box [AV.int IntKind.i64 x5, AV.int IntKind.i64 x6, AV.str x7, AV.nils { sz := 4, kd := NKd.nil }] false), (2, Blk.arr 4 x8 false)],
    nx := 3, k := 0 })
noncomputable def x_u33q : List (TT_u33q → X × St) := [fun w => x_u33q_0 (sl w).1 (sl w).2.1 (sl w).2.2.1 (sl w).2.2.2.1 (sl w).2.2.2.2.1 (sl w).2.2.2.2.2.1 (sl w).2.2.2.2.2.2.1 (sl w).2.2.2.2.2.2.2, fun w => x_u33q_1 (sr w).1 (sr w).2.1 (sr w).2.2.1 (sr w).2.2.2.1 (sr w).2.2.2.2.1 (sr w).2.2.2.2.2.1 (sr w).2.2.2.2.2.2.1 (sr w).2.2.2.2.2.2.2.1 (sr w).2.2.2.2.2.2.2.2]
noncomputable def st_u33q_0 (G_u51q : GT_u51q) (x0 x1 : Int) (x2 x3 : Int) (x4 : List UInt8) (x5 x6 : Int) (x7 : List UInt8) : DT (Rd TT_u33q) :=
 .br (decide (x1 < x0)) (.no) (.at (.done 0))
noncomputable def st_u33q_1 (G_u51q : GT_u51q) (x0 x1 : Int) (x2 x3 : Int) (x4 : List UInt8) (x5 x6 : Int) (x7 : List UInt8) (x8 : List AV) : DT (Rd TT_u33q) :=
 .br (decide (x1 < x0))
  (.br (inB x8.length x1)
   (.br (okP [CS.int IntKind.i64, CS.int IntKind.i64, CS.str, CS.slice 4] x8 x1.toNat 0)
    (.bi (G_u51q (intOf (cellN x8 x1.toNat 0)) (intOf (cellN x8 x1.toNat 1)) (strOf (cellN x8 x1.toNat 2)) (viewOf (cellN x8 x1.toNat 3))) (fun y0 =>
     .br (inB x8.length x1)
      (.br (okS x8 x1.toNat 0 4)
       (.at (.next ((.inr (x0, IntKind.i64.wrap (x1 + 1), x2, x3, x4, x5, x6, x7, setE x8 x1.toNat 0 [AV.int IntKind.i64 y0.1, AV.int IntKind.i64 y0.2.1, AV.str y0.2.2.1, AV.view 4 y0.2.2.2])))))
       (.no))
      (.no))
     (.no))
    (.no))
   (.no))
  (.at (.done 1))
noncomputable def st_u33q (G_u51q : GT_u51q) : TT_u33q → DT (Rd TT_u33q) := (Sum.elim (fun v => st_u33q_0 G_u51q v.1 v.2.1 v.2.2.1 v.2.2.2.1 v.2.2.2.2.1 v.2.2.2.2.2.1 v.2.2.2.2.2.2.1 v.2.2.2.2.2.2.2) (fun v => st_u33q_1 G_u51q v.1 v.2.1 v.2.2.1 v.2.2.2.1 v.2.2.2.2.1 v.2.2.2.2.2.1 v.2.2.2.2.2.2.1 v.2.2.2.2.2.2.2.1 v.2.2.2.2.2.2.2.2))
noncomputable def l_u33q (G_u51q : GT_u51q) (v : TT_u33q) : Option (Nat × TT_u33q) := lock (iterO (fun v => (st_u33q G_u51q v).ev) v)
theorem l_u33q_eq (G_u51q : GT_u51q) (v : TT_u33q) : l_u33q G_u51q v = iterO (fun v => (st_u33q G_u51q v).ev) v := lock_eq _
noncomputable def ll_u33q (G_u51q : GT_u51q) : LEnt := LE (τ := TT_u33q) (hD hs_u33q) (l_u33q G_u51q) x_u33q
theorem t_u33q (G_u51q : GT_u51q) (hG : GH_u51q G_u51q) : Go.Eng.Told IP (loopAt F40 0).1 (loopAt F40 0).2 (ll_u33q G_u51q) := loop_LE (inferInstance : Inhabited TT_u33q) (hs := hs_u33q) (st := st_u33q G_u51q) (L := []) (TG_u51q_ok G_u51q hG) (LOk_of (l := []) (by kernel_rfl) trivial) (l_u33q_eq G_u51q) (fun v => match v with | (.inl v) => by kernel_rfl | (.inr v) => by kernel_rfl) (fun v => match v with | (.inl v) => by kernel_rfl | (.inr v) => by kernel_rfl)
noncomputable def tr_u51q (G_u51q : GT_u51q) (x0 x1 : Int) (x2 : List UInt8) (x3 : List AV) : DT B_u51q :=
 .br (decide (x3.length = 0))
  (.bi (pj 0 (l_u33q G_u51q (Sum.inl (0, 0, x0, x1, x2, 0, 0, [])))) (fun y0 =>
   .at (((sl y0).2.2.1, (sl y0).2.2.2.1, (sl y0).2.2.2.2.1, [])))
   (.bi (pj 1 (l_u33q G_u51q (Sum.inl (0, 0, x0, x1, x2, 0, 0, [])))) (fun y0 =>
    .at (((sr y0).2.2.1, (sr y0).2.2.2.1, (sr y0).2.2.2.2.1, (sr y0).2.2.2.2.2.2.2.2)))
    (.no)))
  (.br (decide (x3.length ≠ 0) && decide (x3.length * 56 ≤ lim))
   (.bi (pj 0 (l_u33q G_u51q (Sum.inr ((↑x3.length : Int), 0, x0, x1, x2, 0, 0, [], x3)))) (fun y0 =>
    .at (((sl y0).2.2.1, (sl y0).2.2.2.1, (sl y0).2.2.2.2.1, [])))
    (.bi (pj 1 (l_u33q G_u51q (Sum.inr ((↑x3.length : Int), 0, x0, x1, x2, 0, 0, [], x3)))) (fun y0 =>
     .at (((sr y0).2.2.1, (sr y0).2.2.2.1, (sr y0).2.2.2.2.1, (sr y0).2.2.2.2.2.2.2.2)))
     (.no)))
   (.no))
noncomputable def N_u51q : Nat → GT_u51q
  | 0 => fun _ _ _ _ => none
  | n + 1 => fun x0 x1 x2 x3 => (tr_u51q ((N_u51q n)) x0 x1 x2 x3).ev
noncomputable def f_u51q (x0 x1 : Int) (x2 : List UInt8) (x3 : List AV) : Option B_u51q := limO fun n => (N_u51q n) x0 x1 x2 x3
theorem N_u51q_ok : ∀ n, GH_u51q ((N_u51q n))
  | 0 => (fun v y h => nomatch h)
  | n + 1 => have hG := N_u51q_ok n
    fun_FH (F := F40) (L := [(1004000, ll_u33q ((N_u51q n)))]) (t := fun (v : Int × Int × List UInt8 × List AV) => tr_u51q ((N_u51q n)) v.1 v.2.1 v.2.2.1 v.2.2.2) (TG_u51q_ok ((N_u51q n)) hG) (LOk_of (l := [loopAt F40 0]) (by kernel_rfl) ⟨sel_one (by kernel_rfl) (t_u33q ((N_u51q n)) hG), trivial⟩) (by kernel_rfl) (fun v => by kernel_rfl) (fun v => rfl)
theorem c_u51q : FH IP 40 p_u51q r_u51q (fun (v : Int × Int × List UInt8 × List AV) => (f_u51q v.1 v.2.1 v.2.2.1 v.2.2.2 : Option B_u51q)) := lim_FH (p := p_u51q) (rs := r_u51q) (s := fun n (v : Int × Int × List UInt8 × List AV) => (N_u51q n) v.1 v.2.1 v.2.2.1 v.2.2.2) fun n => (N_u51q_ok n)
noncomputable def T71 : Tab := (40, FE p_u51q r_u51q (fun (v : Int × Int × List UInt8 × List AV) => (f_u51q v.1 v.2.1 v.2.2.1 v.2.2.2 : Option B_u51q))) :: T70
theorem T71_ok : TabOk IP T71 := ⟨FE_ok c_u51q, T70_ok⟩
abbrev TT_u46q : Type := (Int × List AV × Int × Int) ⊕ (Int × List AV × Int × Int × List AV)
def hs_u46q : List PSt := [⟨[(1001800, .junk), (1, .int .i64), (5, .nils 10), (9, .view 10), (10, .int .i64), (11, .int .i64)], [], 0, 0⟩, ⟨[(1001800, .junk), (1, .int .i64), (5, .own 0 0), (9, .view 10), (10, .int .i64), (11, .int .i64)], [(0, .arr 10 false)], 1, 0⟩]
noncomputable def x_u46q_0 (x0 : Int) (x1 : List AV) (x2 x3 : Int) : X × St := (X.exit 0, { tm := [(5, AV.nils { sz := 10, kd := NKd.nil })], hp := [], nx := 0, k := 0 })
noncomputable def x_u46q_1 (x0 : Int) (x1 : List AV) (x2 x3 : Int) (x4 : List AV) : X × St := (X.exit 0, { tm := [(5, AV.own 0 0 none)], hp := [(0, Blk.arr 10 x4 false)], nx := 1, k := 0 })
noncomputable def x_u46q : List (TT_u46q → X × St) := [fun w => x_u46q_0 (sl w).1 (sl w).2.1 (sl w).2.2.1 (sl w).2.2.2, fun w => x_u46q_1 (sr w).1 (sr w).2.1 (sr w).2.2.1 (sr w).2.2.2.1 (sr w).2.2.2.2]
noncomputable def st_u46q_0 (x0 : Int) (x1 : List AV) (x2 x3 : Int) : DT (Rd TT_u46q) :=
 .br (decide (x3 < x2))
  (.br (okAt [CS.str, CS.int IntKind.i64, CS.int IntKind.i64, CS.int IntKind.i64, CS.str, CS.slice 4, CS.int IntKind.i64, CS.int IntKind.i64, CS.str, CS.slice 4] x1 x3)
   (.br (intOf (cellAt x1 x3 1) == x0)
    (.bi (f_u51q (intOf (cellAt x1 x3 2)) (intOf (cellAt x1 x3 3)) (strOf (cellAt x1 x3 4)) (viewOf (cellAt x1 x3 5))) (fun y0 =>
     .bi (f_u51q (intOf (cellAt x1 x3 6)) (intOf (cellAt x1 x3 7)) (strOf (cellAt x1 x3 8)) (viewOf (cellAt x1 x3 9))) (fun y1 =>
      .at (.next ((.inr (x0, x1, x2, IntKind.i64.wrap (x3 + 1), [AV.agg
    [AV.str (strOf (cellAt x1 x3 0)), AV.int IntKind.i64 (intOf (cellAt x1 x3 1)), AV.int IntKind.i64 y0.1, AV.int IntKind.i64 y0.2.1, AV.str y0.2.2.1,
      AV.view 4 y0.2.2.2, AV.int IntKind.i64 y1.1, AV.int IntKind.i64 y1.2.1, AV.str y1.2.2.1, AV.view 4 y1.2.2.2]])))))
      (.no))
     (.no))
    (.at (.next ((.inl (x0, x1, x2, IntKind.i64.wrap (x3 + 1)))))))
   (.no))
  (.at (.done 0))
noncomputable def st_u46q_1 (x0 : Int) (x1 : List AV) (x2 x3 : Int) (x4 : List AV) : DT (Rd TT_u46q) :=
 .br (decide (x3 < x2))
  (.br (okAt [CS.str, CS.int IntKind.i64, CS.int IntKind.i64, CS.int IntKind.i64, CS.str, CS.slice 4, CS.int IntKind.i64, CS.int IntKind.i64, CS.str, CS.slice 4] x1 x3)
   (.br (intOf (cellAt x1 x3 1) == x0)
    (.bi (f_u51q (intOf (cellAt x1 x3 2)) (intOf (cellAt x1 x3 3)) (strOf (cellAt x1 x3 4)) (viewOf (cellAt x1 x3 5))) (fun y0 =>
     .bi (f_u51q (intOf (cellAt x1 x3 6)) (intOf (cellAt x1 x3 7)) (strOf (cellAt x1 x3 8)) (viewOf (cellAt x1 x3 9))) (fun y1 =>
      .br (room (x4.length + 1) 136)
       (.at (.next ((.inr (x0, x1, x2, IntKind.i64.wrap (x3 + 1), x4 ++
  [AV.agg
      [AV.str (strOf (cellAt x1 x3 0)), AV.int IntKind.i64 (intOf (cellAt x1 x3 1)), AV.int IntKind.i64 y0.1, AV.int IntKind.i64 y0.2.1, AV.str y0.2.2.1,
        AV.view 4 y0.2.2.2, AV.int IntKind.i64 y1.1, AV.int IntKind.i64 y1.2.1, AV.str y1.2.2.1, AV.view 4 y1.2.2.2]])))))
       (.no))
      (.no))
     (.no))
    (.at (.next ((.inr (x0, x1, x2, IntKind.i64.wrap (x3 + 1), x4))))))
   (.no))
  (.at (.done 1))
noncomputable def st_u46q : TT_u46q → DT (Rd TT_u46q) := (Sum.elim (fun v => st_u46q_0 v.1 v.2.1 v.2.2.1 v.2.2.2) (fun v => st_u46q_1 v.1 v.2.1 v.2.2.1 v.2.2.2.1 v.2.2.2.2))
noncomputable def l_u46q (v : TT_u46q) : Option (Nat × TT_u46q) := lock (iterO (fun v => (st_u46q v).ev) v)
theorem l_u46q_eq (v : TT_u46q) : l_u46q v = iterO (fun v => (st_u46q v).ev) v := lock_eq _
noncomputable def ll_u46q : LEnt := LE (τ := TT_u46q) (hD hs_u46q) (l_u46q) x_u46q
theorem t_u46q : Go.Eng.Told IP (loopAt F18 0).1 (loopAt F18 0).2 (ll_u46q) := loop_LE (inferInstance : Inhabited TT_u46q) (hs := hs_u46q) (st := st_u46q) (L := []) T71_ok (LOk_of (l := []) (by kernel_rfl) trivial) (l_u46q_eq) (fun v => match v with | (.inl v) => by kernel_rfl | (.inr v) => by kernel_rfl) (fun v => match v with | (.inl v) => by kernel_rfl | (.inr v) => by kernel_rfl)
abbrev B_u74q : Type := List AV
def p_u74q : PArgs := ⟨[.agg [.str, .str, .str, .int .i64, .int .i64, .int .i64, .int .i64, .view 2, .bool, .int .i64, .int .i64, .bool, .view 2, .bool, .int .i64, .int .i64, .bool, .view 10, .view 6], .int .i64], []⟩
def r_u74q : List PRes := [⟨false, .view 10, []⟩]
noncomputable def tr_u74q (x0 x1 x2 : List UInt8) (x3 x4 : Int) (x5 x6 : Int) (x7 : List AV) (x8 : Bool) (x9 x10 : Int) (x11 : Bool) (x12 : List AV) (x13 : Bool) (x14 x15 : Int) (x16 : Bool) (x17 x18 : List AV) (x19 : Int) : DT B_u74q :=
 .bi (pj 0 (l_u46q (Sum.inl (x19, x17, (↑x17.length : Int), 0)))) (fun y0 =>
  .at ([]))
  (.bi (pj 1 (l_u46q (Sum.inl (x19, x17, (↑x17.length : Int), 0)))) (fun y0 =>
   .at ((sr y0).2.2.2.2))
   (.no))
noncomputable def f_u74q (x0 x1 x2 : List UInt8) (x3 x4 : Int) (x5 x6 : Int) (x7 : List AV) (x8 : Bool) (x9 x10 : Int) (x11 : Bool) (x12 : List AV) (x13 : Bool) (x14 x15 : Int) (x16 : Bool) (x17 x18 : List AV) (x19 : Int) : Option B_u74q := lock (tr_u74q x0 x1 x2 x3 x4 x5 x6 x7 x8 x9 x10 x11 x12 x13 x14 x15 x16 x17 x18 x19).ev
theorem f_u74q_eq (x0 x1 x2 : List UInt8) (x3 x4 : Int) (x5 x6 : Int) (x7 : List AV) (x8 : Bool) (x9 x10 : Int) (x11 : Bool) (x12 : List AV) (x13 : Bool) (x14 x15 : Int) (x16 : Bool) (x17 x18 : List AV) (x19 : Int) : f_u74q x0 x1 x2 x3 x4 x5 x6 x7 x8 x9 x10 x11 x12 x13 x14 x15 x16 x17 x18 x19 = (tr_u74q x0 x1 x2 x3 x4 x5 x6 x7 x8 x9 x10 x11 x12 x13 x14 x15 x16 x17 x18 x19).ev := lock_eq _
theorem c_u74q : FH IP 18 p_u74q r_u74q (fun (v : List UInt8 × List UInt8 × List UInt8 × Int × Int × Int × Int × List AV × Bool × Int × Int × Bool × List AV × Bool × Int × Int × Bool × List AV × List AV × Int) => (f_u74q v.1 v.2.1 v.2.2.1 v.2.2.2.1 v.2.2.2.2.1 v.2.2.2.2.2.1 v.2.2.2.2.2.2.1 v.2.2.2.2.2.2.2.1 v.2.2.2.2.2.2.2.2.1 v.2.2.2.2.2.2.2.2.2.1 v.2.2.2.2.2.2.2.2.2.2.1 v.2.2.2.2.2.2.2.2.2.2.2.1 v.2.2.2.2.2.2.2.2.2.2.2.2.1 v.2.2.2.2.2.2.2.2.2.2.2.2.2.1 v.2.2.2.2.2.2.2.2.2.2.2.2.2.2.1 v.2.2.2.2.2.2.2.2.2.2.2.2.2.2.2.1 v.2.2.2.2.2.2.2.2.2.2.2.2.2.2.2.2.1 v.2.2.2.2.2.2.2.2.2.2.2.2.2.2.2.2.2.1 v.2.2.2.2.2.2.2.2.2.2.2.2.2.2.2.2.2.2.1 v.2.2.2.2.2.2.2.2.2.2.2.2.2.2.2.2.2.2.2 : Option B_u74q)) := fun_FH (F := F18) (L := [(1001800, ll_u46q)]) (t := fun (v : List UInt8 × List UInt8 × List UInt8 × Int × Int × Int × Int × List AV × Bool × Int × Int × Bool × List AV × Bool × Int × Int × Bool × List AV × List AV × Int) => tr_u74q v.1 v.2.1 v.2.2.1 v.2.2.2.1 v.2.2.2.2.1 v.2.2.2.2.2.1 v.2.2.2.2.2.2.1 v.2.2.2.2.2.2.2.1 v.2.2.2.2.2.2.2.2.1 v.2.2.2.2.2.2.2.2.2.1 v.2.2.2.2.2.2.2.2.2.2.1 v.2.2.2.2.2.2.2.2.2.2.2.1 v.2.2.2.2.2.2.2.2.2.2.2.2.1 v.2.2.2.2.2.2.2.2.2.2.2.2.2.1 v.2.2.2.2.2.2.2.2.2.2.2.2.2.2.1 v.2.2.2.2.2.2.2.2.2.2.2.2.2.2.2.1 v.2.2.2.2.2.2.2.2.2.2.2.2.2.2.2.2.1 v.2.2.2.2.2.2.2.2.2.2.2.2.2.2.2.2.2.1 v.2.2.2.2.2.2.2.2.2.2.2.2.2.2.2.2.2.2.1 v.2.2.2.2.2.2.2.2.2.2.2.2.2.2.2.2.2.2.2) T71_ok (LOk_of (l := [loopAt F18 0]) (by kernel_rfl) ⟨sel_one (by kernel_rfl) t_u46q, trivial⟩) (by kernel_rfl) (fun v => by kernel_rfl) (fun v => f_u74q_eq v.1 v.2.1 v.2.2.1 v.2.2.2.1 v.2.2.2.2.1 v.2.2.2.2.2.1 v.2.2.2.2.2.2.1 v.2.2.2.2.2.2.2.1 v.2.2.2.2.2.2.2.2.1 v.2.2.2.2.2.2.2.2.2.1 v.2.2.2.2.2.2.2.2.2.2.1 v.2.2.2.2.2.2.2.2.2.2.2.1 v.2.2.2.2.2.2.2.2.2.2.2.2.1 v.2.2.2.2.2.2.2.2.2.2.2.2.2.1 v.2.2.2.2.2.2.2.2.2.2.2.2.2.2.1 v.2.2.2.2.2.2.2.2.2.2.2.2.2.2.2.1 v.2.2.2.2.2.2.2.2.2.2.2.2.2.2.2.2.1 v.2.2.2.2.2.2.2.2.2.2.2.2.2.2.2.2.2.1 v.2.2.2.2.2.2.2.2.2.2.2.2.2.2.2.2.2.2.1 v.2.2.2.2.2.2.2.2.2.2.2.2.2.2.2.2.2.2.2)
noncomputable def T72 : Tab := (18, FE p_u74q r_u74q (fun (v : List UInt8 × List UInt8 × List UInt8 × Int × Int × Int × Int × List AV × Bool × Int × Int × Bool × List AV × Bool × Int × Int × Bool × List AV × List AV × Int) => (f_u74q v.1 v.2.1 v.2.2.1 v.2.2.2.1 v.2.2.2.2.1 v.2.2.2.2.2.1 v.2.2.2.2.2.2.1 v.2.2.2.2.2.2.2.1 v.2.2.2.2.2.2.2.2.1 v.2.2.2.2.2.2.2.2.2.1 v.2.2.2.2.2.2.2.2.2.2.1 v.2.2.2.2.2.2.2.2.2.2.2.1 v.2.2.2.2.2.2.2.2.2.2.2.2.1 v.2.2.2.2.2.2.2.2.2.2.2.2.2.1 v.2.2.2.2.2.2.2.2.2.2.2.2.2.2.1 v.2.2.2.2.2.2.2.2.2.2.2.2.2.2.2.1 v.2.2.2.2.2.2.2.2.2.2.2.2.2.2.2.2.1 v.2.2.2.2.2.2.2.2.2.2.2.2.2.2.2.2.2.1 v.2.2.2.2.2.2.2.2.2.2.2.2.2.2.2.2.2.2.1 v.2.2.2.2.2.2.2.2.2.2.2.2.2.2.2.2.2.2.2 : Option B_u74q))) :: T71
theorem T72_ok : TabOk IP T72 := ⟨FE_ok c_u74q, T71_ok⟩
abbrev B_u76q : Type := List AV × Bool × Int × Int × Bool
def p_u76q : PArgs := ⟨[.agg [.str, .str, .str, .int .i64, .int .i64, .int .i64, .int .i64, .view 2, .bool, .int .i64, .int .i64, .bool, .view 2, .bool, .int .i64, .int .i64, .bool, .view 10, .view 6], .int .i64], []⟩
def r_u76q : List PRes := [⟨false, .agg [.view 2, .bool, .int .i64, .int .i64, .bool], []⟩]
noncomputable def tr_u76q (x0 x1 x2 : List UInt8) (x3 x4 : Int) (x5 x6 : Int) (x7 : List AV) (x8 : Bool) (x9 x10 : Int) (x11 : Bool) (x12 : List AV) (x13 : Bool) (x14 x15 : Int) (x16 : Bool) (x17 x18 : List AV) (x19 : Int) : DT B_u76q :=
 .br (decide (x19 < 0))
  (.br (decide (x12.length = 0))
   (.at (([], x13, x14, x15, x16)))
   (.br (decide (x12.length ≠ 0) && decide (x12.length * 16 ≤ lim)) (.at ((x12, x13, x14, x15, x16))) (.no)))
  (.br (decide (x7.length = 0))
   (.at (([], x8, x9, x10, x11)))
   (.br (decide (x7.length ≠ 0) && decide (x7.length * 16 ≤ lim)) (.at ((x7, x8, x9, x10, x11))) (.no)))
noncomputable def f_u76q (x0 x1 x2 : List UInt8) (x3 x4 : Int) (x5 x6 : Int) (x7 : List AV) (x8 : Bool) (x9 x10 : Int) (x11 : Bool) (x12 : List AV) (x13 : Bool) (x14 x15 : Int) (x16 : Bool) (x17 x18 : List AV) (x19 : Int) : Option B_u76q := lock (tr_u76q x0 x1 x2 x3 x4 x5 x6 x7 x8 x9 x10 x11 x12 x13 x14 x15 x16 x17 x18 x19).ev
theorem f_u76q_eq (x0 x1 x2 : List UInt8) (x3 x4 : Int) (x5 x6 : Int) (x7 : List AV) (x8 : Bool) (x9 x10 : Int) (x11 : Bool) (x12 : List AV) (x13 : Bool) (x14 x15 : Int) (x16 : Bool) (x17 x18 : List AV) (x19 : Int) : f_u76q x0 x1 x2 x3 x4 x5 x6 x7 x8 x9 x10 x11 x12 x13 x14 x15 x16 x17 x18 x19 = (tr_u76q x0 x1 x2 x3 x4 x5 x6 x7 x8 x9 x10 x11 x12 x13 x14 x15 x16 x17 x18 x19).ev := lock_eq _
theorem c_u76q : FH IP 15 p_u76q r_u76q (fun (v : List UInt8 × List UInt8 × List UInt8 × Int × Int × Int × Int × List AV × Bool × Int × Int × Bool × List AV × Bool × Int × Int × Bool × List AV × List AV × Int) => (f_u76q v.1 v.2.1 v.2.2.1 v.2.2.2.1 v.2.2.2.2.1 v.2.2.2.2.2.1 v.2.2.2.2.2.2.1 v.2.2.2.2.2.2.2.1 v.2.2.2.2.2.2.2.2.1 v.2.2.2.2.2.2.2.2.2.1 v.2.2.2.2.2.2.2.2.2.2.1 v.2.2.2.2.2.2.2.2.2.2.2.1 v.2.2.2.2.2.2.2.2.2.2.2.2.1 v.2.2.2.2.2.2.2.2.2.2.2.2.2.1 v.2.2.2.2.2.2.2.2.2.2.2.2.2.2.1 v.2.2.2.2.2.2.2.2.2.2.2.2.2.2.2.1 v.2.2.2.2.2.2.2.2.2.2.2.2.2.2.2.2.1 v.2.2.2.2.2.2.2.2.2.2.2.2.2.2.2.2.2.1 v.2.2.2.2.2.2.2.2.2.2.2.2.2.2.2.2.2.2.1 v.2.2.2.2.2.2.2.2.2.2.2.2.2.2.2.2.2.2.2 : Option B_u76q)) := fun_FH (F := F15) (L := []) (t := fun (v : List UInt8 × List UInt8 × List UInt8 × Int × Int × Int × Int × List AV × Bool × Int × Int × Bool × List AV × Bool × Int × Int × Bool × List AV × List AV × Int) => tr_u76q v.1 v.2.1 v.2.2.1 v.2.2.2.1 v.2.2.2.2.1 v.2.2.2.2.2.1 v.2.2.2.2.2.2.1 v.2.2.2.2.2.2.2.1 v.2.2.2.2.2.2.2.2.1 v.2.2.2.2.2.2.2.2.2.1 v.2.2.2.2.2.2.2.2.2.2.1 v.2.2.2.2.2.2.2.2.2.2.2.1 v.2.2.2.2.2.2.2.2.2.2.2.2.1 v.2.2.2.2.2.2.2.2.2.2.2.2.2.1 v.2.2.2.2.2.2.2.2.2.2.2.2.2.2.1 v.2.2.2.2.2.2.2.2.2.2.2.2.2.2.2.1 v.2.2.2.2.2.2.2.2.2.2.2.2.2.2.2.2.1 v.2.2.2.2.2.2.2.2.2.2.2.2.2.2.2.2.2.1 v.2.2.2.2.2.2.2.2.2.2.2.2.2.2.2.2.2.2.1 v.2.2.2.2.2.2.2.2.2.2.2.2.2.2.2.2.2.2.2) T72_ok (LOk_of (l := []) (by kernel_rfl) trivial) (by kernel_rfl) (fun v => by kernel_rfl) (fun v => f_u76q_eq v.1 v.2.1 v.2.2.1 v.2.2.2.1 v.2.2.2.2.1 v.2.2.2.2.2.1 v.2.2.2.2.2.2.1 v.2.2.2.2.2.2.2.1 v.2.2.2.2.2.2.2.2.1 v.2.2.2.2.2.2.2.2.2.1 v.2.2.2.2.2.2.2.2.2.2.1 v.2.2.2.2.2.2.2.2.2.2.2.1 v.2.2.2.2.2.2.2.2.2.2.2.2.1 v.2.2.2.2.2.2.2.2.2.2.2.2.2.1 v.2.2.2.2.2.2.2.2.2.2.2.2.2.2.1 v.2.2.2.2.2.2.2.2.2.2.2.2.2.2.2.1 v.2.2.2.2.2.2.2.2.2.2.2.2.2.2.2.2.1 v.2.2.2.2.2.2.2.2.2.2.2.2.2.2.2.2.2.1 v.2.2.2.2.2.2.2.2.2.2.2.2.2.2.2.2.2.2.1 v.2.2.2.2.2.2.2.2.2.2.2.2.2.2.2.2.2.2.2)
noncomputable def T73 : Tab := (15, FE p_u76q r_u76q (fun (v : List UInt8 × List UInt8 × List UInt8 × Int × Int × Int × Int × List AV × Bool × Int × Int × Bool × List AV × Bool × Int × Int × Bool × List AV × List AV × Int) => (f_u76q v.1 v.2.1 v.2.2.1 v.2.2.2.1 v.2.2.2.2.1 v.2.2.2.2.2.1 v.2.2.2.2.2.2.1 v.2.2.2.2.2.2.2.1 v.2.2.2.2.2.2.2.2.1 v.2.2.2.2.2.2.2.2.2.1 v.2.2.2.2.2.2.2.2.2.2.1 v.2.2.2.2.2.2.2.2.2.2.2.1 v.2.2.2.2.2.2.2.2.2.2.2.2.1 v.2.2.2.2.2.2.2.2.2.2.2.2.2.1 v.2.2.2.2.2.2.2.2.2.2.2.2.2.2.1 v.2.2.2.2.2.2.2.2.2.2.2.2.2.2.2.1 v.2.2.2.2.2.2.2.2.2.2.2.2.2.2.2.2.1 v.2.2.2.2.2.2.2.2.2.2.2.2.2.2.2.2.2.1 v.2.2.2.2.2.2.2.2.2.2.2.2.2.2.2.2.2.2.1 v.2.2.2.2.2.2.2.2.2.2.2.2.2.2.2.2.2.2.2 : Option B_u76q))) :: T72
theorem T73_ok : TabOk IP T73 := ⟨FE_ok c_u76q, T72_ok⟩
abbrev TT_u24q : Type := Int × Int × List AV × Bool × Int × Int × Bool × List AV × Bool × Int × Int × Bool
def hs_u24q : List PSt := [⟨[(1004100, .junk), (2, .ref 0 0 0), (3, .ref 1 0 0), (15, .int .i64), (16, .int .i64)], [(0, .box [.view 2, .bool, .int .i64, .int .i64, .bool] false), (1, .box [.view 2, .bool, .int .i64, .int .i64, .bool] false)], 2, 0⟩]
noncomputable def x_u24q_0 (x0 x1 : Int) (x2 : List AV) (x3 : Bool) (x4 x5 : Int) (x6 : Bool) (x7 : List AV) (x8 : Bool) (x9 x10 : Int) (x11 : Bool) : X × St := (X.ret,
  { tm := [(2, AV.ref 0 0 0), (3, AV.ref 1 0 0), (4, AV.bool false)],
    hp :=
      [(0, Blk.box [AV.view 2 x2, AV.bool x3, AV.int IntKind.i64 x4, AV.int IntKind.i64 x5, AV.bool x6] false),
        (1, Blk.box [AV.view 2 x7, AV.bool x8, AV.int IntKind.i64 x9, AV.int IntKind.i64 x10, AV.bool x11] false)],
    nx := 2, k := 0 })
noncomputable def x_u24q_1 (x0 x1 : Int) (x2 : List AV) (x3 : Bool) (x4 x5 : Int) (x6 : Bool) (x7 : List AV) (x8 : Bool) (x9 x10 : Int) (x11 : Bool) : X × St := (X.exit 0,
  { tm := [(2, AV.ref 0 0 0), (3, AV.ref 1 0 0), (4, AV.junk)],
    hp :=
      [(0, Blk.box [AV.view 2 x2, AV.bool x3, AV.int IntKind.i64 x4, AV.int IntKind.i64 x5, AV.bool x6] false),
        (1, Blk.box [AV.view 2 x7, AV.bool x8, AV.int IntKind.i64 x9, AV.int IntKind.i64 x10, AV.bool x11] false)],
    nx := 2, k := 0 })
noncomputable def x_u24q : List (TT_u24q → X × St) := [fun w => x_u24q_0 w.1 w.2.1 w.2.2.1 w.2.2.2.1 w.2.2.2.2.1 w.2.2.2.2.2.1 w.2.2.2.2.2.2.1 w.2.2.2.2.2.2.2.1 w.2.2.2.2.2.2.2.2.1 w.2.2.2.2.2.2.2.2.2.1 w.2.2.2.2.2.2.2.2.2.2.1 w.2.2.2.2.2.2.2.2.2.2.2, fun w => x_u24q_1 w.1 w.2.1 w.2.2.1 w.2.2.2.1 w.2.2.2.2.1 w.2.2.2.2.2.1 w.2.2.2.2.2.2.1 w.2.2.2.2.2.2.2.1 w.2.2.2.2.2.2.2.2.1 w.2.2.2.2.2.2.2.2.2.1 w.2.2.2.2.2.2.2.2.2.2.1 w.2.2.2.2.2.2.2.2.2.2.2]
noncomputable def st_u24q_0 (x0 x1 : Int) (x2 : List AV) (x3 : Bool) (x4 x5 : Int) (x6 : Bool) (x7 : List AV) (x8 : Bool) (x9 x10 : Int) (x11 : Bool) : DT (Rd TT_u24q) :=
 .br (decide (x1 < x0))
  (.br (okAt [CS.int IntKind.i64, CS.int IntKind.i64] x2 x1)
   (.br (okAt [CS.int IntKind.i64, CS.int IntKind.i64] x7 x1)
    (.br (if true = true then !(intOf (cellAt x2 x1 0) == intOf (cellAt x7 x1 0) && (intOf (cellAt x2 x1 1) == intOf (cellAt x7 x1 1) && true))
      else intOf (cellAt x2 x1 0) == intOf (cellAt x7 x1 0) && (intOf (cellAt x2 x1 1) == intOf (cellAt x7 x1 1) && true))
     (.at (.done 0))
     (.at (.next ((x0, IntKind.i64.wrap (x1 + 1), x2, x3, x4, x5, x6, x7, x8, x9, x10, x11)))))
    (.no))
   (.no))
  (.at (.done 1))
noncomputable def st_u24q : TT_u24q → DT (Rd TT_u24q) := (fun v => st_u24q_0 v.1 v.2.1 v.2.2.1 v.2.2.2.1 v.2.2.2.2.1 v.2.2.2.2.2.1 v.2.2.2.2.2.2.1 v.2.2.2.2.2.2.2.1 v.2.2.2.2.2.2.2.2.1 v.2.2.2.2.2.2.2.2.2.1 v.2.2.2.2.2.2.2.2.2.2.1 v.2.2.2.2.2.2.2.2.2.2.2)
noncomputable def l_u24q (v : TT_u24q) : Option (Nat × TT_u24q) := lock (iterO (fun v => (st_u24q v).ev) v)
theorem l_u24q_eq (v : TT_u24q) : l_u24q v = iterO (fun v => (st_u24q v).ev) v := lock_eq _
noncomputable def ll_u24q : LEnt := LE (τ := TT_u24q) (hD hs_u24q) (l_u24q) x_u24q
theorem t_u24q : Go.Eng.Told IP (loopAt F41 0).1 (loopAt F41 0).2 (ll_u24q) := loop_LE (inferInstance : Inhabited TT_u24q) (hs := hs_u24q) (st := st_u24q) (L := []) T73_ok (LOk_of (l := []) (by kernel_rfl) trivial) (l_u24q_eq) (fun v => by kernel_rfl) (fun v => by kernel_rfl)
abbrev B_u25q : Type := Bool
def p_u25q : PArgs := ⟨[.agg [.view 2, .bool, .int .i64, .int .i64, .bool], .agg [.view 2, .bool, .int .i64, .int .i64, .bool]], []⟩
def r_u25q : List PRes := [⟨false, .bool, []⟩]
noncomputable def tr_u25q (x0 : List AV) (x1 : Bool) (x2 x3 : Int) (x4 : Bool) (x5 : List AV) (x6 : Bool) (x7 x8 : Int) (x9 : Bool) : DT B_u25q :=
 .br ((↑x0.length : Int) != (↑x5.length : Int))
  (.at (false))
  (.bi (pj 0 (l_u24q ((↑x0.length : Int), 0, x0, x1, x2, x3, x4, x5, x6, x7, x8, x9))) (fun y0 =>
   .at (false))
   (.bi (pj 1 (l_u24q ((↑x0.length : Int), 0, x0, x1, x2, x3, x4, x5, x6, x7, x8, x9))) (fun y0 =>
    .bi (br (if false = true then !y0.2.2.2.1 == y0.2.2.2.2.2.2.2.2.1 else y0.2.2.2.1 == y0.2.2.2.2.2.2.2.2.1)
        (some (y0.2.2.2.2.1 == y0.2.2.2.2.2.2.2.2.2.1)) (some false)) (fun y1 =>
     .bi (br y1 (some (y0.2.2.2.2.2.1 == y0.2.2.2.2.2.2.2.2.2.2.1)) (some false)) (fun y2 =>
      .bi (br y2
          (some
            (if false = true then !y0.2.2.2.2.2.2.1 == y0.2.2.2.2.2.2.2.2.2.2.2
            else y0.2.2.2.2.2.2.1 == y0.2.2.2.2.2.2.2.2.2.2.2))
          (some false)) (fun y3 =>
       .at (y3))
       (.no))
      (.no))
     (.no))
    (.no)))
noncomputable def f_u25q (x0 : List AV) (x1 : Bool) (x2 x3 : Int) (x4 : Bool) (x5 : List AV) (x6 : Bool) (x7 x8 : Int) (x9 : Bool) : Option B_u25q := lock (tr_u25q x0 x1 x2 x3 x4 x5 x6 x7 x8 x9).ev
theorem f_u25q_eq (x0 : List AV) (x1 : Bool) (x2 x3 : Int) (x4 : Bool) (x5 : List AV) (x6 : Bool) (x7 x8 : Int) (x9 : Bool) : f_u25q x0 x1 x2 x3 x4 x5 x6 x7 x8 x9 = (tr_u25q x0 x1 x2 x3 x4 x5 x6 x7 x8 x9).ev := lock_eq _
theorem c_u25q : FH IP 41 p_u25q r_u25q (fun (v : List AV × Bool × Int × Int × Bool × List AV × Bool × Int × Int × Bool) => (f_u25q v.1 v.2.1 v.2.2.1 v.2.2.2.1 v.2.2.2.2.1 v.2.2.2.2.2.1 v.2.2.2.2.2.2.1 v.2.2.2.2.2.2.2.1 v.2.2.2.2.2.2.2.2.1 v.2.2.2.2.2.2.2.2.2 : Option B_u25q)) := fun_FH (F := F41) (L := [(1004100, ll_u24q)]) (t := fun (v : List AV × Bool × Int × Int × Bool × List AV × Bool × Int × Int × Bool) => tr_u25q v.1 v.2.1 v.2.2.1 v.2.2.2.1 v.2.2.2.2.1 v.2.2.2.2.2.1 v.2.2.2.2.2.2.1 v.2.2.2.2.2.2.2.1 v.2.2.2.2.2.2.2.2.1 v.2.2.2.2.2.2.2.2.2) T73_ok (LOk_of (l := [loopAt F41 0]) (by kernel_rfl) ⟨sel_one (by kernel_rfl) t_u24q, trivial⟩) (by kernel_rfl) (fun v => by kernel_rfl) (fun v => f_u25q_eq v.1 v.2.1 v.2.2.1 v.2.2.2.1 v.2.2.2.2.1 v.2.2.2.2.2.1 v.2.2.2.2.2.2.1 v.2.2.2.2.2.2.2.1 v.2.2.2.2.2.2.2.2.1 v.2.2.2.2.2.2.2.2.2)
noncomputable def T74 : Tab := (41, FE p_u25q r_u25q (fun (v : List AV × Bool × Int × Int × Bool × List AV × Bool × Int × Int × Bool) => (f_u25q v.1 v.2.1 v.2.2.1 v.2.2.2.1 v.2.2.2.2.1 v.2.2.2.2.2.1 v.2.2.2.2.2.2.1 v.2.2.2.2.2.2.2.1 v.2.2.2.2.2.2.2.2.1 v.2.2.2.2.2.2.2.2.2 : Option B_u25q))) :: T73
theorem T74_ok : TabOk IP T74 := ⟨FE_ok c_u25q, T73_ok⟩
abbrev B_u118q : Type := Bool
def p_u118q : PArgs := ⟨[.agg [.int .i64, .int .i64, .str, .view 4], .agg [.int .i64, .int .i64, .str, .view 4]], []⟩
def r_u118q : List PRes := [⟨false, .bool, []⟩]
abbrev GT_u118q : Type := Int → Int → (List UInt8) → (List AV) → Int → Int → (List UInt8) → (List AV) → Option B_u118q
abbrev B_u2q : Type := Bool
def p_u2q : PArgs := ⟨[.view 4, .view 4, .fn (.func 44) []], []⟩
def r_u2q : List PRes := [⟨false, .bool, []⟩]
abbrev GT_u2q : Type := (List AV) → (List AV) → Option B_u2q
def GH_u118q (G_u118q : GT_u118q) (G_u2q : GT_u2q) : Prop := FH IP 44 p_u118q r_u118q (fun (v : Int × Int × List UInt8 × List AV × Int × Int × List UInt8 × List AV) => (G_u118q v.1 v.2.1 v.2.2.1 v.2.2.2.1 v.2.2.2.2.1 v.2.2.2.2.2.1 v.2.2.2.2.2.2.1 v.2.2.2.2.2.2.2 : Option B_u118q)) ∧ FH IP 59 p_u2q r_u2q (fun (v : List AV × List AV) => (G_u2q v.1 v.2 : Option B_u2q))
noncomputable def TG_u118q (G_u118q : GT_u118q) (G_u2q : GT_u2q) : Tab := (44, FE p_u118q r_u118q (fun (v : Int × Int × List UInt8 × List AV × Int × Int × List UInt8 × List AV) => (G_u118q v.1 v.2.1 v.2.2.1 v.2.2.2.1 v.2.2.2.2.1 v.2.2.2.2.2.1 v.2.2.2.2.2.2.1 v.2.2.2.2.2.2.2 : Option B_u118q))) :: (59, FE p_u2q r_u2q (fun (v : List AV × List AV) => (G_u2q v.1 v.2 : Option B_u2q))) :: T74
theorem TG_u118q_ok (G_u118q : GT_u118q) (G_u2q : GT_u2q) (hG : GH_u118q G_u118q G_u2q) : TabOk IP (TG_u118q G_u118q G_u2q) := ⟨FE_ok (hG.1), FE_ok (hG.2), T74_ok⟩
abbrev TT_u0q : Type := List AV × List AV × Int × Int
def hs_u0q : List PSt := [⟨[(1005900, .junk), (1, .view 4), (2, .fn (.func 44) []), (15, .view 4), (16, .int .i64), (17, .int .i64)], [], 0, 0⟩]
noncomputable def x_u0q_0 (x0 x1 : List AV) (x2 x3 : Int) : X × St := (X.ret, { tm := [(6, AV.bool false)], hp := [], nx := 0, k := 0 })
noncomputable def x_u0q_1 (x0 x1 : List AV) (x2 x3 : Int) : X × St := (X.exit 0, { tm := [(6, AV.junk)], hp := [], nx := 0, k := 0 })
noncomputable def x_u0q : List (TT_u0q → X × St) := [fun w => x_u0q_0 w.1 w.2.1 w.2.2.1 w.2.2.2, fun w => x_u0q_1 w.1 w.2.1 w.2.2.1 w.2.2.2]
noncomputable def st_u0q_0 (G_u118q : GT_u118q) (G_u2q : GT_u2q) (x0 x1 : List AV) (x2 x3 : Int) : DT (Rd TT_u0q) :=
 .br (decide (x3 < x2))
  (.br (okAt [CS.int IntKind.i64, CS.int IntKind.i64, CS.str, CS.slice 4] x1 x3)
   (.br (okAt [CS.int IntKind.i64, CS.int IntKind.i64, CS.str, CS.slice 4] x0 x3)
    (.bi (G_u118q (intOf (cellAt x1 x3 0)) (intOf (cellAt x1 x3 1)) (strOf (cellAt x1 x3 2)) (viewOf (cellAt x1 x3 3)) (intOf (cellAt x0 x3 0)) (intOf (cellAt x0 x3 1))
        (strOf (cellAt x0 x3 2)) (viewOf (cellAt x0 x3 3))) (fun y0 =>
     .br (!y0) (.at (.done 0)) (.at (.next ((x0, x1, x2, IntKind.i64.wrap (x3 + 1))))))
     (.no))
    (.no))
   (.no))
  (.at (.done 1))
noncomputable def st_u0q (G_u118q : GT_u118q) (G_u2q : GT_u2q) : TT_u0q → DT (Rd TT_u0q) := (fun v => st_u0q_0 G_u118q G_u2q v.1 v.2.1 v.2.2.1 v.2.2.2)
noncomputable def l_u0q (G_u118q : GT_u118q) (G_u2q : GT_u2q) (v : TT_u0q) : Option (Nat × TT_u0q) := lock (iterO (fun v => (st_u0q G_u118q G_u2q v).ev) v)
theorem l_u0q_eq (G_u118q : GT_u118q) (G_u2q : GT_u2q) (v : TT_u0q) : l_u0q G_u118q G_u2q v = iterO (fun v => (st_u0q G_u118q G_u2q v).ev) v := lock_eq _
noncomputable def ll_u0q (G_u118q : GT_u118q) (G_u2q : GT_u2q) : LEnt := LE (τ := TT_u0q) (hD hs_u0q) (l_u0q G_u118q G_u2q) x_u0q
theorem t_u0q (G_u118q : GT_u118q) (G_u2q : GT_u2q) (hG : GH_u118q G_u118q G_u2q) : Go.Eng.Told IP (loopAt F59 0).1 (loopAt F59 0).2 (ll_u0q G_u118q G_u2q) := loop_LE (inferInstance : Inhabited TT_u0q) (hs := hs_u0q) (st := st_u0q G_u118q G_u2q) (L := []) (TG_u118q_ok G_u118q G_u2q hG) (LOk_of (l := []) (by kernel_rfl) trivial) (l_u0q_eq G_u118q G_u2q) (fun v => by kernel_rfl) (fun v => by kernel_rfl)
noncomputable def tr_u118q (G_u118q : GT_u118q) (G_u2q : GT_u2q) (x0 x1 : Int) (x2 : List UInt8) (x3 : List AV) (x4 x5 : Int) (x6 : List UInt8) (x7 : List AV) : DT B_u118q :=
 .bi (br (x0 == x4) (some (x1 == x5)) (some false)) (fun y0 =>
  .bi (br y0 (some (x2 == x6)) (some false)) (fun y1 =>
   .bi (br y1 (br (sm (G_u2q x3 x7)) (some (gv (G_u2q x3 x7))) none) (some false)) (fun y2 =>
    .at (y2))
    (.no))
   (.no))
  (.no)
noncomputable def tr_u2q (G_u118q : GT_u118q) (G_u2q : GT_u2q) (x0 x1 : List AV) : DT B_u2q :=
 .br ((↑x0.length : Int) != (↑x1.length : Int))
  (.at (false))
  (.bi (pj 0 (l_u0q G_u118q G_u2q (x1, x0, (↑x0.length : Int), 0))) (fun y0 =>
   .at (false))
   (.bi (pj 1 (l_u0q G_u118q G_u2q (x1, x0, (↑x0.length : Int), 0))) (fun y0 =>
    .at (true))
    (.no)))
noncomputable def N_u118q : Nat → GT_u118q × GT_u2q
  | 0 => (fun _ _ _ _ _ _ _ _ => none, fun _ _ => none)
  | n + 1 => (fun x0 x1 x2 x3 x4 x5 x6 x7 => (tr_u118q ((N_u118q n).1) ((N_u118q n).2) x0 x1 x2 x3 x4 x5 x6 x7).ev, fun x0 x1 => (tr_u2q ((N_u118q n).1) ((N_u118q n).2) x0 x1).ev)
noncomputable def f_u118q (x0 x1 : Int) (x2 : List UInt8) (x3 : List AV) (x4 x5 : Int) (x6 : List UInt8) (x7 : List AV) : Option B_u118q := limO fun n => (N_u118q n).1 x0 x1 x2 x3 x4 x5 x6 x7
noncomputable def f_u2q (x0 x1 : List AV) : Option B_u2q := limO fun n => (N_u118q n).2 x0 x1
theorem N_u118q_ok : ∀ n, GH_u118q ((N_u118q n).1) ((N_u118q n).2)
  | 0 => ⟨(fun v y h => nomatch h), (fun v y h => nomatch h)⟩
  | n + 1 => have hG := N_u118q_ok n
    ⟨fun_FH (F := F44) (L := []) (t := fun (v : Int × Int × List UInt8 × List AV × Int × Int × List UInt8 × List AV) => tr_u118q ((N_u118q n).1) ((N_u118q n).2) v.1 v.2.1 v.2.2.1 v.2.2.2.1 v.2.2.2.2.1 v.2.2.2.2.2.1 v.2.2.2.2.2.2.1 v.2.2.2.2.2.2.2) (TG_u118q_ok ((N_u118q n).1) ((N_u118q n).2) hG) (LOk_of (l := []) (by kernel_rfl) trivial) (by kernel_rfl) (fun v => by kernel_rfl) (fun v => rfl), fun_FH (F := F59) (L := [(1005900, ll_u0q ((N_u118q n).1) ((N_u118q n).2))]) (t := fun (v : List AV × List AV) => tr_u2q ((N_u118q n).1) ((N_u118q n).2) v.1 v.2) (TG_u118q_ok ((N_u118q n).1) ((N_u118q n).2) hG) (LOk_of (l := [loopAt F59 0]) (by kernel_rfl) ⟨sel_one (by kernel_rfl) (t_u0q ((N_u118q n).1) ((N_u118q n).2) hG), trivial⟩) (by kernel_rfl) (fun v => by kernel_rfl) (fun v => rfl)⟩
theorem c_u118q : FH IP 44 p_u118q r_u118q (fun (v : Int × Int × List UInt8 × List AV × Int × Int × List UInt8 × List AV) => (f_u118q v.1 v.2.1 v.2.2.1 v.2.2.2.1 v.2.2.2.2.1 v.2.2.2.2.2.1 v.2.2.2.2.2.2.1 v.2.2.2.2.2.2.2 : Option B_u118q)) := lim_FH (p := p_u118q) (rs := r_u118q) (s := fun n (v : Int × Int × List UInt8 × List AV × Int × Int × List UInt8 × List AV) => (N_u118q n).1 v.1 v.2.1 v.2.2.1 v.2.2.2.1 v.2.2.2.2.1 v.2.2.2.2.2.1 v.2.2.2.2.2.2.1 v.2.2.2.2.2.2.2) fun n => (N_u118q_ok n).1
theorem c_u2q : FH IP 59 p_u2q r_u2q (fun (v : List AV × List AV) => (f_u2q v.1 v.2 : Option B_u2q)) := lim_FH (p := p_u2q) (rs := r_u2q) (s := fun n (v : List AV × List AV) => (N_u118q n).2 v.1 v.2) fun n => (N_u118q_ok n).2
noncomputable def T75 : Tab := (44, FE p_u118q r_u118q (fun (v : Int × Int × List UInt8 × List AV × Int × Int × List UInt8 × List AV) => (f_u118q v.1 v.2.1 v.2.2.1 v.2.2.2.1 v.2.2.2.2.1 v.2.2.2.2.2.1 v.2.2.2.2.2.2.1 v.2.2.2.2.2.2.2 : Option B_u118q))) :: T74
theorem T75_ok : TabOk IP T75 := ⟨FE_ok c_u118q, T74_ok⟩
noncomputable def T76 : Tab := (59, FE p_u2q r_u2q (fun (v : List AV × List AV) => (f_u2q v.1 v.2 : Option B_u2q))) :: T75
theorem T76_ok : TabOk IP T76 := ⟨FE_ok c_u2q, T75_ok⟩
end Go.Proofs.H15e

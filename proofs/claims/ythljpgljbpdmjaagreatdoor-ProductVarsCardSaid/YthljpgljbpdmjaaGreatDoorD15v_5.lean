/- Functions over plain data. Printed by a program of mine. -/
import Derived.Test.YthljpgljbpdmjaaGreatDoorD15v_4
import Derived.KernelRfl
set_option linter.unusedVariables false
set_option linter.unusedSimpArgs false
set_option linter.unnecessarySimpa false
namespace Go.Proofs.H15v
open Go Go.Eng
set_option maxRecDepth 100000
abbrev TT_u36q : Type := List AV × Int × Int × List UInt8 × List UInt8 × List UInt8 × Int × Int × Int × Int × List AV × Bool × Int × Int × Bool × List AV × Bool × Int × Int × Bool × List AV × List AV
def hs_u36q : List PSt := [⟨[(1001201, .junk), (3, .ref 0 0 0), (49, .view 10), (50, .int .i64), (51, .int .i64)], [(0, .box [.str, .str, .str, .int .i64, .int .i64, .int .i64, .int .i64, .view 2, .bool, .int .i64, .int .i64, .bool, .view 2, .bool, .int .i64, .int .i64, .bool, .view 10, .view 6] false)], 1, 0⟩]
noncomputable def x_u36q_0 (x0 : List AV) (x1 : Int) (x2 : Int) (x3 : List UInt8) (x4 : List UInt8) (x5 : List UInt8) (x6 : Int) (x7 : Int) (x8 : Int) (x9 : Int) (x10 : List AV) (x11 : Bool) (x12 : Int) (x13 : Int) (x14 : Bool) (x15 : List AV) (x16 : Bool) (x17 : Int) (x18 : Int) (x19 : Bool) (x20 : List AV) (x21 : List AV) : X × St := (X.ret,
  {
    tm :=
      [(3, AV.ref 0 0 0),
        (6,
          AV.int IntKind.i64
            (gv
              (f_u90q (strOf (cellAt x0 x2 0)) (intOf (cellAt x0 x2 1)) (intOf (cellAt x0 x2 2)) (intOf (cellAt x0 x2 3)) (strOf (cellAt x0 x2 4)) (viewOf (cellAt x0 x2 5))
                (intOf (cellAt x0 x2 6)) (intOf (cellAt x0 x2 7)) (strOf (cellAt x0 x2 8)) (viewOf (cellAt x0 x2 9)))))],
    hp :=
      [(0,
          Blk.box
            [AV.str x3, AV.str x4, AV.str x5, AV.int IntKind.i64 x6, AV.int IntKind.i64 x7, AV.int IntKind.i64 x8, AV.int IntKind.i64 x9, AV.view 2 x10, AV.bool x11,
              AV.int IntKind.i64 x12, AV.int IntKind.i64 x13, AV.bool x14, AV.view 2 x15, AV.bool x16, AV.int IntKind.i64 x17, AV.int IntKind.i64 x18, AV.bool x19, AV.view 10 x20,
              AV.view 6 x21]
            false)],
    nx := 1, k := 0 })
noncomputable def x_u36q_1 (x0 : List AV) (x1 : Int) (x2 : Int) (x3 : List UInt8) (x4 : List UInt8) (x5 : List UInt8) (x6 : Int) (x7 : Int) (x8 : Int) (x9 : Int) (x10 : List AV) (x11 : Bool) (x12 : Int) (x13 : Int) (x14 : Bool) (x15 : List AV) (x16 : Bool) (x17 : Int) (x18 : Int) (x19 : Bool) (x20 : List AV) (x21 : List AV) : X × St := (X.exit 2,
  { tm := [(3, AV.ref 0 0 0), (6, AV.junk)],
    hp :=
      [(0,
          Blk.box
            [AV.str x3, AV.str x4, AV.str x5, AV.int IntKind.i64 x6, AV.int IntKind.i64 x7, AV.int IntKind.i64 x8, AV.int IntKind.i64 x9, AV.view 2 x10, AV.bool x11,
              AV.int IntKind.i64 x12, AV.int IntKind.i64 x13, AV.bool x14, AV.view 2 x15, AV.bool x16, AV.int IntKind.i64 x17, AV.int IntKind.i64 x18, AV.bool x19, AV.view 10 x20,
              AV.view 6 x21]
            false)],
    nx := 1, k := 0 })
noncomputable def x_u36q : List (TT_u36q → X × St) := [fun w => x_u36q_0 w.1 w.2.1 w.2.2.1 w.2.2.2.1 w.2.2.2.2.1 w.2.2.2.2.2.1 w.2.2.2.2.2.2.1 w.2.2.2.2.2.2.2.1 w.2.2.2.2.2.2.2.2.1 w.2.2.2.2.2.2.2.2.2.1 w.2.2.2.2.2.2.2.2.2.2.1 w.2.2.2.2.2.2.2.2.2.2.2.1 w.2.2.2.2.2.2.2.2.2.2.2.2.1 w.2.2.2.2.2.2.2.2.2.2.2.2.2.1 w.2.2.2.2.2.2.2.2.2.2.2.2.2.2.1 w.2.2.2.2.2.2.2.2.2.2.2.2.2.2.2.1 w.2.2.2.2.2.2.2.2.2.2.2.2.2.2.2.2.1 w.2.2.2.2.2.2.2.2.2.2.2.2.2.2.2.2.2.1 w.2.2.2.2.2.2.2.2.2.2.2.2.2.2.2.2.2.2.1 w.2.2.2.2.2.2.2.2.2.2.2.2.2.2.2.2.2.2.2.1 w.2.2.2.2.2.2.2.2.2.2.2.2.2.2.2.2.2.2.2.2.1 w.2.2.2.2.2.2.2.2.2.2.2.2.2.2.2.2.2.2.2.2.2, fun w => x_u36q_1 w.1 w.2.1 w.2.2.1 w.2.2.2.1 w.2.2.2.2.1 w.2.2.2.2.2.1 w.2.2.2.2.2.2.1 w.2.2.2.2.2.2.2.1 w.2.2.2.2.2.2.2.2.1 w.2.2.2.2.2.2.2.2.2.1 w.2.2.2.2.2.2.2.2.2.2.1 w.2.2.2.2.2.2.2.2.2.2.2.1 w.2.2.2.2.2.2.2.2.2.2.2.2.1 w.2.2.2.2.2.2.2.2.2.2.2.2.2.1 w.2.2.2.2.2.2.2.2.2.2.2.2.2.2.1 w.2.2.2.2.2.2.2.2.2.2.2.2.2.2.2.1 w.2.2.2.2.2.2.2.2.2.2.2.2.2.2.2.2.1 w.2.2.2.2.2.2.2.2.2.2.2.2.2.2.2.2.2.1 w.2.2.2.2.2.2.2.2.2.2.2.2.2.2.2.2.2.2.1 w.2.2.2.2.2.2.2.2.2.2.2.2.2.2.2.2.2.2.2.1 w.2.2.2.2.2.2.2.2.2.2.2.2.2.2.2.2.2.2.2.2.1 w.2.2.2.2.2.2.2.2.2.2.2.2.2.2.2.2.2.2.2.2.2]
noncomputable def st_u36q_0 (x0 : List AV) (x1 : Int) (x2 : Int) (x3 : List UInt8) (x4 : List UInt8) (x5 : List UInt8) (x6 : Int) (x7 : Int) (x8 : Int) (x9 : Int) (x10 : List AV) (x11 : Bool) (x12 : Int) (x13 : Int) (x14 : Bool) (x15 : List AV) (x16 : Bool) (x17 : Int) (x18 : Int) (x19 : Bool) (x20 : List AV) (x21 : List AV) : DT (Rd TT_u36q) :=
 .br (decide (x2 < x1))
  (.br (okAt [CS.str, CS.int IntKind.i64, CS.int IntKind.i64, CS.int IntKind.i64, CS.str, CS.slice 4, CS.int IntKind.i64, CS.int IntKind.i64, CS.str, CS.slice 4] x0 x2)
   (.bi (f_u90q (strOf (cellAt x0 x2 0)) (intOf (cellAt x0 x2 1)) (intOf (cellAt x0 x2 2)) (intOf (cellAt x0 x2 3)) (strOf (cellAt x0 x2 4)) (viewOf (cellAt x0 x2 5))
       (intOf (cellAt x0 x2 6)) (intOf (cellAt x0 x2 7)) (strOf (cellAt x0 x2 8)) (viewOf (cellAt x0 x2 9))) (fun y0 =>
    .br (y0 != 0) (.at (.done 0)) (.at (.next ((x0, x1, IntKind.i64.wrap (x2 + 1), x3, x4, x5, x6, x7, x8, x9, x10, x11, x12, x13, x14, x15, x16, x17, x18, x19, x20, x21)))))
    (.no))
   (.no))
  (.at (.done 1))
noncomputable def st_u36q : TT_u36q → DT (Rd TT_u36q) := (fun v => st_u36q_0 v.1 v.2.1 v.2.2.1 v.2.2.2.1 v.2.2.2.2.1 v.2.2.2.2.2.1 v.2.2.2.2.2.2.1 v.2.2.2.2.2.2.2.1 v.2.2.2.2.2.2.2.2.1 v.2.2.2.2.2.2.2.2.2.1 v.2.2.2.2.2.2.2.2.2.2.1 v.2.2.2.2.2.2.2.2.2.2.2.1 v.2.2.2.2.2.2.2.2.2.2.2.2.1 v.2.2.2.2.2.2.2.2.2.2.2.2.2.1 v.2.2.2.2.2.2.2.2.2.2.2.2.2.2.1 v.2.2.2.2.2.2.2.2.2.2.2.2.2.2.2.1 v.2.2.2.2.2.2.2.2.2.2.2.2.2.2.2.2.1 v.2.2.2.2.2.2.2.2.2.2.2.2.2.2.2.2.2.1 v.2.2.2.2.2.2.2.2.2.2.2.2.2.2.2.2.2.2.1 v.2.2.2.2.2.2.2.2.2.2.2.2.2.2.2.2.2.2.2.1 v.2.2.2.2.2.2.2.2.2.2.2.2.2.2.2.2.2.2.2.2.1 v.2.2.2.2.2.2.2.2.2.2.2.2.2.2.2.2.2.2.2.2.2)
noncomputable def l_u36q (v : TT_u36q) : Option (Nat × TT_u36q) := lock (iterO (fun v => (st_u36q v).ev) v)
theorem l_u36q_eq (v : TT_u36q) : l_u36q v = iterO (fun v => (st_u36q v).ev) v := lock_eq _
noncomputable def ll_u36q : LEnt := LE (τ := TT_u36q) (hD hs_u36q) (l_u36q) x_u36q
theorem t_u36q : Go.Eng.Told IP (loopAt F12 1).1 (loopAt F12 1).2 (ll_u36q) := loop_LE (inferInstance : Inhabited TT_u36q) (hs := hs_u36q) (st := st_u36q) (L := []) T67_ok (LOk_of (l := []) (by kernel_rfl) trivial) (l_u36q_eq) (fun v => by kernel_rfl) (fun v => by kernel_rfl)
abbrev B_u76q : Type := Int
def p_u76q : PArgs := ⟨[.agg [.str, .int .i64, .int .i64, .int .i64, .str, .view 4]], []⟩
def r_u76q : List PRes := [⟨false, .int .i64, []⟩]
noncomputable def tr_u76q (x0 : List UInt8) (x1 : Int) (x2 : Int) (x3 : Int) (x4 : List UInt8) (x5 : List AV) : DT B_u76q :=
 .bi (f_u75q x0) (fun y0 =>
  .br (!y0)
   (.at (4))
   (.bi (br (decide (x1 < 1)) (some true) (some (decide (x1 > 3)))) (fun y1 =>
    .br (y1)
     (.at (1))
     (.bi (f_u73q) (fun y2 =>
      .bi (f_u86q x2 x3 x4 x5 y2 2) (fun y3 =>
       .at (y3))
       (.no))
      (.no)))
    (.no)))
  (.no)
noncomputable def f_u76q (x0 : List UInt8) (x1 : Int) (x2 : Int) (x3 : Int) (x4 : List UInt8) (x5 : List AV) : Option B_u76q := lock (tr_u76q x0 x1 x2 x3 x4 x5).ev
theorem f_u76q_eq (x0 : List UInt8) (x1 : Int) (x2 : Int) (x3 : Int) (x4 : List UInt8) (x5 : List AV) : f_u76q x0 x1 x2 x3 x4 x5 = (tr_u76q x0 x1 x2 x3 x4 x5).ev := lock_eq _
theorem c_u76q : FH IP 30 p_u76q r_u76q (fun (v : List UInt8 × Int × Int × Int × List UInt8 × List AV) => (f_u76q v.1 v.2.1 v.2.2.1 v.2.2.2.1 v.2.2.2.2.1 v.2.2.2.2.2 : Option B_u76q)) := fun_FH (F := F30) (L := []) (t := fun (v : List UInt8 × Int × Int × Int × List UInt8 × List AV) => tr_u76q v.1 v.2.1 v.2.2.1 v.2.2.2.1 v.2.2.2.2.1 v.2.2.2.2.2) T67_ok (LOk_of (l := []) (by kernel_rfl) trivial) (by kernel_rfl) (fun v => by kernel_rfl) (fun v => f_u76q_eq v.1 v.2.1 v.2.2.1 v.2.2.2.1 v.2.2.2.2.1 v.2.2.2.2.2)
noncomputable def T68 : Tab := (30, FE p_u76q r_u76q (fun (v : List UInt8 × Int × Int × Int × List UInt8 × List AV) => (f_u76q v.1 v.2.1 v.2.2.1 v.2.2.2.1 v.2.2.2.2.1 v.2.2.2.2.2 : Option B_u76q))) :: T67
theorem T68_ok : TabOk IP T68 := ⟨FE_ok c_u76q, T67_ok⟩
abbrev TT_u37q : Type := List AV × Int × Int
def hs_u37q : List PSt := [⟨[(1001202, .junk), (62, .view 6), (63, .int .i64), (64, .int .i64)], [], 0, 0⟩]
noncomputable def x_u37q_0 (x0 : List AV) (x1 : Int) (x2 : Int) : X × St := (X.ret,
  {
    tm :=
      [(6,
          AV.int IntKind.i64
            (gv
              (f_u76q (strOf (cellAt x0 x2 0)) (intOf (cellAt x0 x2 1)) (intOf (cellAt x0 x2 2)) (intOf (cellAt x0 x2 3)) (strOf (cellAt x0 x2 4))
                (viewOf (cellAt x0 x2 5)))))],
    hp := [], nx := 0, k := 0 })
noncomputable def x_u37q_1 (x0 : List AV) (x1 : Int) (x2 : Int) : X × St := (X.exit 4, { tm := [(6, AV.junk)], hp := [], nx := 0, k := 0 })
noncomputable def x_u37q : List (TT_u37q → X × St) := [fun w => x_u37q_0 w.1 w.2.1 w.2.2, fun w => x_u37q_1 w.1 w.2.1 w.2.2]
noncomputable def st_u37q_0 (x0 : List AV) (x1 : Int) (x2 : Int) : DT (Rd TT_u37q) :=
 .br (decide (x2 < x1))
  (.br (okAt [CS.str, CS.int IntKind.i64, CS.int IntKind.i64, CS.int IntKind.i64, CS.str, CS.slice 4] x0 x2)
   (.bi (f_u76q (strOf (cellAt x0 x2 0)) (intOf (cellAt x0 x2 1)) (intOf (cellAt x0 x2 2)) (intOf (cellAt x0 x2 3)) (strOf (cellAt x0 x2 4)) (viewOf (cellAt x0 x2 5))) (fun y0 =>
    .br (y0 != 0) (.at (.done 0)) (.at (.next ((x0, x1, IntKind.i64.wrap (x2 + 1))))))
    (.no))
   (.no))
  (.at (.done 1))
noncomputable def st_u37q : TT_u37q → DT (Rd TT_u37q) := (fun v => st_u37q_0 v.1 v.2.1 v.2.2)
noncomputable def l_u37q (v : TT_u37q) : Option (Nat × TT_u37q) := lock (iterO (fun v => (st_u37q v).ev) v)
theorem l_u37q_eq (v : TT_u37q) : l_u37q v = iterO (fun v => (st_u37q v).ev) v := lock_eq _
noncomputable def ll_u37q : LEnt := LE (τ := TT_u37q) (hD hs_u37q) (l_u37q) x_u37q
theorem t_u37q : Go.Eng.Told IP (loopAt F12 2).1 (loopAt F12 2).2 (ll_u37q) := loop_LE (inferInstance : Inhabited TT_u37q) (hs := hs_u37q) (st := st_u37q) (L := []) T68_ok (LOk_of (l := []) (by kernel_rfl) trivial) (l_u37q_eq) (fun v => by kernel_rfl) (fun v => by kernel_rfl)
abbrev B_u60q : Type := Int
def p_u60q : PArgs := ⟨[.agg [.str, .str, .str, .int .i64, .int .i64, .int .i64, .int .i64, .view 2, .bool, .int .i64, .int .i64, .bool, .view 2, .bool, .int .i64, .int .i64, .bool, .view 10, .view 6], .view 2, .view 3], []⟩
def r_u60q : List PRes := [⟨false, .int .i64, []⟩]
noncomputable def tr_u60q (x0 : List UInt8) (x1 : List UInt8) (x2 : List UInt8) (x3 : Int) (x4 : Int) (x5 : Int) (x6 : Int) (x7 : List AV) (x8 : Bool) (x9 : Int) (x10 : Int) (x11 : Bool) (x12 : List AV) (x13 : Bool) (x14 : Int) (x15 : Int) (x16 : Bool) (x17 : List AV) (x18 : List AV) (x19 : List AV) (x20 : List AV) : DT B_u60q :=
 .bi (f_u74q x0 x1 x2 x3 x4 x5 x6 x7 x8 x9 x10 x11 x12 x13 x14 x15 x16 x17 x18 x19 x20) (fun y0 =>
  .br (y0 != 0)
   (.at (y0))
   (.bi (pj 0 (l_u35q (x7, x8, x9, x10, x11, x12, x13, x14, x15, x16, 0, x0, x1, x2, x3, x4, x5, x6, x7, x8, x9, x10, x11, x12, x13, x14, x15, x16, x17, x18))) (fun y1 =>
    .at (gv (f_u31q y1.fst y1.snd.fst y1.snd.snd.fst y1.snd.snd.snd.fst y1.snd.snd.snd.snd.fst)))
    (.bi (pj 1 (l_u35q (x7, x8, x9, x10, x11, x12, x13, x14, x15, x16, 0, x0, x1, x2, x3, x4, x5, x6, x7, x8, x9, x10, x11, x12, x13, x14, x15, x16, x17, x18))) (fun y1 =>
     .at (gv
  (f_u31q y1.snd.snd.snd.snd.snd.fst y1.snd.snd.snd.snd.snd.snd.fst y1.snd.snd.snd.snd.snd.snd.snd.fst y1.snd.snd.snd.snd.snd.snd.snd.snd.fst
    y1.snd.snd.snd.snd.snd.snd.snd.snd.snd.fst)))
     (.bi (pj 2 (l_u35q (x7, x8, x9, x10, x11, x12, x13, x14, x15, x16, 0, x0, x1, x2, x3, x4, x5, x6, x7, x8, x9, x10, x11, x12, x13, x14, x15, x16, x17, x18))) (fun y1 =>
      .bi (br (decide ((↑y1.snd.snd.snd.snd.snd.snd.snd.snd.snd.snd.snd.snd.snd.snd.snd.snd.snd.snd.snd.snd.snd.snd.snd.snd.snd.snd.snd.snd.fst.length : Int) > 4)) (some true)
          (some (decide ((↑y1.snd.snd.snd.snd.snd.snd.snd.snd.snd.snd.snd.snd.snd.snd.snd.snd.snd.snd.snd.snd.snd.snd.snd.snd.snd.snd.snd.snd.snd.length : Int) > 4)))) (fun y2 =>
       .br (y2)
        (.at (5))
        (.bi (pj 0
            (l_u36q
              (y1.snd.snd.snd.snd.snd.snd.snd.snd.snd.snd.snd.snd.snd.snd.snd.snd.snd.snd.snd.snd.snd.snd.snd.snd.snd.snd.snd.snd.fst,
                (↑y1.snd.snd.snd.snd.snd.snd.snd.snd.snd.snd.snd.snd.snd.snd.snd.snd.snd.snd.snd.snd.snd.snd.snd.snd.snd.snd.snd.snd.fst.length : Int), 0,
                y1.snd.snd.snd.snd.snd.snd.snd.snd.snd.snd.snd.fst, y1.snd.snd.snd.snd.snd.snd.snd.snd.snd.snd.snd.snd.fst, y1.snd.snd.snd.snd.snd.snd.snd.snd.snd.snd.snd.snd.snd.fst,
                y1.snd.snd.snd.snd.snd.snd.snd.snd.snd.snd.snd.snd.snd.snd.fst, y1.snd.snd.snd.snd.snd.snd.snd.snd.snd.snd.snd.snd.snd.snd.snd.fst,
                y1.snd.snd.snd.snd.snd.snd.snd.snd.snd.snd.snd.snd.snd.snd.snd.snd.fst, y1.snd.snd.snd.snd.snd.snd.snd.snd.snd.snd.snd.snd.snd.snd.snd.snd.snd.fst,
                y1.snd.snd.snd.snd.snd.snd.snd.snd.snd.snd.snd.snd.snd.snd.snd.snd.snd.snd.fst, y1.snd.snd.snd.snd.snd.snd.snd.snd.snd.snd.snd.snd.snd.snd.snd.snd.snd.snd.snd.fst,
                y1.snd.snd.snd.snd.snd.snd.snd.snd.snd.snd.snd.snd.snd.snd.snd.snd.snd.snd.snd.snd.fst,
                y1.snd.snd.snd.snd.snd.snd.snd.snd.snd.snd.snd.snd.snd.snd.snd.snd.snd.snd.snd.snd.snd.fst,
                y1.snd.snd.snd.snd.snd.snd.snd.snd.snd.snd.snd.snd.snd.snd.snd.snd.snd.snd.snd.snd.snd.snd.fst,
                y1.snd.snd.snd.snd.snd.snd.snd.snd.snd.snd.snd.snd.snd.snd.snd.snd.snd.snd.snd.snd.snd.snd.snd.fst,
                y1.snd.snd.snd.snd.snd.snd.snd.snd.snd.snd.snd.snd.snd.snd.snd.snd.snd.snd.snd.snd.snd.snd.snd.snd.fst,
                y1.snd.snd.snd.snd.snd.snd.snd.snd.snd.snd.snd.snd.snd.snd.snd.snd.snd.snd.snd.snd.snd.snd.snd.snd.snd.fst,
                y1.snd.snd.snd.snd.snd.snd.snd.snd.snd.snd.snd.snd.snd.snd.snd.snd.snd.snd.snd.snd.snd.snd.snd.snd.snd.snd.fst,
                y1.snd.snd.snd.snd.snd.snd.snd.snd.snd.snd.snd.snd.snd.snd.snd.snd.snd.snd.snd.snd.snd.snd.snd.snd.snd.snd.snd.fst,
                y1.snd.snd.snd.snd.snd.snd.snd.snd.snd.snd.snd.snd.snd.snd.snd.snd.snd.snd.snd.snd.snd.snd.snd.snd.snd.snd.snd.snd.fst,
                y1.snd.snd.snd.snd.snd.snd.snd.snd.snd.snd.snd.snd.snd.snd.snd.snd.snd.snd.snd.snd.snd.snd.snd.snd.snd.snd.snd.snd.snd))) (fun y3 =>
         .at (gv
  (f_u90q (strOf (cellAt y3.fst y3.snd.snd.fst 0)) (intOf (cellAt y3.fst y3.snd.snd.fst 1)) (intOf (cellAt y3.fst y3.snd.snd.fst 2)) (intOf (cellAt y3.fst y3.snd.snd.fst 3))
    (strOf (cellAt y3.fst y3.snd.snd.fst 4)) (viewOf (cellAt y3.fst y3.snd.snd.fst 5)) (intOf (cellAt y3.fst y3.snd.snd.fst 6)) (intOf (cellAt y3.fst y3.snd.snd.fst 7))
    (strOf (cellAt y3.fst y3.snd.snd.fst 8)) (viewOf (cellAt y3.fst y3.snd.snd.fst 9)))))
         (.bi (pj 1
             (l_u36q
               (y1.snd.snd.snd.snd.snd.snd.snd.snd.snd.snd.snd.snd.snd.snd.snd.snd.snd.snd.snd.snd.snd.snd.snd.snd.snd.snd.snd.snd.fst,
                 (↑y1.snd.snd.snd.snd.snd.snd.snd.snd.snd.snd.snd.snd.snd.snd.snd.snd.snd.snd.snd.snd.snd.snd.snd.snd.snd.snd.snd.snd.fst.length : Int), 0,
                 y1.snd.snd.snd.snd.snd.snd.snd.snd.snd.snd.snd.fst, y1.snd.snd.snd.snd.snd.snd.snd.snd.snd.snd.snd.snd.fst, y1.snd.snd.snd.snd.snd.snd.snd.snd.snd.snd.snd.snd.snd.fst,
                 y1.snd.snd.snd.snd.snd.snd.snd.snd.snd.snd.snd.snd.snd.snd.fst, y1.snd.snd.snd.snd.snd.snd.snd.snd.snd.snd.snd.snd.snd.snd.snd.fst,
                 y1.snd.snd.snd.snd.snd.snd.snd.snd.snd.snd.snd.snd.snd.snd.snd.snd.fst, y1.snd.snd.snd.snd.snd.snd.snd.snd.snd.snd.snd.snd.snd.snd.snd.snd.snd.fst,
                 y1.snd.snd.snd.snd.snd.snd.snd.snd.snd.snd.snd.snd.snd.snd.snd.snd.snd.snd.fst, y1.snd.snd.snd.snd.snd.snd.snd.snd.snd.snd.snd.snd.snd.snd.snd.snd.snd.snd.snd.fst,
                 y1.snd.snd.snd.snd.snd.snd.snd.snd.snd.snd.snd.snd.snd.snd.snd.snd.snd.snd.snd.snd.fst,
                 y1.snd.snd.snd.snd.snd.snd.snd.snd.snd.snd.snd.snd.snd.snd.snd.snd.snd.snd.snd.snd.snd.fst,
                 y1.snd.snd.snd.snd.snd.snd.snd.snd.snd.snd.snd.snd.snd.snd.snd.snd.snd.snd.snd.snd.snd.snd.fst,
                 y1.snd.snd.snd.snd.snd.snd.snd.snd.snd.snd.snd.snd.snd.snd.snd.snd.snd.snd.snd.snd.snd.snd.snd.fst,
                 y1.snd.snd.snd.snd.snd.snd.snd.snd.snd.snd.snd.snd.snd.snd.snd.snd.snd.snd.snd.snd.snd.snd.snd.snd.fst,
                 y1.snd.snd.snd.snd.snd.snd.snd.snd.snd.snd.snd.snd.snd.snd.snd.snd.snd.snd.snd.snd.snd.snd.snd.snd.snd.fst,
                 y1.snd.snd.snd.snd.snd.snd.snd.snd.snd.snd.snd.snd.snd.snd.snd.snd.snd.snd.snd.snd.snd.snd.snd.snd.snd.snd.fst,
                 y1.snd.snd.snd.snd.snd.snd.snd.snd.snd.snd.snd.snd.snd.snd.snd.snd.snd.snd.snd.snd.snd.snd.snd.snd.snd.snd.snd.fst,
                 y1.snd.snd.snd.snd.snd.snd.snd.snd.snd.snd.snd.snd.snd.snd.snd.snd.snd.snd.snd.snd.snd.snd.snd.snd.snd.snd.snd.snd.fst,
                 y1.snd.snd.snd.snd.snd.snd.snd.snd.snd.snd.snd.snd.snd.snd.snd.snd.snd.snd.snd.snd.snd.snd.snd.snd.snd.snd.snd.snd.snd))) (fun y3 =>
          .bi (pj 0
              (l_u37q
                (y3.snd.snd.snd.snd.snd.snd.snd.snd.snd.snd.snd.snd.snd.snd.snd.snd.snd.snd.snd.snd.snd,
                  (↑y3.snd.snd.snd.snd.snd.snd.snd.snd.snd.snd.snd.snd.snd.snd.snd.snd.snd.snd.snd.snd.snd.length : Int), 0))) (fun y4 =>
           .at (gv
  (f_u76q (strOf (cellAt y4.fst y4.snd.snd 0)) (intOf (cellAt y4.fst y4.snd.snd 1)) (intOf (cellAt y4.fst y4.snd.snd 2)) (intOf (cellAt y4.fst y4.snd.snd 3))
    (strOf (cellAt y4.fst y4.snd.snd 4)) (viewOf (cellAt y4.fst y4.snd.snd 5)))))
           (.bi (pj 1
               (l_u37q
                 (y3.snd.snd.snd.snd.snd.snd.snd.snd.snd.snd.snd.snd.snd.snd.snd.snd.snd.snd.snd.snd.snd,
                   (↑y3.snd.snd.snd.snd.snd.snd.snd.snd.snd.snd.snd.snd.snd.snd.snd.snd.snd.snd.snd.snd.snd.length : Int), 0))) (fun y4 =>
            .at (0))
            (.no)))
          (.no))))
       (.no))
      (.no)))))
  (.no)
noncomputable def f_u60q (x0 : List UInt8) (x1 : List UInt8) (x2 : List UInt8) (x3 : Int) (x4 : Int) (x5 : Int) (x6 : Int) (x7 : List AV) (x8 : Bool) (x9 : Int) (x10 : Int) (x11 : Bool) (x12 : List AV) (x13 : Bool) (x14 : Int) (x15 : Int) (x16 : Bool) (x17 : List AV) (x18 : List AV) (x19 : List AV) (x20 : List AV) : Option B_u60q := lock (tr_u60q x0 x1 x2 x3 x4 x5 x6 x7 x8 x9 x10 x11 x12 x13 x14 x15 x16 x17 x18 x19 x20).ev
theorem f_u60q_eq (x0 : List UInt8) (x1 : List UInt8) (x2 : List UInt8) (x3 : Int) (x4 : Int) (x5 : Int) (x6 : Int) (x7 : List AV) (x8 : Bool) (x9 : Int) (x10 : Int) (x11 : Bool) (x12 : List AV) (x13 : Bool) (x14 : Int) (x15 : Int) (x16 : Bool) (x17 : List AV) (x18 : List AV) (x19 : List AV) (x20 : List AV) : f_u60q x0 x1 x2 x3 x4 x5 x6 x7 x8 x9 x10 x11 x12 x13 x14 x15 x16 x17 x18 x19 x20 = (tr_u60q x0 x1 x2 x3 x4 x5 x6 x7 x8 x9 x10 x11 x12 x13 x14 x15 x16 x17 x18 x19 x20).ev := lock_eq _
theorem c_u60q : FH IP 12 p_u60q r_u60q (fun (v : List UInt8 × List UInt8 × List UInt8 × Int × Int × Int × Int × List AV × Bool × Int × Int × Bool × List AV × Bool × Int × Int × Bool × List AV × List AV × List AV × List AV) => (f_u60q v.1 v.2.1 v.2.2.1 v.2.2.2.1 v.2.2.2.2.1 v.2.2.2.2.2.1 v.2.2.2.2.2.2.1 v.2.2.2.2.2.2.2.1 v.2.2.2.2.2.2.2.2.1 v.2.2.2.2.2.2.2.2.2.1 v.2.2.2.2.2.2.2.2.2.2.1 v.2.2.2.2.2.2.2.2.2.2.2.1 v.2.2.2.2.2.2.2.2.2.2.2.2.1 v.2.2.2.2.2.2.2.2.2.2.2.2.2.1 v.2.2.2.2.2.2.2.2.2.2.2.2.2.2.1 v.2.2.2.2.2.2.2.2.2.2.2.2.2.2.2.1 v.2.2.2.2.2.2.2.2.2.2.2.2.2.2.2.2.1 v.2.2.2.2.2.2.2.2.2.2.2.2.2.2.2.2.2.1 v.2.2.2.2.2.2.2.2.2.2.2.2.2.2.2.2.2.2.1 v.2.2.2.2.2.2.2.2.2.2.2.2.2.2.2.2.2.2.2.1 v.2.2.2.2.2.2.2.2.2.2.2.2.2.2.2.2.2.2.2.2 : Option B_u60q)) := fun_FH (F := F12) (L := [(1001200, ll_u35q), (1001201, ll_u36q), (1001202, ll_u37q)]) (t := fun (v : List UInt8 × List UInt8 × List UInt8 × Int × Int × Int × Int × List AV × Bool × Int × Int × Bool × List AV × Bool × Int × Int × Bool × List AV × List AV × List AV × List AV) => tr_u60q v.1 v.2.1 v.2.2.1 v.2.2.2.1 v.2.2.2.2.1 v.2.2.2.2.2.1 v.2.2.2.2.2.2.1 v.2.2.2.2.2.2.2.1 v.2.2.2.2.2.2.2.2.1 v.2.2.2.2.2.2.2.2.2.1 v.2.2.2.2.2.2.2.2.2.2.1 v.2.2.2.2.2.2.2.2.2.2.2.1 v.2.2.2.2.2.2.2.2.2.2.2.2.1 v.2.2.2.2.2.2.2.2.2.2.2.2.2.1 v.2.2.2.2.2.2.2.2.2.2.2.2.2.2.1 v.2.2.2.2.2.2.2.2.2.2.2.2.2.2.2.1 v.2.2.2.2.2.2.2.2.2.2.2.2.2.2.2.2.1 v.2.2.2.2.2.2.2.2.2.2.2.2.2.2.2.2.2.1 v.2.2.2.2.2.2.2.2.2.2.2.2.2.2.2.2.2.2.1 v.2.2.2.2.2.2.2.2.2.2.2.2.2.2.2.2.2.2.2.1 v.2.2.2.2.2.2.2.2.2.2.2.2.2.2.2.2.2.2.2.2) T68_ok (LOk_of (l := [loopAt F12 0, loopAt F12 1, loopAt F12 2]) (by kernel_rfl) ⟨sel_one (by kernel_rfl) t_u35q, sel_one (by kernel_rfl) t_u36q, sel_one (by kernel_rfl) t_u37q, trivial⟩) (by kernel_rfl) (fun v => by kernel_rfl) (fun v => f_u60q_eq v.1 v.2.1 v.2.2.1 v.2.2.2.1 v.2.2.2.2.1 v.2.2.2.2.2.1 v.2.2.2.2.2.2.1 v.2.2.2.2.2.2.2.1 v.2.2.2.2.2.2.2.2.1 v.2.2.2.2.2.2.2.2.2.1 v.2.2.2.2.2.2.2.2.2.2.1 v.2.2.2.2.2.2.2.2.2.2.2.1 v.2.2.2.2.2.2.2.2.2.2.2.2.1 v.2.2.2.2.2.2.2.2.2.2.2.2.2.1 v.2.2.2.2.2.2.2.2.2.2.2.2.2.2.1 v.2.2.2.2.2.2.2.2.2.2.2.2.2.2.2.1 v.2.2.2.2.2.2.2.2.2.2.2.2.2.2.2.2.1 v.2.2.2.2.2.2.2.2.2.2.2.2.2.2.2.2.2.1 v.2.2.2.2.2.2.2.2.2.2.2.2.2.2.2.2.2.2.1 v.2.2.2.2.2.2.2.2.2.2.2.2.2.2.2.2.2.2.2.1 v.2.2.2.2.2.2.2.2.2.2.2.2.2.2.2.2.2.2.2.2)
noncomputable def T69 : Tab := (12, FE p_u60q r_u60q (fun (v : List UInt8 × List UInt8 × List UInt8 × Int × Int × Int × Int × List AV × Bool × Int × Int × Bool × List AV × Bool × Int × Int × Bool × List AV × List AV × List AV × List AV) => (f_u60q v.1 v.2.1 v.2.2.1 v.2.2.2.1 v.2.2.2.2.1 v.2.2.2.2.2.1 v.2.2.2.2.2.2.1 v.2.2.2.2.2.2.2.1 v.2.2.2.2.2.2.2.2.1 v.2.2.2.2.2.2.2.2.2.1 v.2.2.2.2.2.2.2.2.2.2.1 v.2.2.2.2.2.2.2.2.2.2.2.1 v.2.2.2.2.2.2.2.2.2.2.2.2.1 v.2.2.2.2.2.2.2.2.2.2.2.2.2.1 v.2.2.2.2.2.2.2.2.2.2.2.2.2.2.1 v.2.2.2.2.2.2.2.2.2.2.2.2.2.2.2.1 v.2.2.2.2.2.2.2.2.2.2.2.2.2.2.2.2.1 v.2.2.2.2.2.2.2.2.2.2.2.2.2.2.2.2.2.1 v.2.2.2.2.2.2.2.2.2.2.2.2.2.2.2.2.2.2.1 v.2.2.2.2.2.2.2.2.2.2.2.2.2.2.2.2.2.2.2.1 v.2.2.2.2.2.2.2.2.2.2.2.2.2.2.2.2.2.2.2.2 : Option B_u60q))) :: T68
theorem T69_ok : TabOk IP T69 := ⟨FE_ok c_u60q, T68_ok⟩
abbrev B_u48q : Type := Int × Int × List UInt8 × List AV
def p_u48q : PArgs := ⟨[.agg [.int .i64, .int .i64, .str, .view 4]], []⟩
def r_u48q : List PRes := [⟨false, .agg [.int .i64, .int .i64, .str, .view 4], []⟩]
abbrev GT_u48q : Type := Int → Int → (List UInt8) → (List AV) → Option B_u48q
def GH_u48q (G_u48q : GT_u48q) : Prop := FH IP 40 p_u48q r_u48q (fun (v : Int × Int × List UInt8 × List AV) => (G_u48q v.1 v.2.1 v.2.2.1 v.2.2.2 : Option B_u48q))
noncomputable def TG_u48q (G_u48q : GT_u48q) : Tab := (40, FE p_u48q r_u48q (fun (v : Int × Int × List UInt8 × List AV) => (G_u48q v.1 v.2.1 v.2.2.1 v.2.2.2 : Option B_u48q))) :: T69
theorem TG_u48q_ok (G_u48q : GT_u48q) (hG : GH_u48q G_u48q) : TabOk IP (TG_u48q G_u48q) := ⟨FE_ok (hG), T69_ok⟩
abbrev TT_u30q : Type := (Int × Int × Int × Int × List UInt8 × Int × Int × List UInt8) ⊕ (Int × Int × Int × Int × List UInt8 × Int × Int × List UInt8 × List AV)
def hs_u30q : List PSt := [⟨[(1004000, .junk), (1, .ref 0 0 0), (2, .ref 1 0 0), (10, .int .i64), (11, .int .i64)], [(0, .box [.int .i64, .int .i64, .str, .nils ⟨4, .any⟩] false), (1, .box [.int .i64, .int .i64, .str, .nils 4] false)], 2, 0⟩, ⟨[(1004000, .junk), (1, .ref 0 0 0), (2, .ref 1 0 0), (10, .int .i64), (11, .int .i64)], [(0, .box [.int .i64, .int .i64, .str, .own 2 0] false), (1, .box [.int .i64, .int .i64, .str, .nils 4] false), (2, .arr 4 false)], 3, 0⟩]
noncomputable def x_u30q_0 (x0 : Int) (x1 : Int) (x2 : Int) (x3 : Int) (x4 : List UInt8) (x5 : Int) (x6 : Int) (x7 : List UInt8) : X × St := (X.exit 0,
  { tm := [(1, AV.ref 0 0 0), (2, AV.ref 1 0 0)],
    hp :=
      [(0, Blk.box [AV.int IntKind.i64 x2, AV.int IntKind.i64 x3, AV.str x4, AV.nils { sz := 4, kd := NKd.any }] false),
        (1, Blk.box [AV.int IntKind.i64 x5, AV.int IntKind.i64 x6, AV.str x7, AV.nils { sz := 4, kd := NKd.nil }] false)],
    nx := 2, k := 0 })
noncomputable def x_u30q_1 (x0 : Int) (x1 : Int) (x2 : Int) (x3 : Int) (x4 : List UInt8) (x5 : Int) (x6 : Int) (x7 : List UInt8) (x8 : List AV) : X × St := (X.exit 0,
  { tm := [(1, AV.ref 0 0 0), (2, AV.ref 1 0 0)],
    hp :=
      [(0, Blk.box [AV.int IntKind.i64 x2, AV.int IntKind.i64 x3, AV.str x4, AV.own 2 0 none] false),
        (1, Blk.box [AV.int IntKind.i64 x5, AV.int IntKind.i64 x6, AV.str x7, AV.nils { sz := 4, kd := NKd.nil }] false), (2, Blk.arr 4 x8 false)],
    nx := 3, k := 0 })
noncomputable def x_u30q : List (TT_u30q → X × St) := [fun w => x_u30q_0 (sl w).1 (sl w).2.1 (sl w).2.2.1 (sl w).2.2.2.1 (sl w).2.2.2.2.1 (sl w).2.2.2.2.2.1 (sl w).2.2.2.2.2.2.1 (sl w).2.2.2.2.2.2.2, fun w => x_u30q_1 (sr w).1 (sr w).2.1 (sr w).2.2.1 (sr w).2.2.2.1 (sr w).2.2.2.2.1 (sr w).2.2.2.2.2.1 (sr w).2.2.2.2.2.2.1 (sr w).2.2.2.2.2.2.2.1 (sr w).2.2.2.2.2.2.2.2]
noncomputable def st_u30q_0 (G_u48q : GT_u48q) (x0 : Int) (x1 : Int) (x2 : Int) (x3 : Int) (x4 : List UInt8) (x5 : Int) (x6 : Int) (x7 : List UInt8) : DT (Rd TT_u30q) :=
 .br (decide (x1 < x0)) (.no) (.at (.done 0))
noncomputable def st_u30q_1 (G_u48q : GT_u48q) (x0 : Int) (x1 : Int) (x2 : Int) (x3 : Int) (x4 : List UInt8) (x5 : Int) (x6 : Int) (x7 : List UInt8) (x8 : List AV) : DT (Rd TT_u30q) :=
 .br (decide (x1 < x0))
  (.br (inB x8.length x1)
   (.br (okP [CS.int IntKind.i64, CS.int IntKind.i64, CS.str, CS.slice 4] x8 x1.toNat 0)
    (.bi (G_u48q (intOf (cellN x8 x1.toNat 0)) (intOf (cellN x8 x1.toNat 1)) (strOf (cellN x8 x1.toNat 2)) (viewOf (cellN x8 x1.toNat 3))) (fun y0 =>
     .br (inB x8.length x1)
      (.br (okS x8 x1.toNat 0 4)
       (.at (.next ((.inr (x0, IntKind.i64.wrap (x1 + 1), x2, x3, x4, x5, x6, x7, setE x8 x1.toNat 0 [AV.int IntKind.i64 y0.fst, AV.int IntKind.i64 y0.snd.fst, AV.str y0.snd.snd.fst, AV.view 4 y0.snd.snd.snd])))))
       (.no))
      (.no))
     (.no))
    (.no))
   (.no))
  (.at (.done 1))
noncomputable def st_u30q (G_u48q : GT_u48q) : TT_u30q → DT (Rd TT_u30q) := (Sum.elim (fun v => st_u30q_0 G_u48q v.1 v.2.1 v.2.2.1 v.2.2.2.1 v.2.2.2.2.1 v.2.2.2.2.2.1 v.2.2.2.2.2.2.1 v.2.2.2.2.2.2.2) (fun v => st_u30q_1 G_u48q v.1 v.2.1 v.2.2.1 v.2.2.2.1 v.2.2.2.2.1 v.2.2.2.2.2.1 v.2.2.2.2.2.2.1 v.2.2.2.2.2.2.2.1 v.2.2.2.2.2.2.2.2))
noncomputable def l_u30q (G_u48q : GT_u48q) (v : TT_u30q) : Option (Nat × TT_u30q) := lock (iterO (fun v => (st_u30q G_u48q v).ev) v)
theorem l_u30q_eq (G_u48q : GT_u48q) (v : TT_u30q) : l_u30q G_u48q v = iterO (fun v => (st_u30q G_u48q v).ev) v := lock_eq _
noncomputable def ll_u30q (G_u48q : GT_u48q) : LEnt := LE (τ := TT_u30q) (hD hs_u30q) (l_u30q G_u48q) x_u30q
theorem t_u30q (G_u48q : GT_u48q) (hG : GH_u48q G_u48q) : Go.Eng.Told IP (loopAt F40 0).1 (loopAt F40 0).2 (ll_u30q G_u48q) := loop_LE (inferInstance : Inhabited TT_u30q) (hs := hs_u30q) (st := st_u30q G_u48q) (L := []) (TG_u48q_ok G_u48q hG) (LOk_of (l := []) (by kernel_rfl) trivial) (l_u30q_eq G_u48q) (fun v => match v with | (.inl v) => by kernel_rfl | (.inr v) => by kernel_rfl) (fun v => match v with | (.inl v) => by kernel_rfl | (.inr v) => by kernel_rfl)
noncomputable def tr_u48q (G_u48q : GT_u48q) (x0 : Int) (x1 : Int) (x2 : List UInt8) (x3 : List AV) : DT B_u48q :=
 .br (decide (x3.length = 0))
  (.bi (pj 0 (l_u30q G_u48q (Sum.inl (0, 0, x0, x1, x2, 0, 0, [])))) (fun y0 =>
   .at (((sl y0).snd.snd.fst, (sl y0).snd.snd.snd.fst, (sl y0).snd.snd.snd.snd.fst, [])))
   (.bi (pj 1 (l_u30q G_u48q (Sum.inl (0, 0, x0, x1, x2, 0, 0, [])))) (fun y0 =>
    .at (((sr y0).snd.snd.fst, (sr y0).snd.snd.snd.fst, (sr y0).snd.snd.snd.snd.fst, (sr y0).snd.snd.snd.snd.snd.snd.snd.snd)))
    (.no)))
  (.br (decide (x3.length ≠ 0) && decide (x3.length * 56 ≤ lim))
   (.bi (pj 0 (l_u30q G_u48q (Sum.inr ((↑x3.length : Int), 0, x0, x1, x2, 0, 0, [], x3)))) (fun y0 =>
    .at (((sl y0).snd.snd.fst, (sl y0).snd.snd.snd.fst, (sl y0).snd.snd.snd.snd.fst, [])))
    (.bi (pj 1 (l_u30q G_u48q (Sum.inr ((↑x3.length : Int), 0, x0, x1, x2, 0, 0, [], x3)))) (fun y0 =>
     .at (((sr y0).snd.snd.fst, (sr y0).snd.snd.snd.fst, (sr y0).snd.snd.snd.snd.fst, (sr y0).snd.snd.snd.snd.snd.snd.snd.snd)))
     (.no)))
   (.no))
noncomputable def N_u48q : Nat → GT_u48q
  | 0 => fun _ _ _ _ => none
  | n + 1 => fun x0 x1 x2 x3 => (tr_u48q ((N_u48q n)) x0 x1 x2 x3).ev
noncomputable def f_u48q (x0 : Int) (x1 : Int) (x2 : List UInt8) (x3 : List AV) : Option B_u48q := limO fun n => (N_u48q n) x0 x1 x2 x3
theorem N_u48q_ok : ∀ n, GH_u48q ((N_u48q n))
  | 0 => (fun v y h => nomatch h)
  | n + 1 => have hG := N_u48q_ok n
    fun_FH (F := F40) (L := [(1004000, ll_u30q ((N_u48q n)))]) (t := fun (v : Int × Int × List UInt8 × List AV) => tr_u48q ((N_u48q n)) v.1 v.2.1 v.2.2.1 v.2.2.2) (TG_u48q_ok ((N_u48q n)) hG) (LOk_of (l := [loopAt F40 0]) (by kernel_rfl) ⟨sel_one (by kernel_rfl) (t_u30q ((N_u48q n)) hG), trivial⟩) (by kernel_rfl) (fun v => by kernel_rfl) (fun v => rfl)
theorem c_u48q : FH IP 40 p_u48q r_u48q (fun (v : Int × Int × List UInt8 × List AV) => (f_u48q v.1 v.2.1 v.2.2.1 v.2.2.2 : Option B_u48q)) := lim_FH (p := p_u48q) (rs := r_u48q) (s := fun n (v : Int × Int × List UInt8 × List AV) => (N_u48q n) v.1 v.2.1 v.2.2.1 v.2.2.2) fun n => (N_u48q_ok n)
noncomputable def T70 : Tab := (40, FE p_u48q r_u48q (fun (v : Int × Int × List UInt8 × List AV) => (f_u48q v.1 v.2.1 v.2.2.1 v.2.2.2 : Option B_u48q))) :: T69
theorem T70_ok : TabOk IP T70 := ⟨FE_ok c_u48q, T69_ok⟩
abbrev TT_u43q : Type := (Int × List AV × Int × Int) ⊕ (Int × List AV × Int × Int × List AV)
def hs_u43q : List PSt := [⟨[(1001800, .junk), (1, .int .i64), (5, .nils 10), (9, .view 10), (10, .int .i64), (11, .int .i64)], [], 0, 0⟩, ⟨[(1001800, .junk), (1, .int .i64), (5, .own 0 0), (9, .view 10), (10, .int .i64), (11, .int .i64)], [(0, .arr 10 false)], 1, 0⟩]
noncomputable def x_u43q_0 (x0 : Int) (x1 : List AV) (x2 : Int) (x3 : Int) : X × St := (X.exit 0, { tm := [(5, AV.nils { sz := 10, kd := NKd.nil })], hp := [], nx := 0, k := 0 })
noncomputable def x_u43q_1 (x0 : Int) (x1 : List AV) (x2 : Int) (x3 : Int) (x4 : List AV) : X × St := (X.exit 0, { tm := [(5, AV.own 0 0 none)], hp := [(0, Blk.arr 10 x4 false)], nx := 1, k := 0 })
noncomputable def x_u43q : List (TT_u43q → X × St) := [fun w => x_u43q_0 (sl w).1 (sl w).2.1 (sl w).2.2.1 (sl w).2.2.2, fun w => x_u43q_1 (sr w).1 (sr w).2.1 (sr w).2.2.1 (sr w).2.2.2.1 (sr w).2.2.2.2]
noncomputable def st_u43q_0 (x0 : Int) (x1 : List AV) (x2 : Int) (x3 : Int) : DT (Rd TT_u43q) :=
 .br (decide (x3 < x2))
  (.br (okAt [CS.str, CS.int IntKind.i64, CS.int IntKind.i64, CS.int IntKind.i64, CS.str, CS.slice 4, CS.int IntKind.i64, CS.int IntKind.i64, CS.str, CS.slice 4] x1 x3)
   (.br (intOf (cellAt x1 x3 1) == x0)
    (.bi (f_u48q (intOf (cellAt x1 x3 2)) (intOf (cellAt x1 x3 3)) (strOf (cellAt x1 x3 4)) (viewOf (cellAt x1 x3 5))) (fun y0 =>
     .bi (f_u48q (intOf (cellAt x1 x3 6)) (intOf (cellAt x1 x3 7)) (strOf (cellAt x1 x3 8)) (viewOf (cellAt x1 x3 9))) (fun y1 =>
      .at (.next ((.inr (x0, x1, x2, IntKind.i64.wrap (x3 + 1), [AV.agg
    [AV.str (strOf (cellAt x1 x3 0)), AV.int IntKind.i64 (intOf (cellAt x1 x3 1)), AV.int IntKind.i64 y0.fst, AV.int IntKind.i64 y0.snd.fst, AV.str y0.snd.snd.fst,
      AV.view 4 y0.snd.snd.snd, AV.int IntKind.i64 y1.fst, AV.int IntKind.i64 y1.snd.fst, AV.str y1.snd.snd.fst, AV.view 4 y1.snd.snd.snd]])))))
      (.no))
     (.no))
    (.at (.next ((.inl (x0, x1, x2, IntKind.i64.wrap (x3 + 1)))))))
   (.no))
  (.at (.done 0))
noncomputable def st_u43q_1 (x0 : Int) (x1 : List AV) (x2 : Int) (x3 : Int) (x4 : List AV) : DT (Rd TT_u43q) :=
 .br (decide (x3 < x2))
  (.br (okAt [CS.str, CS.int IntKind.i64, CS.int IntKind.i64, CS.int IntKind.i64, CS.str, CS.slice 4, CS.int IntKind.i64, CS.int IntKind.i64, CS.str, CS.slice 4] x1 x3)
   (.br (intOf (cellAt x1 x3 1) == x0)
    (.bi (f_u48q (intOf (cellAt x1 x3 2)) (intOf (cellAt x1 x3 3)) (strOf (cellAt x1 x3 4)) (viewOf (cellAt x1 x3 5))) (fun y0 =>
     .bi (f_u48q (intOf (cellAt x1 x3 6)) (intOf (cellAt x1 x3 7)) (strOf (cellAt x1 x3 8)) (viewOf (cellAt x1 x3 9))) (fun y1 =>
      .br (room (x4.length + 1) 136)
       (.at (.next ((.inr (x0, x1, x2, IntKind.i64.wrap (x3 + 1), x4 ++
  [AV.agg
      [AV.str (strOf (cellAt x1 x3 0)), AV.int IntKind.i64 (intOf (cellAt x1 x3 1)), AV.int IntKind.i64 y0.fst, AV.int IntKind.i64 y0.snd.fst, AV.str y0.snd.snd.fst,
        AV.view 4 y0.snd.snd.snd, AV.int IntKind.i64 y1.fst, AV.int IntKind.i64 y1.snd.fst, AV.str y1.snd.snd.fst, AV.view 4 y1.snd.snd.snd]])))))
       (.no))
      (.no))
     (.no))
    (.at (.next ((.inr (x0, x1, x2, IntKind.i64.wrap (x3 + 1), x4))))))
   (.no))
  (.at (.done 1))
noncomputable def st_u43q : TT_u43q → DT (Rd TT_u43q) := (Sum.elim (fun v => st_u43q_0 v.1 v.2.1 v.2.2.1 v.2.2.2) (fun v => st_u43q_1 v.1 v.2.1 v.2.2.1 v.2.2.2.1 v.2.2.2.2))
noncomputable def l_u43q (v : TT_u43q) : Option (Nat × TT_u43q) := lock (iterO (fun v => (st_u43q v).ev) v)
theorem l_u43q_eq (v : TT_u43q) : l_u43q v = iterO (fun v => (st_u43q v).ev) v := lock_eq _
noncomputable def ll_u43q : LEnt := LE (τ := TT_u43q) (hD hs_u43q) (l_u43q) x_u43q
theorem t_u43q : Go.Eng.Told IP (loopAt F18 0).1 (loopAt F18 0).2 (ll_u43q) := loop_LE (inferInstance : Inhabited TT_u43q) (hs := hs_u43q) (st := st_u43q) (L := []) T70_ok (LOk_of (l := []) (by kernel_rfl) trivial) (l_u43q_eq) (fun v => match v with | (.inl v) => by kernel_rfl | (.inr v) => by kernel_rfl) (fun v => match v with | (.inl v) => by kernel_rfl | (.inr v) => by kernel_rfl)
abbrev B_u70q : Type := List AV
def p_u70q : PArgs := ⟨[.agg [.str, .str, .str, .int .i64, .int .i64, .int .i64, .int .i64, .view 2, .bool, .int .i64, .int .i64, .bool, .view 2, .bool, .int .i64, .int .i64, .bool, .view 10, .view 6], .int .i64], []⟩
def r_u70q : List PRes := [⟨false, .view 10, []⟩]
noncomputable def tr_u70q (x0 : List UInt8) (x1 : List UInt8) (x2 : List UInt8) (x3 : Int) (x4 : Int) (x5 : Int) (x6 : Int) (x7 : List AV) (x8 : Bool) (x9 : Int) (x10 : Int) (x11 : Bool) (x12 : List AV) (x13 : Bool) (x14 : Int) (x15 : Int) (x16 : Bool) (x17 : List AV) (x18 : List AV) (x19 : Int) : DT B_u70q :=
 .bi (pj 0 (l_u43q (Sum.inl (x19, x17, (↑x17.length : Int), 0)))) (fun y0 =>
  .at ([]))
  (.bi (pj 1 (l_u43q (Sum.inl (x19, x17, (↑x17.length : Int), 0)))) (fun y0 =>
   .at ((sr y0).snd.snd.snd.snd))
   (.no))
noncomputable def f_u70q (x0 : List UInt8) (x1 : List UInt8) (x2 : List UInt8) (x3 : Int) (x4 : Int) (x5 : Int) (x6 : Int) (x7 : List AV) (x8 : Bool) (x9 : Int) (x10 : Int) (x11 : Bool) (x12 : List AV) (x13 : Bool) (x14 : Int) (x15 : Int) (x16 : Bool) (x17 : List AV) (x18 : List AV) (x19 : Int) : Option B_u70q := lock (tr_u70q x0 x1 x2 x3 x4 x5 x6 x7 x8 x9 x10 x11 x12 x13 x14 x15 x16 x17 x18 x19).ev
theorem f_u70q_eq (x0 : List UInt8) (x1 : List UInt8) (x2 : List UInt8) (x3 : Int) (x4 : Int) (x5 : Int) (x6 : Int) (x7 : List AV) (x8 : Bool) (x9 : Int) (x10 : Int) (x11 : Bool) (x12 : List AV) (x13 : Bool) (x14 : Int) (x15 : Int) (x16 : Bool) (x17 : List AV) (x18 : List AV) (x19 : Int) : f_u70q x0 x1 x2 x3 x4 x5 x6 x7 x8 x9 x10 x11 x12 x13 x14 x15 x16 x17 x18 x19 = (tr_u70q x0 x1 x2 x3 x4 x5 x6 x7 x8 x9 x10 x11 x12 x13 x14 x15 x16 x17 x18 x19).ev := lock_eq _
theorem c_u70q : FH IP 18 p_u70q r_u70q (fun (v : List UInt8 × List UInt8 × List UInt8 × Int × Int × Int × Int × List AV × Bool × Int × Int × Bool × List AV × Bool × Int × Int × Bool × List AV × List AV × Int) => (f_u70q v.1 v.2.1 v.2.2.1 v.2.2.2.1 v.2.2.2.2.1 v.2.2.2.2.2.1 v.2.2.2.2.2.2.1 v.2.2.2.2.2.2.2.1 v.2.2.2.2.2.2.2.2.1 v.2.2.2.2.2.2.2.2.2.1 v.2.2.2.2.2.2.2.2.2.2.1 v.2.2.2.2.2.2.2.2.2.2.2.1 v.2.2.2.2.2.2.2.2.2.2.2.2.1 v.2.2.2.2.2.2.2.2.2.2.2.2.2.1 v.2.2.2.2.2.2.2.2.2.2.2.2.2.2.1 v.2.2.2.2.2.2.2.2.2.2.2.2.2.2.2.1 v.2.2.2.2.2.2.2.2.2.2.2.2.2.2.2.2.1 v.2.2.2.2.2.2.2.2.2.2.2.2.2.2.2.2.2.1 v.2.2.2.2.2.2.2.2.2.2.2.2.2.2.2.2.2.2.1 v.2.2.2.2.2.2.2.2.2.2.2.2.2.2.2.2.2.2.2 : Option B_u70q)) := fun_FH (F := F18) (L := [(1001800, ll_u43q)]) (t := fun (v : List UInt8 × List UInt8 × List UInt8 × Int × Int × Int × Int × List AV × Bool × Int × Int × Bool × List AV × Bool × Int × Int × Bool × List AV × List AV × Int) => tr_u70q v.1 v.2.1 v.2.2.1 v.2.2.2.1 v.2.2.2.2.1 v.2.2.2.2.2.1 v.2.2.2.2.2.2.1 v.2.2.2.2.2.2.2.1 v.2.2.2.2.2.2.2.2.1 v.2.2.2.2.2.2.2.2.2.1 v.2.2.2.2.2.2.2.2.2.2.1 v.2.2.2.2.2.2.2.2.2.2.2.1 v.2.2.2.2.2.2.2.2.2.2.2.2.1 v.2.2.2.2.2.2.2.2.2.2.2.2.2.1 v.2.2.2.2.2.2.2.2.2.2.2.2.2.2.1 v.2.2.2.2.2.2.2.2.2.2.2.2.2.2.2.1 v.2.2.2.2.2.2.2.2.2.2.2.2.2.2.2.2.1 v.2.2.2.2.2.2.2.2.2.2.2.2.2.2.2.2.2.1 v.2.2.2.2.2.2.2.2.2.2.2.2.2.2.2.2.2.2.1 v.2.2.2.2.2.2.2.2.2.2.2.2.2.2.2.2.2.2.2) T70_ok (LOk_of (l := [loopAt F18 0]) (by kernel_rfl) ⟨sel_one (by kernel_rfl) t_u43q, trivial⟩) (by kernel_rfl) (fun v => by kernel_rfl) (fun v => f_u70q_eq v.1 v.2.1 v.2.2.1 v.2.2.2.1 v.2.2.2.2.1 v.2.2.2.2.2.1 v.2.2.2.2.2.2.1 v.2.2.2.2.2.2.2.1 v.2.2.2.2.2.2.2.2.1 v.2.2.2.2.2.2.2.2.2.1 v.2.2.2.2.2.2.2.2.2.2.1 v.2.2.2.2.2.2.2.2.2.2.2.1 v.2.2.2.2.2.2.2.2.2.2.2.2.1 v.2.2.2.2.2.2.2.2.2.2.2.2.2.1 v.2.2.2.2.2.2.2.2.2.2.2.2.2.2.1 v.2.2.2.2.2.2.2.2.2.2.2.2.2.2.2.1 v.2.2.2.2.2.2.2.2.2.2.2.2.2.2.2.2.1 v.2.2.2.2.2.2.2.2.2.2.2.2.2.2.2.2.2.1 v.2.2.2.2.2.2.2.2.2.2.2.2.2.2.2.2.2.2.1 v.2.2.2.2.2.2.2.2.2.2.2.2.2.2.2.2.2.2.2)
noncomputable def T71 : Tab := (18, FE p_u70q r_u70q (fun (v : List UInt8 × List UInt8 × List UInt8 × Int × Int × Int × Int × List AV × Bool × Int × Int × Bool × List AV × Bool × Int × Int × Bool × List AV × List AV × Int) => (f_u70q v.1 v.2.1 v.2.2.1 v.2.2.2.1 v.2.2.2.2.1 v.2.2.2.2.2.1 v.2.2.2.2.2.2.1 v.2.2.2.2.2.2.2.1 v.2.2.2.2.2.2.2.2.1 v.2.2.2.2.2.2.2.2.2.1 v.2.2.2.2.2.2.2.2.2.2.1 v.2.2.2.2.2.2.2.2.2.2.2.1 v.2.2.2.2.2.2.2.2.2.2.2.2.1 v.2.2.2.2.2.2.2.2.2.2.2.2.2.1 v.2.2.2.2.2.2.2.2.2.2.2.2.2.2.1 v.2.2.2.2.2.2.2.2.2.2.2.2.2.2.2.1 v.2.2.2.2.2.2.2.2.2.2.2.2.2.2.2.2.1 v.2.2.2.2.2.2.2.2.2.2.2.2.2.2.2.2.2.1 v.2.2.2.2.2.2.2.2.2.2.2.2.2.2.2.2.2.2.1 v.2.2.2.2.2.2.2.2.2.2.2.2.2.2.2.2.2.2.2 : Option B_u70q))) :: T70
theorem T71_ok : TabOk IP T71 := ⟨FE_ok c_u70q, T70_ok⟩
abbrev B_u72q : Type := List AV × Bool × Int × Int × Bool
def p_u72q : PArgs := ⟨[.agg [.str, .str, .str, .int .i64, .int .i64, .int .i64, .int .i64, .view 2, .bool, .int .i64, .int .i64, .bool, .view 2, .bool, .int .i64, .int .i64, .bool, .view 10, .view 6], .int .i64], []⟩
def r_u72q : List PRes := [⟨false, .agg [.view 2, .bool, .int .i64, .int .i64, .bool], []⟩]
noncomputable def tr_u72q (x0 : List UInt8) (x1 : List UInt8) (x2 : List UInt8) (x3 : Int) (x4 : Int) (x5 : Int) (x6 : Int) (x7 : List AV) (x8 : Bool) (x9 : Int) (x10 : Int) (x11 : Bool) (x12 : List AV) (x13 : Bool) (x14 : Int) (x15 : Int) (x16 : Bool) (x17 : List AV) (x18 : List AV) (x19 : Int) : DT B_u72q :=
 .br (decide (x19 < 0))
  (.br (decide (x12.length = 0))
   (.at (([], x13, x14, x15, x16)))
   (.br (decide (x12.length ≠ 0) && decide (x12.length * 16 ≤ lim)) (.at ((x12, x13, x14, x15, x16))) (.no)))
  (.br (decide (x7.length = 0))
   (.at (([], x8, x9, x10, x11)))
   (.br (decide (x7.length ≠ 0) && decide (x7.length * 16 ≤ lim)) (.at ((x7, x8, x9, x10, x11))) (.no)))
noncomputable def f_u72q (x0 : List UInt8) (x1 : List UInt8) (x2 : List UInt8) (x3 : Int) (x4 : Int) (x5 : Int) (x6 : Int) (x7 : List AV) (x8 : Bool) (x9 : Int) (x10 : Int) (x11 : Bool) (x12 : List AV) (x13 : Bool) (x14 : Int) (x15 : Int) (x16 : Bool) (x17 : List AV) (x18 : List AV) (x19 : Int) : Option B_u72q := lock (tr_u72q x0 x1 x2 x3 x4 x5 x6 x7 x8 x9 x10 x11 x12 x13 x14 x15 x16 x17 x18 x19).ev
theorem f_u72q_eq (x0 : List UInt8) (x1 : List UInt8) (x2 : List UInt8) (x3 : Int) (x4 : Int) (x5 : Int) (x6 : Int) (x7 : List AV) (x8 : Bool) (x9 : Int) (x10 : Int) (x11 : Bool) (x12 : List AV) (x13 : Bool) (x14 : Int) (x15 : Int) (x16 : Bool) (x17 : List AV) (x18 : List AV) (x19 : Int) : f_u72q x0 x1 x2 x3 x4 x5 x6 x7 x8 x9 x10 x11 x12 x13 x14 x15 x16 x17 x18 x19 = (tr_u72q x0 x1 x2 x3 x4 x5 x6 x7 x8 x9 x10 x11 x12 x13 x14 x15 x16 x17 x18 x19).ev := lock_eq _
theorem c_u72q : FH IP 15 p_u72q r_u72q (fun (v : List UInt8 × List UInt8 × List UInt8 × Int × Int × Int × Int × List AV × Bool × Int × Int × Bool × List AV × Bool × Int × Int × Bool × List AV × List AV × Int) => (f_u72q v.1 v.2.1 v.2.2.1 v.2.2.2.1 v.2.2.2.2.1 v.2.2.2.2.2.1 v.2.2.2.2.2.2.1 v.2.2.2.2.2.2.2.1 v.2.2.2.2.2.2.2.2.1 v.2.2.2.2.2.2.2.2.2.1 v.2.2.2.2.2.2.2.2.2.2.1 v.2.2.2.2.2.2.2.2.2.2.2.1 v.2.2.2.2.2.2.2.2.2.2.2.2.1 v.2.2.2.2.2.2.2.2.2.2.2.2.2.1 v.2.2.2.2.2.2.2.2.2.2.2.2.2.2.1 v.2.2.2.2.2.2.2.2.2.2.2.2.2.2.2.1 v.2.2.2.2.2.2.2.2.2.2.2.2.2.2.2.2.1 v.2.2.2.2.2.2.2.2.2.2.2.2.2.2.2.2.2.1 v.2.2.2.2.2.2.2.2.2.2.2.2.2.2.2.2.2.2.1 v.2.2.2.2.2.2.2.2.2.2.2.2.2.2.2.2.2.2.2 : Option B_u72q)) := fun_FH (F := F15) (L := []) (t := fun (v : List UInt8 × List UInt8 × List UInt8 × Int × Int × Int × Int × List AV × Bool × Int × Int × Bool × List AV × Bool × Int × Int × Bool × List AV × List AV × Int) => tr_u72q v.1 v.2.1 v.2.2.1 v.2.2.2.1 v.2.2.2.2.1 v.2.2.2.2.2.1 v.2.2.2.2.2.2.1 v.2.2.2.2.2.2.2.1 v.2.2.2.2.2.2.2.2.1 v.2.2.2.2.2.2.2.2.2.1 v.2.2.2.2.2.2.2.2.2.2.1 v.2.2.2.2.2.2.2.2.2.2.2.1 v.2.2.2.2.2.2.2.2.2.2.2.2.1 v.2.2.2.2.2.2.2.2.2.2.2.2.2.1 v.2.2.2.2.2.2.2.2.2.2.2.2.2.2.1 v.2.2.2.2.2.2.2.2.2.2.2.2.2.2.2.1 v.2.2.2.2.2.2.2.2.2.2.2.2.2.2.2.2.1 v.2.2.2.2.2.2.2.2.2.2.2.2.2.2.2.2.2.1 v.2.2.2.2.2.2.2.2.2.2.2.2.2.2.2.2.2.2.1 v.2.2.2.2.2.2.2.2.2.2.2.2.2.2.2.2.2.2.2) T71_ok (LOk_of (l := []) (by kernel_rfl) trivial) (by kernel_rfl) (fun v => by kernel_rfl) (fun v => f_u72q_eq v.1 v.2.1 v.2.2.1 v.2.2.2.1 v.2.2.2.2.1 v.2.2.2.2.2.1 v.2.2.2.2.2.2.1 v.2.2.2.2.2.2.2.1 v.2.2.2.2.2.2.2.2.1 v.2.2.2.2.2.2.2.2.2.1 v.2.2.2.2.2.2.2.2.2.2.1 v.2.2.2.2.2.2.2.2.2.2.2.1 v.2.2.2.2.2.2.2.2.2.2.2.2.1 v.2.2.2.2.2.2.2.2.2.2.2.2.2.1 v.2.2.2.2.2.2.2.2.2.2.2.2.2.2.1 v.2.2.2.2.2.2.2.2.2.2.2.2.2.2.2.1 v.2.2.2.2.2.2.2.2.2.2.2.2.2.2.2.2.1 v.2.2.2.2.2.2.2.2.2.2.2.2.2.2.2.2.2.1 v.2.2.2.2.2.2.2.2.2.2.2.2.2.2.2.2.2.2.1 v.2.2.2.2.2.2.2.2.2.2.2.2.2.2.2.2.2.2.2)
noncomputable def T72 : Tab := (15, FE p_u72q r_u72q (fun (v : List UInt8 × List UInt8 × List UInt8 × Int × Int × Int × Int × List AV × Bool × Int × Int × Bool × List AV × Bool × Int × Int × Bool × List AV × List AV × Int) => (f_u72q v.1 v.2.1 v.2.2.1 v.2.2.2.1 v.2.2.2.2.1 v.2.2.2.2.2.1 v.2.2.2.2.2.2.1 v.2.2.2.2.2.2.2.1 v.2.2.2.2.2.2.2.2.1 v.2.2.2.2.2.2.2.2.2.1 v.2.2.2.2.2.2.2.2.2.2.1 v.2.2.2.2.2.2.2.2.2.2.2.1 v.2.2.2.2.2.2.2.2.2.2.2.2.1 v.2.2.2.2.2.2.2.2.2.2.2.2.2.1 v.2.2.2.2.2.2.2.2.2.2.2.2.2.2.1 v.2.2.2.2.2.2.2.2.2.2.2.2.2.2.2.1 v.2.2.2.2.2.2.2.2.2.2.2.2.2.2.2.2.1 v.2.2.2.2.2.2.2.2.2.2.2.2.2.2.2.2.2.1 v.2.2.2.2.2.2.2.2.2.2.2.2.2.2.2.2.2.2.1 v.2.2.2.2.2.2.2.2.2.2.2.2.2.2.2.2.2.2.2 : Option B_u72q))) :: T71
theorem T72_ok : TabOk IP T72 := ⟨FE_ok c_u72q, T71_ok⟩
abbrev TT_u24q : Type := Int × Int × List AV × Bool × Int × Int × Bool × List AV × Bool × Int × Int × Bool
def hs_u24q : List PSt := [⟨[(1004100, .junk), (2, .ref 0 0 0), (3, .ref 1 0 0), (15, .int .i64), (16, .int .i64)], [(0, .box [.view 2, .bool, .int .i64, .int .i64, .bool] false), (1, .box [.view 2, .bool, .int .i64, .int .i64, .bool] false)], 2, 0⟩]
noncomputable def x_u24q_0 (x0 : Int) (x1 : Int) (x2 : List AV) (x3 : Bool) (x4 : Int) (x5 : Int) (x6 : Bool) (x7 : List AV) (x8 : Bool) (x9 : Int) (x10 : Int) (x11 : Bool) : X × St := (X.ret,
  { tm := [(2, AV.ref 0 0 0), (3, AV.ref 1 0 0), (4, AV.bool false)],
    hp :=
      [(0, Blk.box [AV.view 2 x2, AV.bool x3, AV.int IntKind.i64 x4, AV.int IntKind.i64 x5, AV.bool x6] false),
        (1, Blk.box [AV.view 2 x7, AV.bool x8, AV.int IntKind.i64 x9, AV.int IntKind.i64 x10, AV.bool x11] false)],
    nx := 2, k := 0 })
noncomputable def x_u24q_1 (x0 : Int) (x1 : Int) (x2 : List AV) (x3 : Bool) (x4 : Int) (x5 : Int) (x6 : Bool) (x7 : List AV) (x8 : Bool) (x9 : Int) (x10 : Int) (x11 : Bool) : X × St := (X.exit 0,
  { tm := [(2, AV.ref 0 0 0), (3, AV.ref 1 0 0), (4, AV.junk)],
    hp :=
      [(0, Blk.box [AV.view 2 x2, AV.bool x3, AV.int IntKind.i64 x4, AV.int IntKind.i64 x5, AV.bool x6] false),
        (1, Blk.box [AV.view 2 x7, AV.bool x8, AV.int IntKind.i64 x9, AV.int IntKind.i64 x10, AV.bool x11] false)],
    nx := 2, k := 0 })
noncomputable def x_u24q : List (TT_u24q → X × St) := [fun w => x_u24q_0 w.1 w.2.1 w.2.2.1 w.2.2.2.1 w.2.2.2.2.1 w.2.2.2.2.2.1 w.2.2.2.2.2.2.1 w.2.2.2.2.2.2.2.1 w.2.2.2.2.2.2.2.2.1 w.2.2.2.2.2.2.2.2.2.1 w.2.2.2.2.2.2.2.2.2.2.1 w.2.2.2.2.2.2.2.2.2.2.2, fun w => x_u24q_1 w.1 w.2.1 w.2.2.1 w.2.2.2.1 w.2.2.2.2.1 w.2.2.2.2.2.1 w.2.2.2.2.2.2.1 w.2.2.2.2.2.2.2.1 w.2.2.2.2.2.2.2.2.1 w.2.2.2.2.2.2.2.2.2.1 w.2.2.2.2.2.2.2.2.2.2.1 w.2.2.2.2.2.2.2.2.2.2.2]
noncomputable def st_u24q_0 (x0 : Int) (x1 : Int) (x2 : List AV) (x3 : Bool) (x4 : Int) (x5 : Int) (x6 : Bool) (x7 : List AV) (x8 : Bool) (x9 : Int) (x10 : Int) (x11 : Bool) : DT (Rd TT_u24q) :=
 .br (decide (x1 < x0))
  (.br (okAt [CS.int IntKind.i64, CS.int IntKind.i64] x2 x1)
   (.br (okAt [CS.int IntKind.i64, CS.int IntKind.i64] x7 x1)
    (.br (if true = true then !(intOf (cellAt x2 x1 0) == intOf (cellAt x7 x1 0) && (intOf (cellAt x2 x1 1) == intOf (cellAt x7 x1 1) && true))
      else intOf (cellAt x2 x1 0) == intOf (cellAt x7 x1 0) && (intOf (cellAt x2 x1 1) == intOf (cellAt x7 x1 1) && true))
     (.at (.done 0))
     (.at (.next ((x0, IntKind.i64.wrap (x1 + 1), x2, x3, x4, x5, x6, x7, x8, x9, x10, x11)))))
    (.no))
   (.no))
  (.at (.done 1))
noncomputable def st_u24q : TT_u24q → DT (Rd TT_u24q) := (fun v => st_u24q_0 v.1 v.2.1 v.2.2.1 v.2.2.2.1 v.2.2.2.2.1 v.2.2.2.2.2.1 v.2.2.2.2.2.2.1 v.2.2.2.2.2.2.2.1 v.2.2.2.2.2.2.2.2.1 v.2.2.2.2.2.2.2.2.2.1 v.2.2.2.2.2.2.2.2.2.2.1 v.2.2.2.2.2.2.2.2.2.2.2)
noncomputable def l_u24q (v : TT_u24q) : Option (Nat × TT_u24q) := lock (iterO (fun v => (st_u24q v).ev) v)
theorem l_u24q_eq (v : TT_u24q) : l_u24q v = iterO (fun v => (st_u24q v).ev) v := lock_eq _
noncomputable def ll_u24q : LEnt := LE (τ := TT_u24q) (hD hs_u24q) (l_u24q) x_u24q
theorem t_u24q : Go.Eng.Told IP (loopAt F41 0).1 (loopAt F41 0).2 (ll_u24q) := loop_LE (inferInstance : Inhabited TT_u24q) (hs := hs_u24q) (st := st_u24q) (L := []) T72_ok (LOk_of (l := []) (by kernel_rfl) trivial) (l_u24q_eq) (fun v => by kernel_rfl) (fun v => by kernel_rfl)
abbrev B_u25q : Type := Bool
def p_u25q : PArgs := ⟨[.agg [.view 2, .bool, .int .i64, .int .i64, .bool], .agg [.view 2, .bool, .int .i64, .int .i64, .bool]], []⟩
def r_u25q : List PRes := [⟨false, .bool, []⟩]
noncomputable def tr_u25q (x0 : List AV) (x1 : Bool) (x2 : Int) (x3 : Int) (x4 : Bool) (x5 : List AV) (x6 : Bool) (x7 : Int) (x8 : Int) (x9 : Bool) : DT B_u25q :=
 .br ((↑x0.length : Int) != (↑x5.length : Int))
  (.at (false))
  (.bi (pj 0 (l_u24q ((↑x0.length : Int), 0, x0, x1, x2, x3, x4, x5, x6, x7, x8, x9))) (fun y0 =>
   .at (false))
   (.bi (pj 1 (l_u24q ((↑x0.length : Int), 0, x0, x1, x2, x3, x4, x5, x6, x7, x8, x9))) (fun y0 =>
    .bi (br (if false = true then !y0.snd.snd.snd.fst == y0.snd.snd.snd.snd.snd.snd.snd.snd.fst else y0.snd.snd.snd.fst == y0.snd.snd.snd.snd.snd.snd.snd.snd.fst)
        (some (y0.snd.snd.snd.snd.fst == y0.snd.snd.snd.snd.snd.snd.snd.snd.snd.fst)) (some false)) (fun y1 =>
     .bi (br y1 (some (y0.snd.snd.snd.snd.snd.fst == y0.snd.snd.snd.snd.snd.snd.snd.snd.snd.snd.fst)) (some false)) (fun y2 =>
      .bi (br y2
          (some
            (if false = true then !y0.snd.snd.snd.snd.snd.snd.fst == y0.snd.snd.snd.snd.snd.snd.snd.snd.snd.snd.snd
            else y0.snd.snd.snd.snd.snd.snd.fst == y0.snd.snd.snd.snd.snd.snd.snd.snd.snd.snd.snd))
          (some false)) (fun y3 =>
       .at (y3))
       (.no))
      (.no))
     (.no))
    (.no)))
noncomputable def f_u25q (x0 : List AV) (x1 : Bool) (x2 : Int) (x3 : Int) (x4 : Bool) (x5 : List AV) (x6 : Bool) (x7 : Int) (x8 : Int) (x9 : Bool) : Option B_u25q := lock (tr_u25q x0 x1 x2 x3 x4 x5 x6 x7 x8 x9).ev
theorem f_u25q_eq (x0 : List AV) (x1 : Bool) (x2 : Int) (x3 : Int) (x4 : Bool) (x5 : List AV) (x6 : Bool) (x7 : Int) (x8 : Int) (x9 : Bool) : f_u25q x0 x1 x2 x3 x4 x5 x6 x7 x8 x9 = (tr_u25q x0 x1 x2 x3 x4 x5 x6 x7 x8 x9).ev := lock_eq _
theorem c_u25q : FH IP 41 p_u25q r_u25q (fun (v : List AV × Bool × Int × Int × Bool × List AV × Bool × Int × Int × Bool) => (f_u25q v.1 v.2.1 v.2.2.1 v.2.2.2.1 v.2.2.2.2.1 v.2.2.2.2.2.1 v.2.2.2.2.2.2.1 v.2.2.2.2.2.2.2.1 v.2.2.2.2.2.2.2.2.1 v.2.2.2.2.2.2.2.2.2 : Option B_u25q)) := fun_FH (F := F41) (L := [(1004100, ll_u24q)]) (t := fun (v : List AV × Bool × Int × Int × Bool × List AV × Bool × Int × Int × Bool) => tr_u25q v.1 v.2.1 v.2.2.1 v.2.2.2.1 v.2.2.2.2.1 v.2.2.2.2.2.1 v.2.2.2.2.2.2.1 v.2.2.2.2.2.2.2.1 v.2.2.2.2.2.2.2.2.1 v.2.2.2.2.2.2.2.2.2) T72_ok (LOk_of (l := [loopAt F41 0]) (by kernel_rfl) ⟨sel_one (by kernel_rfl) t_u24q, trivial⟩) (by kernel_rfl) (fun v => by kernel_rfl) (fun v => f_u25q_eq v.1 v.2.1 v.2.2.1 v.2.2.2.1 v.2.2.2.2.1 v.2.2.2.2.2.1 v.2.2.2.2.2.2.1 v.2.2.2.2.2.2.2.1 v.2.2.2.2.2.2.2.2.1 v.2.2.2.2.2.2.2.2.2)
noncomputable def T73 : Tab := (41, FE p_u25q r_u25q (fun (v : List AV × Bool × Int × Int × Bool × List AV × Bool × Int × Int × Bool) => (f_u25q v.1 v.2.1 v.2.2.1 v.2.2.2.1 v.2.2.2.2.1 v.2.2.2.2.2.1 v.2.2.2.2.2.2.1 v.2.2.2.2.2.2.2.1 v.2.2.2.2.2.2.2.2.1 v.2.2.2.2.2.2.2.2.2 : Option B_u25q))) :: T72
theorem T73_ok : TabOk IP T73 := ⟨FE_ok c_u25q, T72_ok⟩
abbrev B_u109q : Type := Bool
def p_u109q : PArgs := ⟨[.agg [.int .i64, .int .i64, .str, .view 4], .agg [.int .i64, .int .i64, .str, .view 4]], []⟩
def r_u109q : List PRes := [⟨false, .bool, []⟩]
abbrev GT_u109q : Type := Int → Int → (List UInt8) → (List AV) → Int → Int → (List UInt8) → (List AV) → Option B_u109q
abbrev B_u2q : Type := Bool
def p_u2q : PArgs := ⟨[.view 4, .view 4, .fn (.func 44) []], []⟩
def r_u2q : List PRes := [⟨false, .bool, []⟩]
abbrev GT_u2q : Type := (List AV) → (List AV) → Option B_u2q
def GH_u109q (G_u109q : GT_u109q) (G_u2q : GT_u2q) : Prop := FH IP 44 p_u109q r_u109q (fun (v : Int × Int × List UInt8 × List AV × Int × Int × List UInt8 × List AV) => (G_u109q v.1 v.2.1 v.2.2.1 v.2.2.2.1 v.2.2.2.2.1 v.2.2.2.2.2.1 v.2.2.2.2.2.2.1 v.2.2.2.2.2.2.2 : Option B_u109q)) ∧ FH IP 59 p_u2q r_u2q (fun (v : List AV × List AV) => (G_u2q v.1 v.2 : Option B_u2q))
noncomputable def TG_u109q (G_u109q : GT_u109q) (G_u2q : GT_u2q) : Tab := (44, FE p_u109q r_u109q (fun (v : Int × Int × List UInt8 × List AV × Int × Int × List UInt8 × List AV) => (G_u109q v.1 v.2.1 v.2.2.1 v.2.2.2.1 v.2.2.2.2.1 v.2.2.2.2.2.1 v.2.2.2.2.2.2.1 v.2.2.2.2.2.2.2 : Option B_u109q))) :: (59, FE p_u2q r_u2q (fun (v : List AV × List AV) => (G_u2q v.1 v.2 : Option B_u2q))) :: T73
theorem TG_u109q_ok (G_u109q : GT_u109q) (G_u2q : GT_u2q) (hG : GH_u109q G_u109q G_u2q) : TabOk IP (TG_u109q G_u109q G_u2q) := ⟨FE_ok (hG.1), FE_ok (hG.2), T73_ok⟩
end Go.Proofs.H15v

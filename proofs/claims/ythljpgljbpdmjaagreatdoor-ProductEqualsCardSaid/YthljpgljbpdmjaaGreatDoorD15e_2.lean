/- Functions over plain data. Printed by a program of mine. -/
import Derived.Test.YthljpgljbpdmjaaGreatDoorD15e_1
import Derived.KernelRfl
set_option linter.unusedVariables false
set_option linter.unusedSimpArgs false
set_option linter.unnecessarySimpa false
namespace Go.Proofs.H15e
open Go Go.Eng
set_option maxRecDepth 100000
abbrev TT_u81q : Type := List AV × List AV × Int × Int
def hs_u81q : List PSt := [⟨[(1005400, .junk), (0, .view 2), (8, .view 2), (9, .int .i64), (10, .int .i64)], [], 0, 0⟩]
noncomputable def x_u81q_0 (x0 x1 : List AV) (x2 x3 : Int) : X × St := (X.ret, { tm := [(0, AV.view 2 x0), (2, AV.int IntKind.i64 1)], hp := [], nx := 0, k := 0 })
noncomputable def x_u81q_1 (x0 x1 : List AV) (x2 x3 : Int) : X × St := (X.exit 0, { tm := [(0, AV.view 2 x0), (2, AV.junk)], hp := [], nx := 0, k := 0 })
noncomputable def x_u81q : List (TT_u81q → X × St) := [fun w => x_u81q_0 w.1 w.2.1 w.2.2.1 w.2.2.2, fun w => x_u81q_1 w.1 w.2.1 w.2.2.1 w.2.2.2]
noncomputable def st_u81q_0 (x0 x1 : List AV) (x2 x3 : Int) : DT (Rd TT_u81q) :=
 .br (decide (x3 < x2))
  (.br (okAt [CS.int IntKind.i64, CS.int IntKind.i64] x1 x3)
   (.bi (br (decide (intOf (cellAt x1 x3 0) < 0)) (some true) (some (decide (intOf (cellAt x1 x3 0) > 1000000000000)))) (fun y0 =>
    .bi (br y0 (some true) (some (decide (intOf (cellAt x1 x3 1) < 0)))) (fun y1 =>
     .bi (br y1 (some true) (some (decide (intOf (cellAt x1 x3 1) > 1000000)))) (fun y2 =>
      .br (y2) (.at (.done 0)) (.at (.next ((x0, x1, x2, IntKind.i64.wrap (x3 + 1))))))
      (.no))
     (.no))
    (.no))
   (.no))
  (.at (.done 1))
noncomputable def st_u81q : TT_u81q → DT (Rd TT_u81q) := (fun v => st_u81q_0 v.1 v.2.1 v.2.2.1 v.2.2.2)
noncomputable def l_u81q (v : TT_u81q) : Option (Nat × TT_u81q) := lock (iterO (fun v => (st_u81q v).ev) v)
theorem l_u81q_eq (v : TT_u81q) : l_u81q v = iterO (fun v => (st_u81q v).ev) v := lock_eq _
noncomputable def ll_u81q : LEnt := LE (τ := TT_u81q) (hD hs_u81q) (l_u81q) x_u81q
theorem t_u81q : Go.Eng.Told IP (loopAt F54 0).1 (loopAt F54 0).2 (ll_u81q) := loop_LE (inferInstance : Inhabited TT_u81q) (hs := hs_u81q) (st := st_u81q) (L := []) T11_ok (LOk_of (l := []) (by kernel_rfl) trivial) (l_u81q_eq) (fun v => by kernel_rfl) (fun v => by kernel_rfl)
abbrev B_u82q : Type := Int
def p_u82q : PArgs := ⟨[.agg [.int .i64, .int .i64]], []⟩
def r_u82q : List PRes := [⟨false, .int .i64, []⟩]
noncomputable def tr_u82q (x0 x1 : Int) : DT B_u82q :=
 .at (x0)
noncomputable def f_u82q (x0 x1 : Int) : Option B_u82q := lock (tr_u82q x0 x1).ev
theorem f_u82q_eq (x0 x1 : Int) : f_u82q x0 x1 = (tr_u82q x0 x1).ev := lock_eq _
theorem c_u82q : FH IP 72 p_u82q r_u82q (fun (v : Int × Int) => (f_u82q v.1 v.2 : Option B_u82q)) := fun_FH (F := F72) (L := []) (t := fun (v : Int × Int) => tr_u82q v.1 v.2) T11_ok (LOk_of (l := []) (by kernel_rfl) trivial) (by kernel_rfl) (fun v => by kernel_rfl) (fun v => f_u82q_eq v.1 v.2)
noncomputable def T12 : Tab := (72, FE p_u82q r_u82q (fun (v : Int × Int) => (f_u82q v.1 v.2 : Option B_u82q))) :: T11
theorem T12_ok : TabOk IP T12 := ⟨FE_ok c_u82q, T11_ok⟩
abbrev TT_u21q : Type := List AV × Int
def hs_u21q : List PSt := [⟨[(1007100, .junk), (0, .view 2), (1, .fn (.func 72) []), (5, .int .i64)], [], 0, 0⟩]
noncomputable def x_u21q_0 (x0 : List AV) (x1 : Int) : X × St := (X.ret, { tm := [(4, AV.bool false)], hp := [], nx := 0, k := 0 })
noncomputable def x_u21q_1 (x0 : List AV) (x1 : Int) : X × St := (X.exit 0, { tm := [(4, AV.junk)], hp := [], nx := 0, k := 0 })
noncomputable def x_u21q : List (TT_u21q → X × St) := [fun w => x_u21q_0 w.1 w.2, fun w => x_u21q_1 w.1 w.2]
noncomputable def st_u21q_0 (x0 : List AV) (x1 : Int) : DT (Rd TT_u21q) :=
 .br (decide (x1 < (↑x0.length : Int)))
  (.br (okAt [CS.int IntKind.i64, CS.int IntKind.i64] x0 x1)
   (.bi (f_u82q (intOf (cellAt x0 x1 0)) (intOf (cellAt x0 x1 1))) (fun y0 =>
    .br (okAt [CS.int IntKind.i64, CS.int IntKind.i64] x0 (IntKind.i64.wrap (x1 - 1)))
     (.bi (f_u82q (intOf (cellAt x0 (IntKind.i64.wrap (x1 - 1)) 0)) (intOf (cellAt x0 (IntKind.i64.wrap (x1 - 1)) 1))) (fun y1 =>
      .br (decide (y0 ≤ y1)) (.at (.done 0)) (.at (.next ((x0, IntKind.i64.wrap (x1 + 1))))))
      (.no))
     (.no))
    (.no))
   (.no))
  (.at (.done 1))
noncomputable def st_u21q : TT_u21q → DT (Rd TT_u21q) := (fun v => st_u21q_0 v.1 v.2)
noncomputable def l_u21q (v : TT_u21q) : Option (Nat × TT_u21q) := lock (iterO (fun v => (st_u21q v).ev) v)
theorem l_u21q_eq (v : TT_u21q) : l_u21q v = iterO (fun v => (st_u21q v).ev) v := lock_eq _
noncomputable def ll_u21q : LEnt := LE (τ := TT_u21q) (hD hs_u21q) (l_u21q) x_u21q
theorem t_u21q : Go.Eng.Told IP (loopAt F71 0).1 (loopAt F71 0).2 (ll_u21q) := loop_LE (inferInstance : Inhabited TT_u21q) (hs := hs_u21q) (st := st_u21q) (L := []) T12_ok (LOk_of (l := []) (by kernel_rfl) trivial) (l_u21q_eq) (fun v => by kernel_rfl) (fun v => by kernel_rfl)
abbrev B_u23q : Type := Bool
def p_u23q : PArgs := ⟨[.view 2, .fn (.func 72) []], []⟩
def r_u23q : List PRes := [⟨false, .bool, []⟩]
noncomputable def tr_u23q (x0 : List AV) : DT B_u23q :=
 .bi (pj 0 (l_u21q (x0, 1))) (fun y0 =>
  .at (false))
  (.bi (pj 1 (l_u21q (x0, 1))) (fun y0 =>
   .at (true))
   (.no))
noncomputable def f_u23q (x0 : List AV) : Option B_u23q := lock (tr_u23q x0).ev
theorem f_u23q_eq (x0 : List AV) : f_u23q x0 = (tr_u23q x0).ev := lock_eq _
theorem c_u23q : FH IP 71 p_u23q r_u23q (fun (v : List AV) => (f_u23q v : Option B_u23q)) := fun_FH (F := F71) (L := [(1007100, ll_u21q)]) (t := fun (v : List AV) => tr_u23q v) T12_ok (LOk_of (l := [loopAt F71 0]) (by kernel_rfl) ⟨sel_one (by kernel_rfl) t_u21q, trivial⟩) (by kernel_rfl) (fun v => by kernel_rfl) (fun v => f_u23q_eq v)
noncomputable def T13 : Tab := (71, FE p_u23q r_u23q (fun (v : List AV) => (f_u23q v : Option B_u23q))) :: T12
theorem T13_ok : TabOk IP T13 := ⟨FE_ok c_u23q, T12_ok⟩
abbrev B_u109q : Type := Int
def p_u109q : PArgs := ⟨[.view 2], []⟩
def r_u109q : List PRes := [⟨false, .int .i64, []⟩]
noncomputable def tr_u109q (x0 : List AV) : DT B_u109q :=
 .br (decide ((↑x0.length : Int) > 6))
  (.at (5))
  (.bi (pj 0 (l_u81q (x0, x0, (↑x0.length : Int), 0))) (fun y0 =>
   .at (1))
   (.bi (pj 1 (l_u81q (x0, x0, (↑x0.length : Int), 0))) (fun y0 =>
    .bi (f_u23q y0.1) (fun y1 =>
     .br (!y1)
      (.at (10))
      (.bi (br (decide ((↑y0.1.length : Int) > 0)) (br (okAt [CS.int IntKind.i64, CS.int IntKind.i64] y0.1 0) (some (intOf (cellAt y0.1 0 0) != 0)) none) (some false)) (fun y2 =>
       .br (y2) (.at (1)) (.at (0)))
       (.no)))
     (.no))
    (.no)))
noncomputable def f_u109q (x0 : List AV) : Option B_u109q := lock (tr_u109q x0).ev
theorem f_u109q_eq (x0 : List AV) : f_u109q x0 = (tr_u109q x0).ev := lock_eq _
theorem c_u109q : FH IP 54 p_u109q r_u109q (fun (v : List AV) => (f_u109q v : Option B_u109q)) := fun_FH (F := F54) (L := [(1005400, ll_u81q)]) (t := fun (v : List AV) => tr_u109q v) T13_ok (LOk_of (l := [loopAt F54 0]) (by kernel_rfl) ⟨sel_one (by kernel_rfl) t_u81q, trivial⟩) (by kernel_rfl) (fun v => by kernel_rfl) (fun v => f_u109q_eq v)
noncomputable def T14 : Tab := (54, FE p_u109q r_u109q (fun (v : List AV) => (f_u109q v : Option B_u109q))) :: T13
theorem T14_ok : TabOk IP T14 := ⟨FE_ok c_u109q, T13_ok⟩
abbrev B_u34q : Type := Int
def p_u34q : PArgs := ⟨[.agg [.view 2, .bool, .int .i64, .int .i64, .bool]], []⟩
def r_u34q : List PRes := [⟨false, .int .i64, []⟩]
noncomputable def tr_u34q (x0 : List AV) (x1 : Bool) (x2 x3 : Int) (x4 : Bool) : DT B_u34q :=
 .bi (f_u109q x0) (fun y0 =>
  .br (y0 != 0)
   (.at (y0))
   (.bi (br (decide (x2 < 1)) (some true) (some (decide (x2 > 4)))) (fun y1 =>
    .bi (br y1 (some true) (some (decide (x3 < 1)))) (fun y2 =>
     .bi (br y2 (some true) (some (decide (x3 > 6)))) (fun y3 =>
      .br (y3) (.at (1)) (.at (0)))
      (.no))
     (.no))
    (.no)))
  (.no)
noncomputable def f_u34q (x0 : List AV) (x1 : Bool) (x2 x3 : Int) (x4 : Bool) : Option B_u34q := lock (tr_u34q x0 x1 x2 x3 x4).ev
theorem f_u34q_eq (x0 : List AV) (x1 : Bool) (x2 x3 : Int) (x4 : Bool) : f_u34q x0 x1 x2 x3 x4 = (tr_u34q x0 x1 x2 x3 x4).ev := lock_eq _
theorem c_u34q : FH IP 28 p_u34q r_u34q (fun (v : List AV × Bool × Int × Int × Bool) => (f_u34q v.1 v.2.1 v.2.2.1 v.2.2.2.1 v.2.2.2.2 : Option B_u34q)) := fun_FH (F := F28) (L := []) (t := fun (v : List AV × Bool × Int × Int × Bool) => tr_u34q v.1 v.2.1 v.2.2.1 v.2.2.2.1 v.2.2.2.2) T14_ok (LOk_of (l := []) (by kernel_rfl) trivial) (by kernel_rfl) (fun v => by kernel_rfl) (fun v => f_u34q_eq v.1 v.2.1 v.2.2.1 v.2.2.2.1 v.2.2.2.2)
noncomputable def T15 : Tab := (28, FE p_u34q r_u34q (fun (v : List AV × Bool × Int × Int × Bool) => (f_u34q v.1 v.2.1 v.2.2.1 v.2.2.2.1 v.2.2.2.2 : Option B_u34q))) :: T14
theorem T15_ok : TabOk IP T15 := ⟨FE_ok c_u34q, T14_ok⟩
abbrev TT_u37q : Type := List AV × Bool × Int × Int × Bool × List AV × Bool × Int × Int × Bool × Int × List UInt8 × List UInt8 × List UInt8 × Int × Int × Int × Int × List AV × Bool × Int × Int × Bool × List AV × Bool × Int × Int × Bool × List AV × List AV
def hs_u37q : List PSt := [⟨[(1001200, .junk), (3, .ref 0 0 0), (28, .agg [.view 2, .bool, .int .i64, .int .i64, .bool, .view 2, .bool, .int .i64, .int .i64, .bool]), (29, .int .i64)], [(0, .box [.str, .str, .str, .int .i64, .int .i64, .int .i64, .int .i64, .view 2, .bool, .int .i64, .int .i64, .bool, .view 2, .bool, .int .i64, .int .i64, .bool, .view 10, .view 6] false)], 1, 0⟩]
noncomputable def x_u37q_0 (x0 : List AV) (x1 : Bool) (x2 x3 : Int) (x4 : Bool) (x5 : List AV) (x6 : Bool) (x7 x8 : Int) (x9 : Bool) (x10 : Int) (x11 x12 x13 : List UInt8) (x14 x15 : Int) (x16 x17 : Int) (x18 : List AV) (x19 : Bool) (x20 x21 : Int) (x22 : Bool) (x23 : List AV) (x24 : Bool) (x25 x26 : Int) (x27 : Bool) (x28 x29 : List AV) : X × St := (X.ret,
  { tm := [(3, AV.ref 0 0 0), (6, AV.int IntKind.i64 (gv (f_u34q x0 x1 x2 x3 x4)))],
    hp :=
      [(0,
          Blk.box
            [AV.str x11, AV.str x12, AV.str x13, AV.int IntKind.i64 x14, AV.int IntKind.i64 x15, AV.int IntKind.i64 x16, AV.int IntKind.i64 x17, AV.view 2 x18, AV.bool x19,
              AV.int IntKind.i64 x20, AV.int IntKind.i64 x21, AV.bool x22, AV.view 2 x23, AV.bool x24, AV.int IntKind.i64 x25, AV.int IntKind.i64 x26, AV.bool x27, AV.view 10 x28,
              AV.view 6 x29]
            false)],
    nx := 1, k := 0 })
noncomputable def x_u37q_1 (x0 : List AV) (x1 : Bool) (x2 x3 : Int) (x4 : Bool) (x5 : List AV) (x6 : Bool) (x7 x8 : Int) (x9 : Bool) (x10 : Int) (x11 x12 x13 : List UInt8) (x14 x15 : Int) (x16 x17 : Int) (x18 : List AV) (x19 : Bool) (x20 x21 : Int) (x22 : Bool) (x23 : List AV) (x24 : Bool) (x25 x26 : Int) (x27 : Bool) (x28 x29 : List AV) : X × St := (X.ret,
  { tm := [(3, AV.ref 0 0 0), (6, AV.int IntKind.i64 (gv (f_u34q x5 x6 x7 x8 x9)))],
    hp :=
      [(0,
          Blk.box
            [AV.str x11, AV.str x12, AV.str x13, AV.int IntKind.i64 x14, AV.int IntKind.i64 x15, AV.int IntKind.i64 x16, AV.int IntKind.i64 x17, AV.view 2 x18, AV.bool x19,
              AV.int IntKind.i64 x20, AV.int IntKind.i64 x21, AV.bool x22, AV.view 2 x23, AV.bool x24, AV.int IntKind.i64 x25, AV.int IntKind.i64 x26, AV.bool x27, AV.view 10 x28,
              AV.view 6 x29]
            false)],
    nx := 1, k := 0 })
noncomputable def x_u37q_2 (x0 : List AV) (x1 : Bool) (x2 x3 : Int) (x4 : Bool) (x5 : List AV) (x6 : Bool) (x7 x8 : Int) (x9 : Bool) (x10 : Int) (x11 x12 x13 : List UInt8) (x14 x15 : Int) (x16 x17 : Int) (x18 : List AV) (x19 : Bool) (x20 x21 : Int) (x22 : Bool) (x23 : List AV) (x24 : Bool) (x25 x26 : Int) (x27 : Bool) (x28 x29 : List AV) : X × St := (X.exit 0,
  { tm := [(3, AV.ref 0 0 0), (6, AV.junk)],
    hp :=
      [(0,
          Blk.box
            [AV.str x11, AV.str x12, AV.str x13, AV.int IntKind.i64 x14, AV.int IntKind.i64 x15, AV.int IntKind.i64 x16, AV.int IntKind.i64 x17, AV.view 2 x18, AV.bool x19,
              AV.int IntKind.i64 x20, AV.int IntKind.i64 x21, AV.bool x22, AV.view 2 x23, AV.bool x24, AV.int IntKind.i64 x25, AV.int IntKind.i64 x26, AV.bool x27, AV.view 10 x28,
              AV.view 6 x29]
            false)],
    nx := 1, k := 0 })
noncomputable def x_u37q : List (TT_u37q → X × St) := [fun w => x_u37q_0 w.1 w.2.1 w.2.2.1 w.2.2.2.1 w.2.2.2.2.1 w.2.2.2.2.2.1 w.2.2.2.2.2.2.1 w.2.2.2.2.2.2.2.1 w.2.2.2.2.2.2.2.2.1 w.2.2.2.2.2.2.2.2.2.1 w.2.2.2.2.2.2.2.2.2.2.1 w.2.2.2.2.2.2.2.2.2.2.2.1 w.2.2.2.2.2.2.2.2.2.2.2.2.1 w.2.2.2.2.2.2.2.2.2.2.2.2.2.1 w.2.2.2.2.2.2.2.2.2.2.2.2.2.2.1 w.2.2.2.2.2.2.2.2.2.2.2.2.2.2.2.1 w.2.2.2.2.2.2.2.2.2.2.2.2.2.2.2.2.1 w.2.2.2.2.2.2.2.2.2.2.2.2.2.2.2.2.2.1 w.2.2.2.2.2.2.2.2.2.2.2.2.2.2.2.2.2.2.1 w.2.2.2.2.2.2.2.2.2.2.2.2.2.2.2.2.2.2.2.1 w.2.2.2.2.2.2.2.2.2.2.2.2.2.2.2.2.2.2.2.2.1 w.2.2.2.2.2.2.2.2.2.2.2.2.2.2.2.2.2.2.2.2.2.1 w.2.2.2.2.2.2.2.2.2.2.2.2.2.2.2.2.2.2.2.2.2.2.1 w.2.2.2.2.2.2.2.2.2.2.2.2.2.2.2.2.2.2.2.2.2.2.2.1 w.2.2.2.2.2.2.2.2.2.2.2.2.2.2.2.2.2.2.2.2.2.2.2.2.1 w.2.2.2.2.2.2.2.2.2.2.2.2.2.2.2.2.2.2.2.2.2.2.2.2.2.1 w.2.2.2.2.2.2.2.2.2.2.2.2.2.2.2.2.2.2.2.2.2.2.2.2.2.2.1 w.2.2.2.2.2.2.2.2.2.2.2.2.2.2.2.2.2.2.2.2.2.2.2.2.2.2.2.1 w.2.2.2.2.2.2.2.2.2.2.2.2.2.2.2.2.2.2.2.2.2.2.2.2.2.2.2.2.1 w.2.2.2.2.2.2.2.2.2.2.2.2.2.2.2.2.2.2.2.2.2.2.2.2.2.2.2.2.2, fun w => x_u37q_1 w.1 w.2.1 w.2.2.1 w.2.2.2.1 w.2.2.2.2.1 w.2.2.2.2.2.1 w.2.2.2.2.2.2.1 w.2.2.2.2.2.2.2.1 w.2.2.2.2.2.2.2.2.1 w.2.2.2.2.2.2.2.2.2.1 w.2.2.2.2.2.2.2.2.2.2.1 w.2.2.2.2.2.2.2.2.2.2.2.1 w.2.2.2.2.2.2.2.2.2.2.2.2.1 w.2.2.2.2.2.2.2.2.2.2.2.2.2.1 w.2.2.2.2.2.2.2.2.2.2.2.2.2.2.1 w.2.2.2.2.2.2.2.2.2.2.2.2.2.2.2.1 w.2.2.2.2.2.2.2.2.2.2.2.2.2.2.2.2.1 w.2.2.2.2.2.2.2.2.2.2.2.2.2.2.2.2.2.1 w.2.2.2.2.2.2.2.2.2.2.2.2.2.2.2.2.2.2.1 w.2.2.2.2.2.2.2.2.2.2.2.2.2.2.2.2.2.2.2.1 w.2.2.2.2.2.2.2.2.2.2.2.2.2.2.2.2.2.2.2.2.1 w.2.2.2.2.2.2.2.2.2.2.2.2.2.2.2.2.2.2.2.2.2.1 w.2.2.2.2.2.2.2.2.2.2.2.2.2.2.2.2.2.2.2.2.2.2.1 w.2.2.2.2.2.2.2.2.2.2.2.2.2.2.2.2.2.2.2.2.2.2.2.1 w.2.2.2.2.2.2.2.2.2.2.2.2.2.2.2.2.2.2.2.2.2.2.2.2.1 w.2.2.2.2.2.2.2.2.2.2.2.2.2.2.2.2.2.2.2.2.2.2.2.2.2.1 w.2.2.2.2.2.2.2.2.2.2.2.2.2.2.2.2.2.2.2.2.2.2.2.2.2.2.1 w.2.2.2.2.2.2.2.2.2.2.2.2.2.2.2.2.2.2.2.2.2.2.2.2.2.2.2.1 w.2.2.2.2.2.2.2.2.2.2.2.2.2.2.2.2.2.2.2.2.2.2.2.2.2.2.2.2.1 w.2.2.2.2.2.2.2.2.2.2.2.2.2.2.2.2.2.2.2.2.2.2.2.2.2.2.2.2.2, fun w => x_u37q_2 w.1 w.2.1 w.2.2.1 w.2.2.2.1 w.2.2.2.2.1 w.2.2.2.2.2.1 w.2.2.2.2.2.2.1 w.2.2.2.2.2.2.2.1 w.2.2.2.2.2.2.2.2.1 w.2.2.2.2.2.2.2.2.2.1 w.2.2.2.2.2.2.2.2.2.2.1 w.2.2.2.2.2.2.2.2.2.2.2.1 w.2.2.2.2.2.2.2.2.2.2.2.2.1 w.2.2.2.2.2.2.2.2.2.2.2.2.2.1 w.2.2.2.2.2.2.2.2.2.2.2.2.2.2.1 w.2.2.2.2.2.2.2.2.2.2.2.2.2.2.2.1 w.2.2.2.2.2.2.2.2.2.2.2.2.2.2.2.2.1 w.2.2.2.2.2.2.2.2.2.2.2.2.2.2.2.2.2.1 w.2.2.2.2.2.2.2.2.2.2.2.2.2.2.2.2.2.2.1 w.2.2.2.2.2.2.2.2.2.2.2.2.2.2.2.2.2.2.2.1 w.2.2.2.2.2.2.2.2.2.2.2.2.2.2.2.2.2.2.2.2.1 w.2.2.2.2.2.2.2.2.2.2.2.2.2.2.2.2.2.2.2.2.2.1 w.2.2.2.2.2.2.2.2.2.2.2.2.2.2.2.2.2.2.2.2.2.2.1 w.2.2.2.2.2.2.2.2.2.2.2.2.2.2.2.2.2.2.2.2.2.2.2.1 w.2.2.2.2.2.2.2.2.2.2.2.2.2.2.2.2.2.2.2.2.2.2.2.2.1 w.2.2.2.2.2.2.2.2.2.2.2.2.2.2.2.2.2.2.2.2.2.2.2.2.2.1 w.2.2.2.2.2.2.2.2.2.2.2.2.2.2.2.2.2.2.2.2.2.2.2.2.2.2.1 w.2.2.2.2.2.2.2.2.2.2.2.2.2.2.2.2.2.2.2.2.2.2.2.2.2.2.2.1 w.2.2.2.2.2.2.2.2.2.2.2.2.2.2.2.2.2.2.2.2.2.2.2.2.2.2.2.2.1 w.2.2.2.2.2.2.2.2.2.2.2.2.2.2.2.2.2.2.2.2.2.2.2.2.2.2.2.2.2]
noncomputable def st_u37q_0 (x0 : List AV) (x1 : Bool) (x2 x3 : Int) (x4 : Bool) (x5 : List AV) (x6 : Bool) (x7 x8 : Int) (x9 : Bool) (x10 : Int) (x11 x12 x13 : List UInt8) (x14 x15 : Int) (x16 x17 : Int) (x18 : List AV) (x19 : Bool) (x20 x21 : Int) (x22 : Bool) (x23 : List AV) (x24 : Bool) (x25 x26 : Int) (x27 : Bool) (x28 x29 : List AV) : DT (Rd TT_u37q) :=
 .br (decide (x10 < 2))
  (.br (decide (x10 = Int.ofNat 0))
   (.bi (f_u34q x0 x1 x2 x3 x4) (fun y0 =>
    .br (y0 != 0)
     (.at (.done 0))
     (.at (.next ((x0, x1, x2, x3, x4, x5, x6, x7, x8, x9, IntKind.i64.wrap (x10 + 1), x11, x12, x13, x14, x15, x16, x17, x18, x19, x20, x21, x22, x23, x24, x25, x26, x27, x28, x29)))))
    (.no))
   (.br (decide (x10 = Int.ofNat 1))
    (.bi (f_u34q x5 x6 x7 x8 x9) (fun y0 =>
     .br (y0 != 0)
      (.at (.done 1))
      (.at (.next ((x0, x1, x2, x3, x4, x5, x6, x7, x8, x9, IntKind.i64.wrap (x10 + 1), x11, x12, x13, x14, x15, x16, x17, x18, x19, x20, x21, x22, x23, x24, x25, x26, x27, x28, x29)))))
     (.no))
    (.no)))
  (.at (.done 2))
noncomputable def st_u37q : TT_u37q → DT (Rd TT_u37q) := (fun v => st_u37q_0 v.1 v.2.1 v.2.2.1 v.2.2.2.1 v.2.2.2.2.1 v.2.2.2.2.2.1 v.2.2.2.2.2.2.1 v.2.2.2.2.2.2.2.1 v.2.2.2.2.2.2.2.2.1 v.2.2.2.2.2.2.2.2.2.1 v.2.2.2.2.2.2.2.2.2.2.1 v.2.2.2.2.2.2.2.2.2.2.2.1 v.2.2.2.2.2.2.2.2.2.2.2.2.1 v.2.2.2.2.2.2.2.2.2.2.2.2.2.1 v.2.2.2.2.2.2.2.2.2.2.2.2.2.2.1 v.2.2.2.2.2.2.2.2.2.2.2.2.2.2.2.1 v.2.2.2.2.2.2.2.2.2.2.2.2.2.2.2.2.1 v.2.2.2.2.2.2.2.2.2.2.2.2.2.2.2.2.2.1 v.2.2.2.2.2.2.2.2.2.2.2.2.2.2.2.2.2.2.1 v.2.2.2.2.2.2.2.2.2.2.2.2.2.2.2.2.2.2.2.1 v.2.2.2.2.2.2.2.2.2.2.2.2.2.2.2.2.2.2.2.2.1 v.2.2.2.2.2.2.2.2.2.2.2.2.2.2.2.2.2.2.2.2.2.1 v.2.2.2.2.2.2.2.2.2.2.2.2.2.2.2.2.2.2.2.2.2.2.1 v.2.2.2.2.2.2.2.2.2.2.2.2.2.2.2.2.2.2.2.2.2.2.2.1 v.2.2.2.2.2.2.2.2.2.2.2.2.2.2.2.2.2.2.2.2.2.2.2.2.1 v.2.2.2.2.2.2.2.2.2.2.2.2.2.2.2.2.2.2.2.2.2.2.2.2.2.1 v.2.2.2.2.2.2.2.2.2.2.2.2.2.2.2.2.2.2.2.2.2.2.2.2.2.2.1 v.2.2.2.2.2.2.2.2.2.2.2.2.2.2.2.2.2.2.2.2.2.2.2.2.2.2.2.1 v.2.2.2.2.2.2.2.2.2.2.2.2.2.2.2.2.2.2.2.2.2.2.2.2.2.2.2.2.1 v.2.2.2.2.2.2.2.2.2.2.2.2.2.2.2.2.2.2.2.2.2.2.2.2.2.2.2.2.2)
noncomputable def l_u37q (v : TT_u37q) : Option (Nat × TT_u37q) := lock (iterO (fun v => (st_u37q v).ev) v)
theorem l_u37q_eq (v : TT_u37q) : l_u37q v = iterO (fun v => (st_u37q v).ev) v := lock_eq _
noncomputable def ll_u37q : LEnt := LE (τ := TT_u37q) (hD hs_u37q) (l_u37q) x_u37q
theorem t_u37q : Go.Eng.Told IP (loopAt F12 0).1 (loopAt F12 0).2 (ll_u37q) := loop_LE (inferInstance : Inhabited TT_u37q) (hs := hs_u37q) (st := st_u37q) (L := []) T15_ok (LOk_of (l := []) (by kernel_rfl) trivial) (l_u37q_eq) (fun v => by kernel_rfl) (fun v => by kernel_rfl)
abbrev B_u104q : Type := Int
def p_u104q : PArgs := ⟨[.agg [.int .i64, .int .i64, .str, .view 4]], []⟩
def r_u104q : List PRes := [⟨false, .int .i64, []⟩]
abbrev GT_u104q : Type := Int → Int → (List UInt8) → (List AV) → Option B_u104q
def GH_u104q (G_u104q : GT_u104q) : Prop := FH IP 84 p_u104q r_u104q (fun (v : Int × Int × List UInt8 × List AV) => (G_u104q v.1 v.2.1 v.2.2.1 v.2.2.2 : Option B_u104q))
noncomputable def TG_u104q (G_u104q : GT_u104q) : Tab := (84, FE p_u104q r_u104q (fun (v : Int × Int × List UInt8 × List AV) => (G_u104q v.1 v.2.1 v.2.2.1 v.2.2.2 : Option B_u104q))) :: T15
theorem TG_u104q_ok (G_u104q : GT_u104q) (hG : GH_u104q G_u104q) : TabOk IP (TG_u104q G_u104q) := ⟨FE_ok (hG), T15_ok⟩
abbrev TT_u70q : Type := Int × List AV × Int × Int
def hs_u70q : List PSt := [⟨[(1008400, .junk), (3, .int .i64), (7, .view 4), (8, .int .i64), (9, .int .i64)], [], 0, 0⟩]
noncomputable def x_u70q_0 (x0 : Int) (x1 : List AV) (x2 x3 : Int) : X × St := (X.exit 0, { tm := [(3, AV.int IntKind.i64 x0)], hp := [], nx := 0, k := 0 })
noncomputable def x_u70q : List (TT_u70q → X × St) := [fun w => x_u70q_0 w.1 w.2.1 w.2.2.1 w.2.2.2]
noncomputable def st_u70q_0 (G_u104q : GT_u104q) (x0 : Int) (x1 : List AV) (x2 x3 : Int) : DT (Rd TT_u70q) :=
 .br (decide (x3 < x2))
  (.br (okAt [CS.int IntKind.i64, CS.int IntKind.i64, CS.str, CS.slice 4] x1 x3)
   (.bi (G_u104q (intOf (cellAt x1 x3 0)) (intOf (cellAt x1 x3 1)) (strOf (cellAt x1 x3 2)) (viewOf (cellAt x1 x3 3))) (fun y0 =>
    .at (.next ((IntKind.i64.wrap (x0 + y0), x1, x2, IntKind.i64.wrap (x3 + 1)))))
    (.no))
   (.no))
  (.at (.done 0))
noncomputable def st_u70q (G_u104q : GT_u104q) : TT_u70q → DT (Rd TT_u70q) := (fun v => st_u70q_0 G_u104q v.1 v.2.1 v.2.2.1 v.2.2.2)
noncomputable def l_u70q (G_u104q : GT_u104q) (v : TT_u70q) : Option (Nat × TT_u70q) := lock (iterO (fun v => (st_u70q G_u104q v).ev) v)
theorem l_u70q_eq (G_u104q : GT_u104q) (v : TT_u70q) : l_u70q G_u104q v = iterO (fun v => (st_u70q G_u104q v).ev) v := lock_eq _
noncomputable def ll_u70q (G_u104q : GT_u104q) : LEnt := LE (τ := TT_u70q) (hD hs_u70q) (l_u70q G_u104q) x_u70q
theorem t_u70q (G_u104q : GT_u104q) (hG : GH_u104q G_u104q) : Go.Eng.Told IP (loopAt F84 0).1 (loopAt F84 0).2 (ll_u70q G_u104q) := loop_LE (inferInstance : Inhabited TT_u70q) (hs := hs_u70q) (st := st_u70q G_u104q) (L := []) (TG_u104q_ok G_u104q hG) (LOk_of (l := []) (by kernel_rfl) trivial) (l_u70q_eq G_u104q) (fun v => by kernel_rfl) (fun v => by kernel_rfl)
noncomputable def tr_u104q (G_u104q : GT_u104q) (x0 x1 : Int) (x2 : List UInt8) (x3 : List AV) : DT B_u104q :=
 .bi (pj 0 (l_u70q G_u104q (1, x3, (↑x3.length : Int), 0))) (fun y0 =>
  .at (y0.1))
  (.no)
noncomputable def N_u104q : Nat → GT_u104q
  | 0 => fun _ _ _ _ => none
  | n + 1 => fun x0 x1 x2 x3 => (tr_u104q ((N_u104q n)) x0 x1 x2 x3).ev
noncomputable def f_u104q (x0 x1 : Int) (x2 : List UInt8) (x3 : List AV) : Option B_u104q := limO fun n => (N_u104q n) x0 x1 x2 x3
theorem N_u104q_ok : ∀ n, GH_u104q ((N_u104q n))
  | 0 => (fun v y h => nomatch h)
  | n + 1 => have hG := N_u104q_ok n
    fun_FH (F := F84) (L := [(1008400, ll_u70q ((N_u104q n)))]) (t := fun (v : Int × Int × List UInt8 × List AV) => tr_u104q ((N_u104q n)) v.1 v.2.1 v.2.2.1 v.2.2.2) (TG_u104q_ok ((N_u104q n)) hG) (LOk_of (l := [loopAt F84 0]) (by kernel_rfl) ⟨sel_one (by kernel_rfl) (t_u70q ((N_u104q n)) hG), trivial⟩) (by kernel_rfl) (fun v => by kernel_rfl) (fun v => rfl)
theorem c_u104q : FH IP 84 p_u104q r_u104q (fun (v : Int × Int × List UInt8 × List AV) => (f_u104q v.1 v.2.1 v.2.2.1 v.2.2.2 : Option B_u104q)) := lim_FH (p := p_u104q) (rs := r_u104q) (s := fun n (v : Int × Int × List UInt8 × List AV) => (N_u104q n) v.1 v.2.1 v.2.2.1 v.2.2.2) fun n => (N_u104q_ok n)
noncomputable def T16 : Tab := (84, FE p_u104q r_u104q (fun (v : Int × Int × List UInt8 × List AV) => (f_u104q v.1 v.2.1 v.2.2.1 v.2.2.2 : Option B_u104q))) :: T15
theorem T16_ok : TabOk IP T16 := ⟨FE_ok c_u104q, T15_ok⟩
abbrev B_u105q : Type := Int
def p_u105q : PArgs := ⟨[.agg [.int .i64, .int .i64, .str, .view 4]], []⟩
def r_u105q : List PRes := [⟨false, .int .i64, []⟩]
abbrev GT_u105q : Type := Int → Int → (List UInt8) → (List AV) → Option B_u105q
def GH_u105q (G_u105q : GT_u105q) : Prop := FH IP 85 p_u105q r_u105q (fun (v : Int × Int × List UInt8 × List AV) => (G_u105q v.1 v.2.1 v.2.2.1 v.2.2.2 : Option B_u105q))
noncomputable def TG_u105q (G_u105q : GT_u105q) : Tab := (85, FE p_u105q r_u105q (fun (v : Int × Int × List UInt8 × List AV) => (G_u105q v.1 v.2.1 v.2.2.1 v.2.2.2 : Option B_u105q))) :: T16
theorem TG_u105q_ok (G_u105q : GT_u105q) (hG : GH_u105q G_u105q) : TabOk IP (TG_u105q G_u105q) := ⟨FE_ok (hG), T16_ok⟩
abbrev TT_u71q : Type := Int × List AV × Int × Int
def hs_u71q : List PSt := [⟨[(1008500, .junk), (3, .int .i64), (7, .view 4), (8, .int .i64), (9, .int .i64)], [], 0, 0⟩]
noncomputable def x_u71q_0 (x0 : Int) (x1 : List AV) (x2 x3 : Int) : X × St := (X.exit 0, { tm := [(3, AV.int IntKind.i64 x0)], hp := [], nx := 0, k := 0 })
noncomputable def x_u71q : List (TT_u71q → X × St) := [fun w => x_u71q_0 w.1 w.2.1 w.2.2.1 w.2.2.2]
noncomputable def st_u71q_0 (G_u105q : GT_u105q) (x0 : Int) (x1 : List AV) (x2 x3 : Int) : DT (Rd TT_u71q) :=
 .br (decide (x3 < x2))
  (.br (okAt [CS.int IntKind.i64, CS.int IntKind.i64, CS.str, CS.slice 4] x1 x3)
   (.bi (G_u105q (intOf (cellAt x1 x3 0)) (intOf (cellAt x1 x3 1)) (strOf (cellAt x1 x3 2)) (viewOf (cellAt x1 x3 3))) (fun y0 =>
    .at (.next ((if y0 > x0 then y0 else x0, x1, x2, IntKind.i64.wrap (x3 + 1)))))
    (.no))
   (.no))
  (.at (.done 0))
noncomputable def st_u71q (G_u105q : GT_u105q) : TT_u71q → DT (Rd TT_u71q) := (fun v => st_u71q_0 G_u105q v.1 v.2.1 v.2.2.1 v.2.2.2)
noncomputable def l_u71q (G_u105q : GT_u105q) (v : TT_u71q) : Option (Nat × TT_u71q) := lock (iterO (fun v => (st_u71q G_u105q v).ev) v)
theorem l_u71q_eq (G_u105q : GT_u105q) (v : TT_u71q) : l_u71q G_u105q v = iterO (fun v => (st_u71q G_u105q v).ev) v := lock_eq _
noncomputable def ll_u71q (G_u105q : GT_u105q) : LEnt := LE (τ := TT_u71q) (hD hs_u71q) (l_u71q G_u105q) x_u71q
theorem t_u71q (G_u105q : GT_u105q) (hG : GH_u105q G_u105q) : Go.Eng.Told IP (loopAt F85 0).1 (loopAt F85 0).2 (ll_u71q G_u105q) := loop_LE (inferInstance : Inhabited TT_u71q) (hs := hs_u71q) (st := st_u71q G_u105q) (L := []) (TG_u105q_ok G_u105q hG) (LOk_of (l := []) (by kernel_rfl) trivial) (l_u71q_eq G_u105q) (fun v => by kernel_rfl) (fun v => by kernel_rfl)
noncomputable def tr_u105q (G_u105q : GT_u105q) (x0 x1 : Int) (x2 : List UInt8) (x3 : List AV) : DT B_u105q :=
 .bi (pj 0 (l_u71q G_u105q (0, x3, (↑x3.length : Int), 0))) (fun y0 =>
  .at (IntKind.i64.wrap (y0.1 + 1)))
  (.no)
noncomputable def N_u105q : Nat → GT_u105q
  | 0 => fun _ _ _ _ => none
  | n + 1 => fun x0 x1 x2 x3 => (tr_u105q ((N_u105q n)) x0 x1 x2 x3).ev
noncomputable def f_u105q (x0 x1 : Int) (x2 : List UInt8) (x3 : List AV) : Option B_u105q := limO fun n => (N_u105q n) x0 x1 x2 x3
theorem N_u105q_ok : ∀ n, GH_u105q ((N_u105q n))
  | 0 => (fun v y h => nomatch h)
  | n + 1 => have hG := N_u105q_ok n
    fun_FH (F := F85) (L := [(1008500, ll_u71q ((N_u105q n)))]) (t := fun (v : Int × Int × List UInt8 × List AV) => tr_u105q ((N_u105q n)) v.1 v.2.1 v.2.2.1 v.2.2.2) (TG_u105q_ok ((N_u105q n)) hG) (LOk_of (l := [loopAt F85 0]) (by kernel_rfl) ⟨sel_one (by kernel_rfl) (t_u71q ((N_u105q n)) hG), trivial⟩) (by kernel_rfl) (fun v => by kernel_rfl) (fun v => rfl)
theorem c_u105q : FH IP 85 p_u105q r_u105q (fun (v : Int × Int × List UInt8 × List AV) => (f_u105q v.1 v.2.1 v.2.2.1 v.2.2.2 : Option B_u105q)) := lim_FH (p := p_u105q) (rs := r_u105q) (s := fun n (v : Int × Int × List UInt8 × List AV) => (N_u105q n) v.1 v.2.1 v.2.2.1 v.2.2.2) fun n => (N_u105q_ok n)
noncomputable def T17 : Tab := (85, FE p_u105q r_u105q (fun (v : Int × Int × List UInt8 × List AV) => (f_u105q v.1 v.2.1 v.2.2.1 v.2.2.2 : Option B_u105q))) :: T16
theorem T17_ok : TabOk IP T17 := ⟨FE_ok c_u105q, T16_ok⟩
abbrev B_u61q : Type := Int
def p_u61q : PArgs := ⟨[.int .i64], []⟩
def r_u61q : List PRes := [⟨false, .int .i64, []⟩]
noncomputable def tr_u61q (x0 : Int) : DT B_u61q :=
 .br (x0 == 1)
  (.br (x0 == 1)
   (.at (0))
   (.br (x0 == 9)
    (.br (x0 == 9)
     (.at (1))
     (.br (x0 == 19)
      (.at (3))
      (.bi (br (decide (x0 ≥ 5)) (some (decide (x0 ≤ 18))) (some false)) (fun y0 =>
       .br (y0) (.at (2)) (.at (-1)))
       (.no))))
    (.br (x0 == 16)
     (.at (1))
     (.br (x0 == 19)
      (.at (3))
      (.bi (br (decide (x0 ≥ 5)) (some (decide (x0 ≤ 18))) (some false)) (fun y0 =>
       .br (y0) (.at (2)) (.at (-1)))
       (.no))))))
  (.br (x0 == 2)
   (.br (x0 == 2)
    (.at (0))
    (.br (x0 == 9)
     (.br (x0 == 9)
      (.at (1))
      (.br (x0 == 19)
       (.at (3))
       (.bi (br (decide (x0 ≥ 5)) (some (decide (x0 ≤ 18))) (some false)) (fun y0 =>
        .br (y0) (.at (2)) (.at (-1)))
        (.no))))
     (.br (x0 == 16)
      (.at (1))
      (.br (x0 == 19)
       (.at (3))
       (.bi (br (decide (x0 ≥ 5)) (some (decide (x0 ≤ 18))) (some false)) (fun y0 =>
        .br (y0) (.at (2)) (.at (-1)))
        (.no))))))
   (.br (x0 == 3)
    (.br (x0 == 3)
     (.at (0))
     (.br (x0 == 9)
      (.br (x0 == 9)
       (.at (1))
       (.br (x0 == 19)
        (.at (3))
        (.bi (br (decide (x0 ≥ 5)) (some (decide (x0 ≤ 18))) (some false)) (fun y0 =>
         .br (y0) (.at (2)) (.at (-1)))
         (.no))))
      (.br (x0 == 16)
       (.at (1))
       (.br (x0 == 19)
        (.at (3))
        (.bi (br (decide (x0 ≥ 5)) (some (decide (x0 ≤ 18))) (some false)) (fun y0 =>
         .br (y0) (.at (2)) (.at (-1)))
         (.no))))))
    (.br (x0 == 4)
     (.at (0))
     (.br (x0 == 9)
      (.br (x0 == 9)
       (.at (1))
       (.br (x0 == 19)
        (.at (3))
        (.bi (br (decide (x0 ≥ 5)) (some (decide (x0 ≤ 18))) (some false)) (fun y0 =>
         .br (y0) (.at (2)) (.at (-1)))
         (.no))))
      (.br (x0 == 16)
       (.at (1))
       (.br (x0 == 19)
        (.at (3))
        (.bi (br (decide (x0 ≥ 5)) (some (decide (x0 ≤ 18))) (some false)) (fun y0 =>
         .br (y0) (.at (2)) (.at (-1)))
         (.no))))))))
noncomputable def f_u61q (x0 : Int) : Option B_u61q := lock (tr_u61q x0).ev
theorem f_u61q_eq (x0 : Int) : f_u61q x0 = (tr_u61q x0).ev := lock_eq _
theorem c_u61q : FH IP 110 p_u61q r_u61q (fun (v : Int) => (f_u61q v : Option B_u61q)) := fun_FH (F := F110) (L := []) (t := fun (v : Int) => tr_u61q v) T17_ok (LOk_of (l := []) (by kernel_rfl) trivial) (by kernel_rfl) (fun v => by kernel_rfl) (fun v => f_u61q_eq v)
noncomputable def T18 : Tab := (110, FE p_u61q r_u61q (fun (v : Int) => (f_u61q v : Option B_u61q))) :: T17
theorem T18_ok : TabOk IP T18 := ⟨FE_ok c_u61q, T17_ok⟩
abbrev B_u93q : Type := Bool
def p_u93q : PArgs := ⟨[.agg [.int .i64, .int .i64, .str, .view 4]], []⟩
def r_u93q : List PRes := [⟨false, .bool, []⟩]
noncomputable def tr_u93q (x0 x1 : Int) (x2 : List UInt8) (x3 : List AV) : DT B_u93q :=
 .br (x0 == 1)
  (.bi (f_u61q x0) (fun y0 =>
   .br (y0 == (↑x3.length : Int))
    (.br (decide (x1 ≥ 0))
     (.br (decide (x1 ≤ 9223372036854775807))
      (.br (x2 == []) (.at (true)) (.at (x0 == 4)))
      (.at (false)))
     (.at (false)))
    (.at (false)))
   (.no))
  (.br (x0 == 2)
   (.bi (f_u61q x0) (fun y0 =>
    .br (y0 == (↑x3.length : Int))
     (.br (decide (x1 ≥ 0))
      (.br (decide (x1 ≤ 1000000000000))
       (.br (x2 == []) (.at (true)) (.at (x0 == 4)))
       (.at (false)))
      (.at (false)))
     (.at (false)))
    (.no))
   (.br (x0 == 3)
    (.bi (f_u61q x0) (fun y0 =>
     .br (y0 == (↑x3.length : Int))
      (.br (decide (x1 ≥ 0))
       (.br (decide (x1 ≤ 1000000))
        (.br (x2 == []) (.at (true)) (.at (x0 == 4)))
        (.at (false)))
       (.at (false)))
      (.at (false)))
     (.no))
    (.bi (f_u61q x0) (fun y0 =>
     .br (y0 == (↑x3.length : Int))
      (.br (decide (x1 ≥ 0))
       (.br (decide (x1 ≤ 0))
        (.br (x2 == []) (.at (true)) (.at (x0 == 4)))
        (.at (false)))
       (.at (false)))
      (.at (false)))
     (.no))))
noncomputable def f_u93q (x0 x1 : Int) (x2 : List UInt8) (x3 : List AV) : Option B_u93q := lock (tr_u93q x0 x1 x2 x3).ev
theorem f_u93q_eq (x0 x1 : Int) (x2 : List UInt8) (x3 : List AV) : f_u93q x0 x1 x2 x3 = (tr_u93q x0 x1 x2 x3).ev := lock_eq _
theorem c_u93q : FH IP 87 p_u93q r_u93q (fun (v : Int × Int × List UInt8 × List AV) => (f_u93q v.1 v.2.1 v.2.2.1 v.2.2.2 : Option B_u93q)) := fun_FH (F := F87) (L := []) (t := fun (v : Int × Int × List UInt8 × List AV) => tr_u93q v.1 v.2.1 v.2.2.1 v.2.2.2) T18_ok (LOk_of (l := []) (by kernel_rfl) trivial) (by kernel_rfl) (fun v => by kernel_rfl) (fun v => f_u93q_eq v.1 v.2.1 v.2.2.1 v.2.2.2)
noncomputable def T19 : Tab := (87, FE p_u93q r_u93q (fun (v : Int × Int × List UInt8 × List AV) => (f_u93q v.1 v.2.1 v.2.2.1 v.2.2.2 : Option B_u93q))) :: T18
theorem T19_ok : TabOk IP T19 := ⟨FE_ok c_u93q, T18_ok⟩
abbrev B_u106q : Type := Bool
def p_u106q : PArgs := ⟨[.agg [.int .i64, .int .i64, .str, .view 4], .fn (.func 87) []], []⟩
def r_u106q : List PRes := [⟨false, .bool, []⟩]
abbrev GT_u106q : Type := Int → Int → (List UInt8) → (List AV) → Option B_u106q
abbrev B_u9q : Type := Bool
def p_u9q : PArgs := ⟨[.view 4, .fn (.func 109) [.ptr [.fn (.func 87) []]]], []⟩
def r_u9q : List PRes := [⟨false, .bool, []⟩]
abbrev GT_u9q : Type := (List AV) → Option B_u9q
abbrev B_u13q : Type := Int
def p_u13q : PArgs := ⟨[.view 4, .fn (.func 109) [.ptr [.fn (.func 87) []]]], []⟩
def r_u13q : List PRes := [⟨false, .int .i64, []⟩]
abbrev GT_u13q : Type := (List AV) → Option B_u13q
abbrev B_u72q : Type := Bool
def p_u72q : PArgs := ⟨[.agg [.int .i64, .int .i64, .str, .view 4], .ptr [.fn (.func 87) []]], []⟩
def r_u72q : List PRes := [⟨false, .bool, []⟩]
abbrev GT_u72q : Type := Int → Int → (List UInt8) → (List AV) → Option B_u72q
def GH_u106q (G_u106q : GT_u106q) (G_u9q : GT_u9q) (G_u13q : GT_u13q) (G_u72q : GT_u72q) : Prop := FH IP 86 p_u106q r_u106q (fun (v : Int × Int × List UInt8 × List AV) => (G_u106q v.1 v.2.1 v.2.2.1 v.2.2.2 : Option B_u106q)) ∧ FH IP 108 p_u9q r_u9q (fun (v : List AV) => (G_u9q v : Option B_u9q)) ∧ FH IP 133 p_u13q r_u13q (fun (v : List AV) => (G_u13q v : Option B_u13q)) ∧ FH IP 109 p_u72q r_u72q (fun (v : Int × Int × List UInt8 × List AV) => (G_u72q v.1 v.2.1 v.2.2.1 v.2.2.2 : Option B_u72q))
noncomputable def TG_u106q (G_u106q : GT_u106q) (G_u9q : GT_u9q) (G_u13q : GT_u13q) (G_u72q : GT_u72q) : Tab := (86, FE p_u106q r_u106q (fun (v : Int × Int × List UInt8 × List AV) => (G_u106q v.1 v.2.1 v.2.2.1 v.2.2.2 : Option B_u106q))) :: (108, FE p_u9q r_u9q (fun (v : List AV) => (G_u9q v : Option B_u9q))) :: (133, FE p_u13q r_u13q (fun (v : List AV) => (G_u13q v : Option B_u13q))) :: (109, FE p_u72q r_u72q (fun (v : Int × Int × List UInt8 × List AV) => (G_u72q v.1 v.2.1 v.2.2.1 v.2.2.2 : Option B_u72q))) :: T19
theorem TG_u106q_ok (G_u106q : GT_u106q) (G_u9q : GT_u9q) (G_u13q : GT_u13q) (G_u72q : GT_u72q) (hG : GH_u106q G_u106q G_u9q G_u13q G_u72q) : TabOk IP (TG_u106q G_u106q G_u9q G_u13q G_u72q) := ⟨FE_ok (hG.1), FE_ok (hG.2.1), FE_ok (hG.2.2.1), FE_ok (hG.2.2.2), T19_ok⟩
abbrev TT_u11q : Type := List AV × Int × Int
def hs_u11q : List PSt := [⟨[(1013300, .junk), (0, .view 4), (1, .fn (.func 109) [.ptr [.fn (.func 87) []]]), (7, .int .i64), (8, .int .i64)], [], 0, 0⟩]
noncomputable def x_u11q_0 (x0 : List AV) (x1 x2 : Int) : X × St := (X.ret, { tm := [(4, AV.int IntKind.i64 x2)], hp := [], nx := 0, k := 0 })
noncomputable def x_u11q_1 (x0 : List AV) (x1 x2 : Int) : X × St := (X.exit 0, { tm := [(4, AV.junk)], hp := [], nx := 0, k := 0 })
noncomputable def x_u11q : List (TT_u11q → X × St) := [fun w => x_u11q_0 w.1 w.2.1 w.2.2, fun w => x_u11q_1 w.1 w.2.1 w.2.2]
noncomputable def st_u11q_0 (G_u106q : GT_u106q) (G_u9q : GT_u9q) (G_u13q : GT_u13q) (G_u72q : GT_u72q) (x0 : List AV) (x1 x2 : Int) : DT (Rd TT_u11q) :=
 .br (decide (x2 < x1))
  (.br (okAt [CS.int IntKind.i64, CS.int IntKind.i64, CS.str, CS.slice 4] x0 x2)
   (.bi (G_u72q (intOf (cellAt x0 x2 0)) (intOf (cellAt x0 x2 1)) (strOf (cellAt x0 x2 2)) (viewOf (cellAt x0 x2 3))) (fun y0 =>
    .br (y0) (.at (.done 0)) (.at (.next ((x0, x1, IntKind.i64.wrap (x2 + 1))))))
    (.no))
   (.no))
  (.at (.done 1))
noncomputable def st_u11q (G_u106q : GT_u106q) (G_u9q : GT_u9q) (G_u13q : GT_u13q) (G_u72q : GT_u72q) : TT_u11q → DT (Rd TT_u11q) := (fun v => st_u11q_0 G_u106q G_u9q G_u13q G_u72q v.1 v.2.1 v.2.2)
noncomputable def l_u11q (G_u106q : GT_u106q) (G_u9q : GT_u9q) (G_u13q : GT_u13q) (G_u72q : GT_u72q) (v : TT_u11q) : Option (Nat × TT_u11q) := lock (iterO (fun v => (st_u11q G_u106q G_u9q G_u13q G_u72q v).ev) v)
theorem l_u11q_eq (G_u106q : GT_u106q) (G_u9q : GT_u9q) (G_u13q : GT_u13q) (G_u72q : GT_u72q) (v : TT_u11q) : l_u11q G_u106q G_u9q G_u13q G_u72q v = iterO (fun v => (st_u11q G_u106q G_u9q G_u13q G_u72q v).ev) v := lock_eq _
noncomputable def ll_u11q (G_u106q : GT_u106q) (G_u9q : GT_u9q) (G_u13q : GT_u13q) (G_u72q : GT_u72q) : LEnt := LE (τ := TT_u11q) (hD hs_u11q) (l_u11q G_u106q G_u9q G_u13q G_u72q) x_u11q
theorem t_u11q (G_u106q : GT_u106q) (G_u9q : GT_u9q) (G_u13q : GT_u13q) (G_u72q : GT_u72q) (hG : GH_u106q G_u106q G_u9q G_u13q G_u72q) : Go.Eng.Told IP (loopAt F133 0).1 (loopAt F133 0).2 (ll_u11q G_u106q G_u9q G_u13q G_u72q) := loop_LE (inferInstance : Inhabited TT_u11q) (hs := hs_u11q) (st := st_u11q G_u106q G_u9q G_u13q G_u72q) (L := []) (TG_u106q_ok G_u106q G_u9q G_u13q G_u72q hG) (LOk_of (l := []) (by kernel_rfl) trivial) (l_u11q_eq G_u106q G_u9q G_u13q G_u72q) (fun v => by kernel_rfl) (fun v => by kernel_rfl)
noncomputable def tr_u106q (G_u106q : GT_u106q) (G_u9q : GT_u9q) (G_u13q : GT_u13q) (G_u72q : GT_u72q) (x0 x1 : Int) (x2 : List UInt8) (x3 : List AV) : DT B_u106q :=
 .bi (f_u93q x0 x1 x2 x3) (fun y0 =>
  .bi (br y0 (br (sm (G_u9q x3)) (some !gv (G_u9q x3)) none) (some false)) (fun y1 =>
   .at (y1))
   (.no))
  (.no)
noncomputable def tr_u9q (G_u106q : GT_u106q) (G_u9q : GT_u9q) (G_u13q : GT_u13q) (G_u72q : GT_u72q) (x0 : List AV) : DT B_u9q :=
 .bi (G_u13q x0) (fun y0 =>
  .at (decide (y0 ≥ 0)))
  (.no)
noncomputable def tr_u13q (G_u106q : GT_u106q) (G_u9q : GT_u9q) (G_u13q : GT_u13q) (G_u72q : GT_u72q) (x0 : List AV) : DT B_u13q :=
 .bi (pj 0
     (l_u11q G_u106q G_u9q G_u13q G_u72q (x0, (↑x0.length : Int), 0))) (fun y0 =>
  .at (y0.2.2))
  (.bi (pj 1
      (l_u11q G_u106q G_u9q G_u13q G_u72q (x0, (↑x0.length : Int), 0))) (fun y0 =>
   .at (-1))
   (.no))
noncomputable def tr_u72q (G_u106q : GT_u106q) (G_u9q : GT_u9q) (G_u13q : GT_u13q) (G_u72q : GT_u72q) (x0 x1 : Int) (x2 : List UInt8) (x3 : List AV) : DT B_u72q :=
 .bi (G_u106q x0 x1 x2 x3) (fun y0 =>
  .at (!y0))
  (.no)
noncomputable def N_u106q : Nat → GT_u106q × GT_u9q × GT_u13q × GT_u72q
  | 0 => (fun _ _ _ _ => none, fun _ => none, fun _ => none, fun _ _ _ _ => none)
  | n + 1 => (fun x0 x1 x2 x3 => (tr_u106q ((N_u106q n).1) ((N_u106q n).2.1) ((N_u106q n).2.2.1) ((N_u106q n).2.2.2) x0 x1 x2 x3).ev, fun x0 => (tr_u9q ((N_u106q n).1) ((N_u106q n).2.1) ((N_u106q n).2.2.1) ((N_u106q n).2.2.2) x0).ev, fun x0 => (tr_u13q ((N_u106q n).1) ((N_u106q n).2.1) ((N_u106q n).2.2.1) ((N_u106q n).2.2.2) x0).ev, fun x0 x1 x2 x3 => (tr_u72q ((N_u106q n).1) ((N_u106q n).2.1) ((N_u106q n).2.2.1) ((N_u106q n).2.2.2) x0 x1 x2 x3).ev)
noncomputable def f_u106q (x0 x1 : Int) (x2 : List UInt8) (x3 : List AV) : Option B_u106q := limO fun n => (N_u106q n).1 x0 x1 x2 x3
noncomputable def f_u9q (x0 : List AV) : Option B_u9q := limO fun n => (N_u106q n).2.1 x0
noncomputable def f_u13q (x0 : List AV) : Option B_u13q := limO fun n => (N_u106q n).2.2.1 x0
noncomputable def f_u72q (x0 x1 : Int) (x2 : List UInt8) (x3 : List AV) : Option B_u72q := limO fun n => (N_u106q n).2.2.2 x0 x1 x2 x3
theorem N_u106q_ok : ∀ n, GH_u106q ((N_u106q n).1) ((N_u106q n).2.1) ((N_u106q n).2.2.1) ((N_u106q n).2.2.2)
  | 0 => ⟨(fun v y h => nomatch h), (fun v y h => nomatch h), (fun v y h => nomatch h), (fun v y h => nomatch h)⟩
  | n + 1 => have hG := N_u106q_ok n
    ⟨fun_FH (F := F86) (L := []) (t := fun (v : Int × Int × List UInt8 × List AV) => tr_u106q ((N_u106q n).1) ((N_u106q n).2.1) ((N_u106q n).2.2.1) ((N_u106q n).2.2.2) v.1 v.2.1 v.2.2.1 v.2.2.2) (TG_u106q_ok ((N_u106q n).1) ((N_u106q n).2.1) ((N_u106q n).2.2.1) ((N_u106q n).2.2.2) hG) (LOk_of (l := []) (by kernel_rfl) trivial) (by kernel_rfl) (fun v => by kernel_rfl) (fun v => rfl), fun_FH (F := F108) (L := []) (t := fun (v : List AV) => tr_u9q ((N_u106q n).1) ((N_u106q n).2.1) ((N_u106q n).2.2.1) ((N_u106q n).2.2.2) v) (TG_u106q_ok ((N_u106q n).1) ((N_u106q n).2.1) ((N_u106q n).2.2.1) ((N_u106q n).2.2.2) hG) (LOk_of (l := []) (by kernel_rfl) trivial) (by kernel_rfl) (fun v => by kernel_rfl) (fun v => rfl), fun_FH (F := F133) (L := [(1013300, ll_u11q ((N_u106q n).1) ((N_u106q n).2.1) ((N_u106q n).2.2.1) ((N_u106q n).2.2.2))]) (t := fun (v : List AV) => tr_u13q ((N_u106q n).1) ((N_u106q n).2.1) ((N_u106q n).2.2.1) ((N_u106q n).2.2.2) v) (TG_u106q_ok ((N_u106q n).1) ((N_u106q n).2.1) ((N_u106q n).2.2.1) ((N_u106q n).2.2.2) hG) (LOk_of (l := [loopAt F133 0]) (by kernel_rfl) ⟨sel_one (by kernel_rfl) (t_u11q ((N_u106q n).1) ((N_u106q n).2.1) ((N_u106q n).2.2.1) ((N_u106q n).2.2.2) hG), trivial⟩) (by kernel_rfl) (fun v => by kernel_rfl) (fun v => rfl), fun_FH (F := F109) (L := []) (t := fun (v : Int × Int × List UInt8 × List AV) => tr_u72q ((N_u106q n).1) ((N_u106q n).2.1) ((N_u106q n).2.2.1) ((N_u106q n).2.2.2) v.1 v.2.1 v.2.2.1 v.2.2.2) (TG_u106q_ok ((N_u106q n).1) ((N_u106q n).2.1) ((N_u106q n).2.2.1) ((N_u106q n).2.2.2) hG) (LOk_of (l := []) (by kernel_rfl) trivial) (by kernel_rfl) (fun v => by kernel_rfl) (fun v => rfl)⟩
theorem c_u106q : FH IP 86 p_u106q r_u106q (fun (v : Int × Int × List UInt8 × List AV) => (f_u106q v.1 v.2.1 v.2.2.1 v.2.2.2 : Option B_u106q)) := lim_FH (p := p_u106q) (rs := r_u106q) (s := fun n (v : Int × Int × List UInt8 × List AV) => (N_u106q n).1 v.1 v.2.1 v.2.2.1 v.2.2.2) fun n => (N_u106q_ok n).1
theorem c_u9q : FH IP 108 p_u9q r_u9q (fun (v : List AV) => (f_u9q v : Option B_u9q)) := lim_FH (p := p_u9q) (rs := r_u9q) (s := fun n (v : List AV) => (N_u106q n).2.1 v) fun n => (N_u106q_ok n).2.1
theorem c_u13q : FH IP 133 p_u13q r_u13q (fun (v : List AV) => (f_u13q v : Option B_u13q)) := lim_FH (p := p_u13q) (rs := r_u13q) (s := fun n (v : List AV) => (N_u106q n).2.2.1 v) fun n => (N_u106q_ok n).2.2.1
theorem c_u72q : FH IP 109 p_u72q r_u72q (fun (v : Int × Int × List UInt8 × List AV) => (f_u72q v.1 v.2.1 v.2.2.1 v.2.2.2 : Option B_u72q)) := lim_FH (p := p_u72q) (rs := r_u72q) (s := fun n (v : Int × Int × List UInt8 × List AV) => (N_u106q n).2.2.2 v.1 v.2.1 v.2.2.1 v.2.2.2) fun n => (N_u106q_ok n).2.2.2
noncomputable def T20 : Tab := (86, FE p_u106q r_u106q (fun (v : Int × Int × List UInt8 × List AV) => (f_u106q v.1 v.2.1 v.2.2.1 v.2.2.2 : Option B_u106q))) :: T19
theorem T20_ok : TabOk IP T20 := ⟨FE_ok c_u106q, T19_ok⟩
noncomputable def T21 : Tab := (108, FE p_u9q r_u9q (fun (v : List AV) => (f_u9q v : Option B_u9q))) :: T20
theorem T21_ok : TabOk IP T21 := ⟨FE_ok c_u9q, T20_ok⟩
noncomputable def T22 : Tab := (133, FE p_u13q r_u13q (fun (v : List AV) => (f_u13q v : Option B_u13q))) :: T21
theorem T22_ok : TabOk IP T22 := ⟨FE_ok c_u13q, T21_ok⟩
noncomputable def T23 : Tab := (109, FE p_u72q r_u72q (fun (v : Int × Int × List UInt8 × List AV) => (f_u72q v.1 v.2.1 v.2.2.1 v.2.2.2 : Option B_u72q))) :: T22
theorem T23_ok : TabOk IP T23 := ⟨FE_ok c_u72q, T22_ok⟩
abbrev B_u55q : Type := Bool
def p_u55q : PArgs := ⟨[.int .i32], []⟩
def r_u55q : List PRes := [⟨false, .bool, []⟩]
noncomputable def tr_u55q (x0 : Int) : DT B_u55q :=
 .at (x0 != 10)
noncomputable def f_u55q (x0 : Int) : Option B_u55q := lock (tr_u55q x0).ev
theorem f_u55q_eq (x0 : Int) : f_u55q x0 = (tr_u55q x0).ev := lock_eq _
theorem c_u55q : FH IP 165 p_u55q r_u55q (fun (v : Int) => (f_u55q v : Option B_u55q)) := fun_FH (F := F165) (L := []) (t := fun (v : Int) => tr_u55q v) T23_ok (LOk_of (l := []) (by kernel_rfl) trivial) (by kernel_rfl) (fun v => by kernel_rfl) (fun v => f_u55q_eq v)
noncomputable def T24 : Tab := (165, FE p_u55q r_u55q (fun (v : Int) => (f_u55q v : Option B_u55q))) :: T23
theorem T24_ok : TabOk IP T24 := ⟨FE_ok c_u55q, T23_ok⟩
abbrev TT_u57q : Type := List UInt8 × Int
def hs_u57q : List PSt := [⟨[(1016400, .junk), (0, .str), (1, .fn (.func 165) []), (5, .int .i64)], [], 0, 0⟩]
noncomputable def x_u57q_0 (x0 : List UInt8) (x1 : Int) : X × St := (X.exit 0, { tm := [(0, AV.str x0), (5, AV.int IntKind.i64 x1)], hp := [], nx := 0, k := 0 })
noncomputable def x_u57q : List (TT_u57q → X × St) := [fun w => x_u57q_0 w.1 w.2]
noncomputable def st_u57q_0 (x0 : List UInt8) (x1 : Int) : DT (Rd TT_u57q) :=
 .bi (br (decide (x1 < (↑x0.length : Int)))
     (br (inB x0.length x1) (br (sm (f_u55q (IntKind.i32.wrap (byteAt x0 x1)))) (some (gv (f_u55q (IntKind.i32.wrap (byteAt x0 x1))))) none) none) (some false)) (fun y0 =>
  .br (y0) (.at (.next ((x0, IntKind.i64.wrap (x1 + 1))))) (.at (.done 0)))
  (.no)
noncomputable def st_u57q : TT_u57q → DT (Rd TT_u57q) := (fun v => st_u57q_0 v.1 v.2)
noncomputable def l_u57q (v : TT_u57q) : Option (Nat × TT_u57q) := lock (iterO (fun v => (st_u57q v).ev) v)
theorem l_u57q_eq (v : TT_u57q) : l_u57q v = iterO (fun v => (st_u57q v).ev) v := lock_eq _
noncomputable def ll_u57q : LEnt := LE (τ := TT_u57q) (hD hs_u57q) (l_u57q) x_u57q
theorem t_u57q : Go.Eng.Told IP (loopAt F164 0).1 (loopAt F164 0).2 (ll_u57q) := loop_LE (inferInstance : Inhabited TT_u57q) (hs := hs_u57q) (st := st_u57q) (L := []) T24_ok (LOk_of (l := []) (by kernel_rfl) trivial) (l_u57q_eq) (fun v => by kernel_rfl) (fun v => by kernel_rfl)
abbrev B_u89q : Type := List UInt8
def p_u89q : PArgs := ⟨[.str, .fn (.func 165) []], []⟩
def r_u89q : List PRes := [⟨false, .str, []⟩]
noncomputable def tr_u89q (x0 : List UInt8) : DT B_u89q :=
 .bi (pj 0 (l_u57q (x0, 0))) (fun y0 =>
  .br (leB y0.2 y0.1.length && true) (.at (List.take y0.2.toNat y0.1)) (.no))
  (.no)
noncomputable def f_u89q (x0 : List UInt8) : Option B_u89q := lock (tr_u89q x0).ev
theorem f_u89q_eq (x0 : List UInt8) : f_u89q x0 = (tr_u89q x0).ev := lock_eq _
theorem c_u89q : FH IP 164 p_u89q r_u89q (fun (v : List UInt8) => (f_u89q v : Option B_u89q)) := fun_FH (F := F164) (L := [(1016400, ll_u57q)]) (t := fun (v : List UInt8) => tr_u89q v) T24_ok (LOk_of (l := [loopAt F164 0]) (by kernel_rfl) ⟨sel_one (by kernel_rfl) t_u57q, trivial⟩) (by kernel_rfl) (fun v => by kernel_rfl) (fun v => f_u89q_eq v)
noncomputable def T25 : Tab := (164, FE p_u89q r_u89q (fun (v : List UInt8) => (f_u89q v : Option B_u89q))) :: T24
theorem T25_ok : TabOk IP T25 := ⟨FE_ok c_u89q, T24_ok⟩
end Go.Proofs.H15e

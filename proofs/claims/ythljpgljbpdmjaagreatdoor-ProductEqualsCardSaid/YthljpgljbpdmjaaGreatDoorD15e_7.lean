/- Functions over plain data. Printed by a program of mine. -/
import Derived.Test.YthljpgljbpdmjaaGreatDoorD15e_6
import Derived.KernelRfl
set_option linter.unusedVariables false
set_option linter.unusedSimpArgs false
set_option linter.unnecessarySimpa false
namespace Go.Proofs.H15e
open Go Go.Eng
set_option maxRecDepth 100000
abbrev B_u47q : Type := Bool
def p_u47q : PArgs := ⟨[.agg [.str, .int .i64, .int .i64, .int .i64, .str, .view 4, .int .i64, .int .i64, .str, .view 4], .agg [.str, .int .i64, .int .i64, .int .i64, .str, .view 4, .int .i64, .int .i64, .str, .view 4]], []⟩
def r_u47q : List PRes := [⟨false, .bool, []⟩]
noncomputable def tr_u47q (x0 : List UInt8) (x1 x2 x3 : Int) (x4 : List UInt8) (x5 : List AV) (x6 x7 : Int) (x8 : List UInt8) (x9 : List AV) (x10 : List UInt8) (x11 x12 x13 : Int) (x14 : List UInt8) (x15 : List AV) (x16 x17 : Int) (x18 : List UInt8) (x19 : List AV) : DT B_u47q :=
 .bi (br (x0 == x10) (some (x1 == x11)) (some false)) (fun y0 =>
  .bi (br y0 (br (sm (f_u118q x2 x3 x4 x5 x12 x13 x14 x15)) (some (gv (f_u118q x2 x3 x4 x5 x12 x13 x14 x15))) none) (some false)) (fun y1 =>
   .bi (br y1 (br (sm (f_u118q x6 x7 x8 x9 x16 x17 x18 x19)) (some (gv (f_u118q x6 x7 x8 x9 x16 x17 x18 x19))) none) (some false)) (fun y2 =>
    .at (y2))
    (.no))
   (.no))
  (.no)
noncomputable def f_u47q (x0 : List UInt8) (x1 x2 x3 : Int) (x4 : List UInt8) (x5 : List AV) (x6 x7 : Int) (x8 : List UInt8) (x9 : List AV) (x10 : List UInt8) (x11 x12 x13 : Int) (x14 : List UInt8) (x15 : List AV) (x16 x17 : Int) (x18 : List UInt8) (x19 : List AV) : Option B_u47q := lock (tr_u47q x0 x1 x2 x3 x4 x5 x6 x7 x8 x9 x10 x11 x12 x13 x14 x15 x16 x17 x18 x19).ev
theorem f_u47q_eq (x0 : List UInt8) (x1 x2 x3 : Int) (x4 : List UInt8) (x5 : List AV) (x6 x7 : Int) (x8 : List UInt8) (x9 : List AV) (x10 : List UInt8) (x11 x12 x13 : Int) (x14 : List UInt8) (x15 : List AV) (x16 x17 : Int) (x18 : List UInt8) (x19 : List AV) : f_u47q x0 x1 x2 x3 x4 x5 x6 x7 x8 x9 x10 x11 x12 x13 x14 x15 x16 x17 x18 x19 = (tr_u47q x0 x1 x2 x3 x4 x5 x6 x7 x8 x9 x10 x11 x12 x13 x14 x15 x16 x17 x18 x19).ev := lock_eq _
theorem c_u47q : FH IP 43 p_u47q r_u47q (fun (v : List UInt8 × Int × Int × Int × List UInt8 × List AV × Int × Int × List UInt8 × List AV × List UInt8 × Int × Int × Int × List UInt8 × List AV × Int × Int × List UInt8 × List AV) => (f_u47q v.1 v.2.1 v.2.2.1 v.2.2.2.1 v.2.2.2.2.1 v.2.2.2.2.2.1 v.2.2.2.2.2.2.1 v.2.2.2.2.2.2.2.1 v.2.2.2.2.2.2.2.2.1 v.2.2.2.2.2.2.2.2.2.1 v.2.2.2.2.2.2.2.2.2.2.1 v.2.2.2.2.2.2.2.2.2.2.2.1 v.2.2.2.2.2.2.2.2.2.2.2.2.1 v.2.2.2.2.2.2.2.2.2.2.2.2.2.1 v.2.2.2.2.2.2.2.2.2.2.2.2.2.2.1 v.2.2.2.2.2.2.2.2.2.2.2.2.2.2.2.1 v.2.2.2.2.2.2.2.2.2.2.2.2.2.2.2.2.1 v.2.2.2.2.2.2.2.2.2.2.2.2.2.2.2.2.2.1 v.2.2.2.2.2.2.2.2.2.2.2.2.2.2.2.2.2.2.1 v.2.2.2.2.2.2.2.2.2.2.2.2.2.2.2.2.2.2.2 : Option B_u47q)) := fun_FH (F := F43) (L := []) (t := fun (v : List UInt8 × Int × Int × Int × List UInt8 × List AV × Int × Int × List UInt8 × List AV × List UInt8 × Int × Int × Int × List UInt8 × List AV × Int × Int × List UInt8 × List AV) => tr_u47q v.1 v.2.1 v.2.2.1 v.2.2.2.1 v.2.2.2.2.1 v.2.2.2.2.2.1 v.2.2.2.2.2.2.1 v.2.2.2.2.2.2.2.1 v.2.2.2.2.2.2.2.2.1 v.2.2.2.2.2.2.2.2.2.1 v.2.2.2.2.2.2.2.2.2.2.1 v.2.2.2.2.2.2.2.2.2.2.2.1 v.2.2.2.2.2.2.2.2.2.2.2.2.1 v.2.2.2.2.2.2.2.2.2.2.2.2.2.1 v.2.2.2.2.2.2.2.2.2.2.2.2.2.2.1 v.2.2.2.2.2.2.2.2.2.2.2.2.2.2.2.1 v.2.2.2.2.2.2.2.2.2.2.2.2.2.2.2.2.1 v.2.2.2.2.2.2.2.2.2.2.2.2.2.2.2.2.2.1 v.2.2.2.2.2.2.2.2.2.2.2.2.2.2.2.2.2.2.1 v.2.2.2.2.2.2.2.2.2.2.2.2.2.2.2.2.2.2.2) T76_ok (LOk_of (l := []) (by kernel_rfl) trivial) (by kernel_rfl) (fun v => by kernel_rfl) (fun v => f_u47q_eq v.1 v.2.1 v.2.2.1 v.2.2.2.1 v.2.2.2.2.1 v.2.2.2.2.2.1 v.2.2.2.2.2.2.1 v.2.2.2.2.2.2.2.1 v.2.2.2.2.2.2.2.2.1 v.2.2.2.2.2.2.2.2.2.1 v.2.2.2.2.2.2.2.2.2.2.1 v.2.2.2.2.2.2.2.2.2.2.2.1 v.2.2.2.2.2.2.2.2.2.2.2.2.1 v.2.2.2.2.2.2.2.2.2.2.2.2.2.1 v.2.2.2.2.2.2.2.2.2.2.2.2.2.2.1 v.2.2.2.2.2.2.2.2.2.2.2.2.2.2.2.1 v.2.2.2.2.2.2.2.2.2.2.2.2.2.2.2.2.1 v.2.2.2.2.2.2.2.2.2.2.2.2.2.2.2.2.2.1 v.2.2.2.2.2.2.2.2.2.2.2.2.2.2.2.2.2.2.1 v.2.2.2.2.2.2.2.2.2.2.2.2.2.2.2.2.2.2.2)
noncomputable def T77 : Tab := (43, FE p_u47q r_u47q (fun (v : List UInt8 × Int × Int × Int × List UInt8 × List AV × Int × Int × List UInt8 × List AV × List UInt8 × Int × Int × Int × List UInt8 × List AV × Int × Int × List UInt8 × List AV) => (f_u47q v.1 v.2.1 v.2.2.1 v.2.2.2.1 v.2.2.2.2.1 v.2.2.2.2.2.1 v.2.2.2.2.2.2.1 v.2.2.2.2.2.2.2.1 v.2.2.2.2.2.2.2.2.1 v.2.2.2.2.2.2.2.2.2.1 v.2.2.2.2.2.2.2.2.2.2.1 v.2.2.2.2.2.2.2.2.2.2.2.1 v.2.2.2.2.2.2.2.2.2.2.2.2.1 v.2.2.2.2.2.2.2.2.2.2.2.2.2.1 v.2.2.2.2.2.2.2.2.2.2.2.2.2.2.1 v.2.2.2.2.2.2.2.2.2.2.2.2.2.2.2.1 v.2.2.2.2.2.2.2.2.2.2.2.2.2.2.2.2.1 v.2.2.2.2.2.2.2.2.2.2.2.2.2.2.2.2.2.1 v.2.2.2.2.2.2.2.2.2.2.2.2.2.2.2.2.2.2.1 v.2.2.2.2.2.2.2.2.2.2.2.2.2.2.2.2.2.2.2 : Option B_u47q))) :: T76
theorem T77_ok : TabOk IP T77 := ⟨FE_ok c_u47q, T76_ok⟩
abbrev TT_u4q : Type := List AV × List AV × Int × Int
def hs_u4q : List PSt := [⟨[(1004200, .junk), (1, .view 10), (2, .fn (.func 43) []), (15, .view 10), (16, .int .i64), (17, .int .i64)], [], 0, 0⟩]
noncomputable def x_u4q_0 (x0 x1 : List AV) (x2 x3 : Int) : X × St := (X.ret, { tm := [(6, AV.bool false)], hp := [], nx := 0, k := 0 })
noncomputable def x_u4q_1 (x0 x1 : List AV) (x2 x3 : Int) : X × St := (X.exit 0, { tm := [(6, AV.junk)], hp := [], nx := 0, k := 0 })
noncomputable def x_u4q : List (TT_u4q → X × St) := [fun w => x_u4q_0 w.1 w.2.1 w.2.2.1 w.2.2.2, fun w => x_u4q_1 w.1 w.2.1 w.2.2.1 w.2.2.2]
noncomputable def st_u4q_0 (x0 x1 : List AV) (x2 x3 : Int) : DT (Rd TT_u4q) :=
 .br (decide (x3 < x2))
  (.br (okAt [CS.str, CS.int IntKind.i64, CS.int IntKind.i64, CS.int IntKind.i64, CS.str, CS.slice 4, CS.int IntKind.i64, CS.int IntKind.i64, CS.str, CS.slice 4] x1 x3)
   (.br (okAt [CS.str, CS.int IntKind.i64, CS.int IntKind.i64, CS.int IntKind.i64, CS.str, CS.slice 4, CS.int IntKind.i64, CS.int IntKind.i64, CS.str, CS.slice 4] x0 x3)
    (.bi (f_u47q (strOf (cellAt x1 x3 0)) (intOf (cellAt x1 x3 1)) (intOf (cellAt x1 x3 2)) (intOf (cellAt x1 x3 3)) (strOf (cellAt x1 x3 4)) (viewOf (cellAt x1 x3 5))
        (intOf (cellAt x1 x3 6)) (intOf (cellAt x1 x3 7)) (strOf (cellAt x1 x3 8)) (viewOf (cellAt x1 x3 9)) (strOf (cellAt x0 x3 0)) (intOf (cellAt x0 x3 1)) (intOf (cellAt x0 x3 2))
        (intOf (cellAt x0 x3 3)) (strOf (cellAt x0 x3 4)) (viewOf (cellAt x0 x3 5)) (intOf (cellAt x0 x3 6)) (intOf (cellAt x0 x3 7)) (strOf (cellAt x0 x3 8)) (viewOf (cellAt x0 x3 9))) (fun y0 =>
     .br (!y0) (.at (.done 0)) (.at (.next ((x0, x1, x2, IntKind.i64.wrap (x3 + 1))))))
     (.no))
    (.no))
   (.no))
  (.at (.done 1))
noncomputable def st_u4q : TT_u4q → DT (Rd TT_u4q) := (fun v => st_u4q_0 v.1 v.2.1 v.2.2.1 v.2.2.2)
noncomputable def l_u4q (v : TT_u4q) : Option (Nat × TT_u4q) := lock (iterO (fun v => (st_u4q v).ev) v)
theorem l_u4q_eq (v : TT_u4q) : l_u4q v = iterO (fun v => (st_u4q v).ev) v := lock_eq _
noncomputable def ll_u4q : LEnt := LE (τ := TT_u4q) (hD hs_u4q) (l_u4q) x_u4q
theorem t_u4q : Go.Eng.Told IP (loopAt F42 0).1 (loopAt F42 0).2 (ll_u4q) := loop_LE (inferInstance : Inhabited TT_u4q) (hs := hs_u4q) (st := st_u4q) (L := []) T77_ok (LOk_of (l := []) (by kernel_rfl) trivial) (l_u4q_eq) (fun v => by kernel_rfl) (fun v => by kernel_rfl)
abbrev B_u5q : Type := Bool
def p_u5q : PArgs := ⟨[.view 10, .view 10, .fn (.func 43) []], []⟩
def r_u5q : List PRes := [⟨false, .bool, []⟩]
noncomputable def tr_u5q (x0 x1 : List AV) : DT B_u5q :=
 .br ((↑x0.length : Int) != (↑x1.length : Int))
  (.at (false))
  (.bi (pj 0 (l_u4q (x1, x0, (↑x0.length : Int), 0))) (fun y0 =>
   .at (false))
   (.bi (pj 1 (l_u4q (x1, x0, (↑x0.length : Int), 0))) (fun y0 =>
    .at (true))
    (.no)))
noncomputable def f_u5q (x0 x1 : List AV) : Option B_u5q := lock (tr_u5q x0 x1).ev
theorem f_u5q_eq (x0 x1 : List AV) : f_u5q x0 x1 = (tr_u5q x0 x1).ev := lock_eq _
theorem c_u5q : FH IP 42 p_u5q r_u5q (fun (v : List AV × List AV) => (f_u5q v.1 v.2 : Option B_u5q)) := fun_FH (F := F42) (L := [(1004200, ll_u4q)]) (t := fun (v : List AV × List AV) => tr_u5q v.1 v.2) T77_ok (LOk_of (l := [loopAt F42 0]) (by kernel_rfl) ⟨sel_one (by kernel_rfl) t_u4q, trivial⟩) (by kernel_rfl) (fun v => by kernel_rfl) (fun v => f_u5q_eq v.1 v.2)
noncomputable def T78 : Tab := (42, FE p_u5q r_u5q (fun (v : List AV × List AV) => (f_u5q v.1 v.2 : Option B_u5q))) :: T77
theorem T78_ok : TabOk IP T78 := ⟨FE_ok c_u5q, T77_ok⟩
abbrev B_u48q : Type := Bool
def p_u48q : PArgs := ⟨[.agg [.str, .int .i64, .int .i64, .int .i64, .str, .view 4], .agg [.str, .int .i64, .int .i64, .int .i64, .str, .view 4]], []⟩
def r_u48q : List PRes := [⟨false, .bool, []⟩]
noncomputable def tr_u48q (x0 : List UInt8) (x1 x2 x3 : Int) (x4 : List UInt8) (x5 : List AV) (x6 : List UInt8) (x7 x8 x9 : Int) (x10 : List UInt8) (x11 : List AV) : DT B_u48q :=
 .bi (br (x0 == x6) (some (x1 == x7)) (some false)) (fun y0 =>
  .bi (br y0 (br (sm (f_u118q x2 x3 x4 x5 x8 x9 x10 x11)) (some (gv (f_u118q x2 x3 x4 x5 x8 x9 x10 x11))) none) (some false)) (fun y1 =>
   .at (y1))
   (.no))
  (.no)
noncomputable def f_u48q (x0 : List UInt8) (x1 x2 x3 : Int) (x4 : List UInt8) (x5 : List AV) (x6 : List UInt8) (x7 x8 x9 : Int) (x10 : List UInt8) (x11 : List AV) : Option B_u48q := lock (tr_u48q x0 x1 x2 x3 x4 x5 x6 x7 x8 x9 x10 x11).ev
theorem f_u48q_eq (x0 : List UInt8) (x1 x2 x3 : Int) (x4 : List UInt8) (x5 : List AV) (x6 : List UInt8) (x7 x8 x9 : Int) (x10 : List UInt8) (x11 : List AV) : f_u48q x0 x1 x2 x3 x4 x5 x6 x7 x8 x9 x10 x11 = (tr_u48q x0 x1 x2 x3 x4 x5 x6 x7 x8 x9 x10 x11).ev := lock_eq _
theorem c_u48q : FH IP 46 p_u48q r_u48q (fun (v : List UInt8 × Int × Int × Int × List UInt8 × List AV × List UInt8 × Int × Int × Int × List UInt8 × List AV) => (f_u48q v.1 v.2.1 v.2.2.1 v.2.2.2.1 v.2.2.2.2.1 v.2.2.2.2.2.1 v.2.2.2.2.2.2.1 v.2.2.2.2.2.2.2.1 v.2.2.2.2.2.2.2.2.1 v.2.2.2.2.2.2.2.2.2.1 v.2.2.2.2.2.2.2.2.2.2.1 v.2.2.2.2.2.2.2.2.2.2.2 : Option B_u48q)) := fun_FH (F := F46) (L := []) (t := fun (v : List UInt8 × Int × Int × Int × List UInt8 × List AV × List UInt8 × Int × Int × Int × List UInt8 × List AV) => tr_u48q v.1 v.2.1 v.2.2.1 v.2.2.2.1 v.2.2.2.2.1 v.2.2.2.2.2.1 v.2.2.2.2.2.2.1 v.2.2.2.2.2.2.2.1 v.2.2.2.2.2.2.2.2.1 v.2.2.2.2.2.2.2.2.2.1 v.2.2.2.2.2.2.2.2.2.2.1 v.2.2.2.2.2.2.2.2.2.2.2) T78_ok (LOk_of (l := []) (by kernel_rfl) trivial) (by kernel_rfl) (fun v => by kernel_rfl) (fun v => f_u48q_eq v.1 v.2.1 v.2.2.1 v.2.2.2.1 v.2.2.2.2.1 v.2.2.2.2.2.1 v.2.2.2.2.2.2.1 v.2.2.2.2.2.2.2.1 v.2.2.2.2.2.2.2.2.1 v.2.2.2.2.2.2.2.2.2.1 v.2.2.2.2.2.2.2.2.2.2.1 v.2.2.2.2.2.2.2.2.2.2.2)
noncomputable def T79 : Tab := (46, FE p_u48q r_u48q (fun (v : List UInt8 × Int × Int × Int × List UInt8 × List AV × List UInt8 × Int × Int × Int × List UInt8 × List AV) => (f_u48q v.1 v.2.1 v.2.2.1 v.2.2.2.1 v.2.2.2.2.1 v.2.2.2.2.2.1 v.2.2.2.2.2.2.1 v.2.2.2.2.2.2.2.1 v.2.2.2.2.2.2.2.2.1 v.2.2.2.2.2.2.2.2.2.1 v.2.2.2.2.2.2.2.2.2.2.1 v.2.2.2.2.2.2.2.2.2.2.2 : Option B_u48q))) :: T78
theorem T79_ok : TabOk IP T79 := ⟨FE_ok c_u48q, T78_ok⟩
abbrev TT_u1q : Type := List AV × List AV × Int × Int
def hs_u1q : List PSt := [⟨[(1004500, .junk), (1, .view 6), (2, .fn (.func 46) []), (15, .view 6), (16, .int .i64), (17, .int .i64)], [], 0, 0⟩]
noncomputable def x_u1q_0 (x0 x1 : List AV) (x2 x3 : Int) : X × St := (X.ret, { tm := [(6, AV.bool false)], hp := [], nx := 0, k := 0 })
noncomputable def x_u1q_1 (x0 x1 : List AV) (x2 x3 : Int) : X × St := (X.exit 0, { tm := [(6, AV.junk)], hp := [], nx := 0, k := 0 })
noncomputable def x_u1q : List (TT_u1q → X × St) := [fun w => x_u1q_0 w.1 w.2.1 w.2.2.1 w.2.2.2, fun w => x_u1q_1 w.1 w.2.1 w.2.2.1 w.2.2.2]
noncomputable def st_u1q_0 (x0 x1 : List AV) (x2 x3 : Int) : DT (Rd TT_u1q) :=
 .br (decide (x3 < x2))
  (.br (okAt [CS.str, CS.int IntKind.i64, CS.int IntKind.i64, CS.int IntKind.i64, CS.str, CS.slice 4] x1 x3)
   (.br (okAt [CS.str, CS.int IntKind.i64, CS.int IntKind.i64, CS.int IntKind.i64, CS.str, CS.slice 4] x0 x3)
    (.bi (f_u48q (strOf (cellAt x1 x3 0)) (intOf (cellAt x1 x3 1)) (intOf (cellAt x1 x3 2)) (intOf (cellAt x1 x3 3)) (strOf (cellAt x1 x3 4)) (viewOf (cellAt x1 x3 5))
        (strOf (cellAt x0 x3 0)) (intOf (cellAt x0 x3 1)) (intOf (cellAt x0 x3 2)) (intOf (cellAt x0 x3 3)) (strOf (cellAt x0 x3 4)) (viewOf (cellAt x0 x3 5))) (fun y0 =>
     .br (!y0) (.at (.done 0)) (.at (.next ((x0, x1, x2, IntKind.i64.wrap (x3 + 1))))))
     (.no))
    (.no))
   (.no))
  (.at (.done 1))
noncomputable def st_u1q : TT_u1q → DT (Rd TT_u1q) := (fun v => st_u1q_0 v.1 v.2.1 v.2.2.1 v.2.2.2)
noncomputable def l_u1q (v : TT_u1q) : Option (Nat × TT_u1q) := lock (iterO (fun v => (st_u1q v).ev) v)
theorem l_u1q_eq (v : TT_u1q) : l_u1q v = iterO (fun v => (st_u1q v).ev) v := lock_eq _
noncomputable def ll_u1q : LEnt := LE (τ := TT_u1q) (hD hs_u1q) (l_u1q) x_u1q
theorem t_u1q : Go.Eng.Told IP (loopAt F45 0).1 (loopAt F45 0).2 (ll_u1q) := loop_LE (inferInstance : Inhabited TT_u1q) (hs := hs_u1q) (st := st_u1q) (L := []) T79_ok (LOk_of (l := []) (by kernel_rfl) trivial) (l_u1q_eq) (fun v => by kernel_rfl) (fun v => by kernel_rfl)
abbrev B_u3q : Type := Bool
def p_u3q : PArgs := ⟨[.view 6, .view 6, .fn (.func 46) []], []⟩
def r_u3q : List PRes := [⟨false, .bool, []⟩]
noncomputable def tr_u3q (x0 x1 : List AV) : DT B_u3q :=
 .br ((↑x0.length : Int) != (↑x1.length : Int))
  (.at (false))
  (.bi (pj 0 (l_u1q (x1, x0, (↑x0.length : Int), 0))) (fun y0 =>
   .at (false))
   (.bi (pj 1 (l_u1q (x1, x0, (↑x0.length : Int), 0))) (fun y0 =>
    .at (true))
    (.no)))
noncomputable def f_u3q (x0 x1 : List AV) : Option B_u3q := lock (tr_u3q x0 x1).ev
theorem f_u3q_eq (x0 x1 : List AV) : f_u3q x0 x1 = (tr_u3q x0 x1).ev := lock_eq _
theorem c_u3q : FH IP 45 p_u3q r_u3q (fun (v : List AV × List AV) => (f_u3q v.1 v.2 : Option B_u3q)) := fun_FH (F := F45) (L := [(1004500, ll_u1q)]) (t := fun (v : List AV × List AV) => tr_u3q v.1 v.2) T79_ok (LOk_of (l := [loopAt F45 0]) (by kernel_rfl) ⟨sel_one (by kernel_rfl) t_u1q, trivial⟩) (by kernel_rfl) (fun v => by kernel_rfl) (fun v => f_u3q_eq v.1 v.2)
noncomputable def T80 : Tab := (45, FE p_u3q r_u3q (fun (v : List AV × List AV) => (f_u3q v.1 v.2 : Option B_u3q))) :: T79
theorem T80_ok : TabOk IP T80 := ⟨FE_ok c_u3q, T79_ok⟩
abbrev B_u75q : Type := Bool
def p_u75q : PArgs := ⟨[.agg [.str, .str, .str, .int .i64, .int .i64, .int .i64, .int .i64, .view 2, .bool, .int .i64, .int .i64, .bool, .view 2, .bool, .int .i64, .int .i64, .bool, .view 10, .view 6], .agg [.str, .str, .str, .int .i64, .int .i64, .int .i64, .int .i64, .view 2, .bool, .int .i64, .int .i64, .bool, .view 2, .bool, .int .i64, .int .i64, .bool, .view 10, .view 6]], []⟩
def r_u75q : List PRes := [⟨false, .bool, []⟩]
noncomputable def tr_u75q (x0 x1 x2 : List UInt8) (x3 x4 : Int) (x5 x6 : Int) (x7 : List AV) (x8 : Bool) (x9 x10 : Int) (x11 : Bool) (x12 : List AV) (x13 : Bool) (x14 x15 : Int) (x16 : Bool) (x17 x18 : List AV) (x19 x20 x21 : List UInt8) (x22 x23 : Int) (x24 x25 : Int) (x26 : List AV) (x27 : Bool) (x28 x29 : Int) (x30 : Bool) (x31 : List AV) (x32 : Bool) (x33 x34 : Int) (x35 : Bool) (x36 x37 : List AV) : DT B_u75q :=
 .bi (br (!x0 == x19) (some true) (some !x1 == x20)) (fun y0 =>
  .bi (br y0 (some true) (some !x2 == x21)) (fun y1 =>
   .bi (br y1 (some true) (some (x3 != x22))) (fun y2 =>
    .bi (br y2 (some true) (some (x4 != x23))) (fun y3 =>
     .bi (br y3 (some true) (some (x5 != x24))) (fun y4 =>
      .bi (br y4 (some true) (some (x6 != x25))) (fun y5 =>
       .br (y5)
        (.at (false))
        (.bi (f_u25q x7 x8 x9 x10 x11 x26 x27 x28 x29 x30) (fun y6 =>
         .bi (br (!y6) (some true) (br (sm (f_u25q x12 x13 x14 x15 x16 x31 x32 x33 x34 x35)) (some !gv (f_u25q x12 x13 x14 x15 x16 x31 x32 x33 x34 x35)) none)) (fun y7 =>
          .br (y7)
           (.at (false))
           (.bi (f_u5q x17 x36) (fun y8 =>
            .bi (br y8 (br (sm (f_u3q x18 x37)) (some (gv (f_u3q x18 x37))) none) (some false)) (fun y9 =>
             .at (y9))
             (.no))
            (.no)))
          (.no))
         (.no)))
       (.no))
      (.no))
     (.no))
    (.no))
   (.no))
  (.no)
noncomputable def f_u75q (x0 x1 x2 : List UInt8) (x3 x4 : Int) (x5 x6 : Int) (x7 : List AV) (x8 : Bool) (x9 x10 : Int) (x11 : Bool) (x12 : List AV) (x13 : Bool) (x14 x15 : Int) (x16 : Bool) (x17 x18 : List AV) (x19 x20 x21 : List UInt8) (x22 x23 : Int) (x24 x25 : Int) (x26 : List AV) (x27 : Bool) (x28 x29 : Int) (x30 : Bool) (x31 : List AV) (x32 : Bool) (x33 x34 : Int) (x35 : Bool) (x36 x37 : List AV) : Option B_u75q := lock (tr_u75q x0 x1 x2 x3 x4 x5 x6 x7 x8 x9 x10 x11 x12 x13 x14 x15 x16 x17 x18 x19 x20 x21 x22 x23 x24 x25 x26 x27 x28 x29 x30 x31 x32 x33 x34 x35 x36 x37).ev
theorem f_u75q_eq (x0 x1 x2 : List UInt8) (x3 x4 : Int) (x5 x6 : Int) (x7 : List AV) (x8 : Bool) (x9 x10 : Int) (x11 : Bool) (x12 : List AV) (x13 : Bool) (x14 x15 : Int) (x16 : Bool) (x17 x18 : List AV) (x19 x20 x21 : List UInt8) (x22 x23 : Int) (x24 x25 : Int) (x26 : List AV) (x27 : Bool) (x28 x29 : Int) (x30 : Bool) (x31 : List AV) (x32 : Bool) (x33 x34 : Int) (x35 : Bool) (x36 x37 : List AV) : f_u75q x0 x1 x2 x3 x4 x5 x6 x7 x8 x9 x10 x11 x12 x13 x14 x15 x16 x17 x18 x19 x20 x21 x22 x23 x24 x25 x26 x27 x28 x29 x30 x31 x32 x33 x34 x35 x36 x37 = (tr_u75q x0 x1 x2 x3 x4 x5 x6 x7 x8 x9 x10 x11 x12 x13 x14 x15 x16 x17 x18 x19 x20 x21 x22 x23 x24 x25 x26 x27 x28 x29 x30 x31 x32 x33 x34 x35 x36 x37).ev := lock_eq _
theorem c_u75q : FH IP 20 p_u75q r_u75q (fun (v : List UInt8 × List UInt8 × List UInt8 × Int × Int × Int × Int × List AV × Bool × Int × Int × Bool × List AV × Bool × Int × Int × Bool × List AV × List AV × List UInt8 × List UInt8 × List UInt8 × Int × Int × Int × Int × List AV × Bool × Int × Int × Bool × List AV × Bool × Int × Int × Bool × List AV × List AV) => (f_u75q v.1 v.2.1 v.2.2.1 v.2.2.2.1 v.2.2.2.2.1 v.2.2.2.2.2.1 v.2.2.2.2.2.2.1 v.2.2.2.2.2.2.2.1 v.2.2.2.2.2.2.2.2.1 v.2.2.2.2.2.2.2.2.2.1 v.2.2.2.2.2.2.2.2.2.2.1 v.2.2.2.2.2.2.2.2.2.2.2.1 v.2.2.2.2.2.2.2.2.2.2.2.2.1 v.2.2.2.2.2.2.2.2.2.2.2.2.2.1 v.2.2.2.2.2.2.2.2.2.2.2.2.2.2.1 v.2.2.2.2.2.2.2.2.2.2.2.2.2.2.2.1 v.2.2.2.2.2.2.2.2.2.2.2.2.2.2.2.2.1 v.2.2.2.2.2.2.2.2.2.2.2.2.2.2.2.2.2.1 v.2.2.2.2.2.2.2.2.2.2.2.2.2.2.2.2.2.2.1 v.2.2.2.2.2.2.2.2.2.2.2.2.2.2.2.2.2.2.2.1 v.2.2.2.2.2.2.2.2.2.2.2.2.2.2.2.2.2.2.2.2.1 v.2.2.2.2.2.2.2.2.2.2.2.2.2.2.2.2.2.2.2.2.2.1 v.2.2.2.2.2.2.2.2.2.2.2.2.2.2.2.2.2.2.2.2.2.2.1 v.2.2.2.2.2.2.2.2.2.2.2.2.2.2.2.2.2.2.2.2.2.2.2.1 v.2.2.2.2.2.2.2.2.2.2.2.2.2.2.2.2.2.2.2.2.2.2.2.2.1 v.2.2.2.2.2.2.2.2.2.2.2.2.2.2.2.2.2.2.2.2.2.2.2.2.2.1 v.2.2.2.2.2.2.2.2.2.2.2.2.2.2.2.2.2.2.2.2.2.2.2.2.2.2.1 v.2.2.2.2.2.2.2.2.2.2.2.2.2.2.2.2.2.2.2.2.2.2.2.2.2.2.2.1 v.2.2.2.2.2.2.2.2.2.2.2.2.2.2.2.2.2.2.2.2.2.2.2.2.2.2.2.2.1 v.2.2.2.2.2.2.2.2.2.2.2.2.2.2.2.2.2.2.2.2.2.2.2.2.2.2.2.2.2.1 v.2.2.2.2.2.2.2.2.2.2.2.2.2.2.2.2.2.2.2.2.2.2.2.2.2.2.2.2.2.2.1 v.2.2.2.2.2.2.2.2.2.2.2.2.2.2.2.2.2.2.2.2.2.2.2.2.2.2.2.2.2.2.2.1 v.2.2.2.2.2.2.2.2.2.2.2.2.2.2.2.2.2.2.2.2.2.2.2.2.2.2.2.2.2.2.2.2.1 v.2.2.2.2.2.2.2.2.2.2.2.2.2.2.2.2.2.2.2.2.2.2.2.2.2.2.2.2.2.2.2.2.2.1 v.2.2.2.2.2.2.2.2.2.2.2.2.2.2.2.2.2.2.2.2.2.2.2.2.2.2.2.2.2.2.2.2.2.2.1 v.2.2.2.2.2.2.2.2.2.2.2.2.2.2.2.2.2.2.2.2.2.2.2.2.2.2.2.2.2.2.2.2.2.2.2.1 v.2.2.2.2.2.2.2.2.2.2.2.2.2.2.2.2.2.2.2.2.2.2.2.2.2.2.2.2.2.2.2.2.2.2.2.2.1 v.2.2.2.2.2.2.2.2.2.2.2.2.2.2.2.2.2.2.2.2.2.2.2.2.2.2.2.2.2.2.2.2.2.2.2.2.2 : Option B_u75q)) := fun_FH (F := F20) (L := []) (t := fun (v : List UInt8 × List UInt8 × List UInt8 × Int × Int × Int × Int × List AV × Bool × Int × Int × Bool × List AV × Bool × Int × Int × Bool × List AV × List AV × List UInt8 × List UInt8 × List UInt8 × Int × Int × Int × Int × List AV × Bool × Int × Int × Bool × List AV × Bool × Int × Int × Bool × List AV × List AV) => tr_u75q v.1 v.2.1 v.2.2.1 v.2.2.2.1 v.2.2.2.2.1 v.2.2.2.2.2.1 v.2.2.2.2.2.2.1 v.2.2.2.2.2.2.2.1 v.2.2.2.2.2.2.2.2.1 v.2.2.2.2.2.2.2.2.2.1 v.2.2.2.2.2.2.2.2.2.2.1 v.2.2.2.2.2.2.2.2.2.2.2.1 v.2.2.2.2.2.2.2.2.2.2.2.2.1 v.2.2.2.2.2.2.2.2.2.2.2.2.2.1 v.2.2.2.2.2.2.2.2.2.2.2.2.2.2.1 v.2.2.2.2.2.2.2.2.2.2.2.2.2.2.2.1 v.2.2.2.2.2.2.2.2.2.2.2.2.2.2.2.2.1 v.2.2.2.2.2.2.2.2.2.2.2.2.2.2.2.2.2.1 v.2.2.2.2.2.2.2.2.2.2.2.2.2.2.2.2.2.2.1 v.2.2.2.2.2.2.2.2.2.2.2.2.2.2.2.2.2.2.2.1 v.2.2.2.2.2.2.2.2.2.2.2.2.2.2.2.2.2.2.2.2.1 v.2.2.2.2.2.2.2.2.2.2.2.2.2.2.2.2.2.2.2.2.2.1 v.2.2.2.2.2.2.2.2.2.2.2.2.2.2.2.2.2.2.2.2.2.2.1 v.2.2.2.2.2.2.2.2.2.2.2.2.2.2.2.2.2.2.2.2.2.2.2.1 v.2.2.2.2.2.2.2.2.2.2.2.2.2.2.2.2.2.2.2.2.2.2.2.2.1 v.2.2.2.2.2.2.2.2.2.2.2.2.2.2.2.2.2.2.2.2.2.2.2.2.2.1 v.2.2.2.2.2.2.2.2.2.2.2.2.2.2.2.2.2.2.2.2.2.2.2.2.2.2.1 v.2.2.2.2.2.2.2.2.2.2.2.2.2.2.2.2.2.2.2.2.2.2.2.2.2.2.2.1 v.2.2.2.2.2.2.2.2.2.2.2.2.2.2.2.2.2.2.2.2.2.2.2.2.2.2.2.2.1 v.2.2.2.2.2.2.2.2.2.2.2.2.2.2.2.2.2.2.2.2.2.2.2.2.2.2.2.2.2.1 v.2.2.2.2.2.2.2.2.2.2.2.2.2.2.2.2.2.2.2.2.2.2.2.2.2.2.2.2.2.2.1 v.2.2.2.2.2.2.2.2.2.2.2.2.2.2.2.2.2.2.2.2.2.2.2.2.2.2.2.2.2.2.2.1 v.2.2.2.2.2.2.2.2.2.2.2.2.2.2.2.2.2.2.2.2.2.2.2.2.2.2.2.2.2.2.2.2.1 v.2.2.2.2.2.2.2.2.2.2.2.2.2.2.2.2.2.2.2.2.2.2.2.2.2.2.2.2.2.2.2.2.2.1 v.2.2.2.2.2.2.2.2.2.2.2.2.2.2.2.2.2.2.2.2.2.2.2.2.2.2.2.2.2.2.2.2.2.2.1 v.2.2.2.2.2.2.2.2.2.2.2.2.2.2.2.2.2.2.2.2.2.2.2.2.2.2.2.2.2.2.2.2.2.2.2.1 v.2.2.2.2.2.2.2.2.2.2.2.2.2.2.2.2.2.2.2.2.2.2.2.2.2.2.2.2.2.2.2.2.2.2.2.2.1 v.2.2.2.2.2.2.2.2.2.2.2.2.2.2.2.2.2.2.2.2.2.2.2.2.2.2.2.2.2.2.2.2.2.2.2.2.2) T80_ok (LOk_of (l := []) (by kernel_rfl) trivial) (by kernel_rfl) (fun v => by kernel_rfl) (fun v => f_u75q_eq v.1 v.2.1 v.2.2.1 v.2.2.2.1 v.2.2.2.2.1 v.2.2.2.2.2.1 v.2.2.2.2.2.2.1 v.2.2.2.2.2.2.2.1 v.2.2.2.2.2.2.2.2.1 v.2.2.2.2.2.2.2.2.2.1 v.2.2.2.2.2.2.2.2.2.2.1 v.2.2.2.2.2.2.2.2.2.2.2.1 v.2.2.2.2.2.2.2.2.2.2.2.2.1 v.2.2.2.2.2.2.2.2.2.2.2.2.2.1 v.2.2.2.2.2.2.2.2.2.2.2.2.2.2.1 v.2.2.2.2.2.2.2.2.2.2.2.2.2.2.2.1 v.2.2.2.2.2.2.2.2.2.2.2.2.2.2.2.2.1 v.2.2.2.2.2.2.2.2.2.2.2.2.2.2.2.2.2.1 v.2.2.2.2.2.2.2.2.2.2.2.2.2.2.2.2.2.2.1 v.2.2.2.2.2.2.2.2.2.2.2.2.2.2.2.2.2.2.2.1 v.2.2.2.2.2.2.2.2.2.2.2.2.2.2.2.2.2.2.2.2.1 v.2.2.2.2.2.2.2.2.2.2.2.2.2.2.2.2.2.2.2.2.2.1 v.2.2.2.2.2.2.2.2.2.2.2.2.2.2.2.2.2.2.2.2.2.2.1 v.2.2.2.2.2.2.2.2.2.2.2.2.2.2.2.2.2.2.2.2.2.2.2.1 v.2.2.2.2.2.2.2.2.2.2.2.2.2.2.2.2.2.2.2.2.2.2.2.2.1 v.2.2.2.2.2.2.2.2.2.2.2.2.2.2.2.2.2.2.2.2.2.2.2.2.2.1 v.2.2.2.2.2.2.2.2.2.2.2.2.2.2.2.2.2.2.2.2.2.2.2.2.2.2.1 v.2.2.2.2.2.2.2.2.2.2.2.2.2.2.2.2.2.2.2.2.2.2.2.2.2.2.2.1 v.2.2.2.2.2.2.2.2.2.2.2.2.2.2.2.2.2.2.2.2.2.2.2.2.2.2.2.2.1 v.2.2.2.2.2.2.2.2.2.2.2.2.2.2.2.2.2.2.2.2.2.2.2.2.2.2.2.2.2.1 v.2.2.2.2.2.2.2.2.2.2.2.2.2.2.2.2.2.2.2.2.2.2.2.2.2.2.2.2.2.2.1 v.2.2.2.2.2.2.2.2.2.2.2.2.2.2.2.2.2.2.2.2.2.2.2.2.2.2.2.2.2.2.2.1 v.2.2.2.2.2.2.2.2.2.2.2.2.2.2.2.2.2.2.2.2.2.2.2.2.2.2.2.2.2.2.2.2.1 v.2.2.2.2.2.2.2.2.2.2.2.2.2.2.2.2.2.2.2.2.2.2.2.2.2.2.2.2.2.2.2.2.2.1 v.2.2.2.2.2.2.2.2.2.2.2.2.2.2.2.2.2.2.2.2.2.2.2.2.2.2.2.2.2.2.2.2.2.2.1 v.2.2.2.2.2.2.2.2.2.2.2.2.2.2.2.2.2.2.2.2.2.2.2.2.2.2.2.2.2.2.2.2.2.2.2.1 v.2.2.2.2.2.2.2.2.2.2.2.2.2.2.2.2.2.2.2.2.2.2.2.2.2.2.2.2.2.2.2.2.2.2.2.2.1 v.2.2.2.2.2.2.2.2.2.2.2.2.2.2.2.2.2.2.2.2.2.2.2.2.2.2.2.2.2.2.2.2.2.2.2.2.2)
noncomputable def T81 : Tab := (20, FE p_u75q r_u75q (fun (v : List UInt8 × List UInt8 × List UInt8 × Int × Int × Int × Int × List AV × Bool × Int × Int × Bool × List AV × Bool × Int × Int × Bool × List AV × List AV × List UInt8 × List UInt8 × List UInt8 × Int × Int × Int × Int × List AV × Bool × Int × Int × Bool × List AV × Bool × Int × Int × Bool × List AV × List AV) => (f_u75q v.1 v.2.1 v.2.2.1 v.2.2.2.1 v.2.2.2.2.1 v.2.2.2.2.2.1 v.2.2.2.2.2.2.1 v.2.2.2.2.2.2.2.1 v.2.2.2.2.2.2.2.2.1 v.2.2.2.2.2.2.2.2.2.1 v.2.2.2.2.2.2.2.2.2.2.1 v.2.2.2.2.2.2.2.2.2.2.2.1 v.2.2.2.2.2.2.2.2.2.2.2.2.1 v.2.2.2.2.2.2.2.2.2.2.2.2.2.1 v.2.2.2.2.2.2.2.2.2.2.2.2.2.2.1 v.2.2.2.2.2.2.2.2.2.2.2.2.2.2.2.1 v.2.2.2.2.2.2.2.2.2.2.2.2.2.2.2.2.1 v.2.2.2.2.2.2.2.2.2.2.2.2.2.2.2.2.2.1 v.2.2.2.2.2.2.2.2.2.2.2.2.2.2.2.2.2.2.1 v.2.2.2.2.2.2.2.2.2.2.2.2.2.2.2.2.2.2.2.1 v.2.2.2.2.2.2.2.2.2.2.2.2.2.2.2.2.2.2.2.2.1 v.2.2.2.2.2.2.2.2.2.2.2.2.2.2.2.2.2.2.2.2.2.1 v.2.2.2.2.2.2.2.2.2.2.2.2.2.2.2.2.2.2.2.2.2.2.1 v.2.2.2.2.2.2.2.2.2.2.2.2.2.2.2.2.2.2.2.2.2.2.2.1 v.2.2.2.2.2.2.2.2.2.2.2.2.2.2.2.2.2.2.2.2.2.2.2.2.1 v.2.2.2.2.2.2.2.2.2.2.2.2.2.2.2.2.2.2.2.2.2.2.2.2.2.1 v.2.2.2.2.2.2.2.2.2.2.2.2.2.2.2.2.2.2.2.2.2.2.2.2.2.2.1 v.2.2.2.2.2.2.2.2.2.2.2.2.2.2.2.2.2.2.2.2.2.2.2.2.2.2.2.1 v.2.2.2.2.2.2.2.2.2.2.2.2.2.2.2.2.2.2.2.2.2.2.2.2.2.2.2.2.1 v.2.2.2.2.2.2.2.2.2.2.2.2.2.2.2.2.2.2.2.2.2.2.2.2.2.2.2.2.2.1 v.2.2.2.2.2.2.2.2.2.2.2.2.2.2.2.2.2.2.2.2.2.2.2.2.2.2.2.2.2.2.1 v.2.2.2.2.2.2.2.2.2.2.2.2.2.2.2.2.2.2.2.2.2.2.2.2.2.2.2.2.2.2.2.1 v.2.2.2.2.2.2.2.2.2.2.2.2.2.2.2.2.2.2.2.2.2.2.2.2.2.2.2.2.2.2.2.2.1 v.2.2.2.2.2.2.2.2.2.2.2.2.2.2.2.2.2.2.2.2.2.2.2.2.2.2.2.2.2.2.2.2.2.1 v.2.2.2.2.2.2.2.2.2.2.2.2.2.2.2.2.2.2.2.2.2.2.2.2.2.2.2.2.2.2.2.2.2.2.1 v.2.2.2.2.2.2.2.2.2.2.2.2.2.2.2.2.2.2.2.2.2.2.2.2.2.2.2.2.2.2.2.2.2.2.2.1 v.2.2.2.2.2.2.2.2.2.2.2.2.2.2.2.2.2.2.2.2.2.2.2.2.2.2.2.2.2.2.2.2.2.2.2.2.1 v.2.2.2.2.2.2.2.2.2.2.2.2.2.2.2.2.2.2.2.2.2.2.2.2.2.2.2.2.2.2.2.2.2.2.2.2.2 : Option B_u75q))) :: T80
theorem T81_ok : TabOk IP T81 := ⟨FE_ok c_u75q, T80_ok⟩
abbrev B_u117q : Type := Bool
def p_u117q : PArgs := ⟨[], []⟩
def r_u117q : List PRes := [⟨false, .bool, []⟩]
noncomputable def tr_u117q : DT B_u117q :=
 .bi (f_u121q) (fun y0 =>
  .bi (f_u77q) (fun y1 =>
   .bi (f_u63q y0.1 y0.2.1 y0.2.2.1 y0.2.2.2.1 y0.2.2.2.2.1 y0.2.2.2.2.2.1 y0.2.2.2.2.2.2.1
       y0.2.2.2.2.2.2.2.1 y0.2.2.2.2.2.2.2.2.1 y0.2.2.2.2.2.2.2.2.2.1 y0.2.2.2.2.2.2.2.2.2.2.1
       y0.2.2.2.2.2.2.2.2.2.2.2.1 y0.2.2.2.2.2.2.2.2.2.2.2.2.1 y0.2.2.2.2.2.2.2.2.2.2.2.2.2.1
       y0.2.2.2.2.2.2.2.2.2.2.2.2.2.2.1 y0.2.2.2.2.2.2.2.2.2.2.2.2.2.2.2.1
       y0.2.2.2.2.2.2.2.2.2.2.2.2.2.2.2.2.1 y0.2.2.2.2.2.2.2.2.2.2.2.2.2.2.2.2.2.1
       y0.2.2.2.2.2.2.2.2.2.2.2.2.2.2.2.2.2.2 [AV.agg [AV.str [69, 85, 82], AV.int IntKind.i64 2]]
       [AV.agg [AV.str [104, 111, 109, 101], AV.view 1 [], AV.view 1 []]]) (fun y2 =>
    .bi (br (y2 == 0)
        (br
          (sm
            (f_u63q y0.1 y0.2.1 y0.2.2.1 y0.2.2.2.1 2 y0.2.2.2.2.2.1 y0.2.2.2.2.2.2.1 y0.2.2.2.2.2.2.2.1
              y0.2.2.2.2.2.2.2.2.1 y0.2.2.2.2.2.2.2.2.2.1 y0.2.2.2.2.2.2.2.2.2.2.1
              y0.2.2.2.2.2.2.2.2.2.2.2.1 y0.2.2.2.2.2.2.2.2.2.2.2.2.1 y0.2.2.2.2.2.2.2.2.2.2.2.2.2.1
              y0.2.2.2.2.2.2.2.2.2.2.2.2.2.2.1 y0.2.2.2.2.2.2.2.2.2.2.2.2.2.2.2.1
              y0.2.2.2.2.2.2.2.2.2.2.2.2.2.2.2.2.1 y0.2.2.2.2.2.2.2.2.2.2.2.2.2.2.2.2.2.1
              y0.2.2.2.2.2.2.2.2.2.2.2.2.2.2.2.2.2.2 [AV.agg [AV.str [69, 85, 82], AV.int IntKind.i64 2]]
              [AV.agg [AV.str [104, 111, 109, 101], AV.view 1 [], AV.view 1 []]]))
          (some
            (gv
                (f_u63q y0.1 y0.2.1 y0.2.2.1 y0.2.2.2.1 2 y0.2.2.2.2.2.1 y0.2.2.2.2.2.2.1 y0.2.2.2.2.2.2.2.1
                  y0.2.2.2.2.2.2.2.2.1 y0.2.2.2.2.2.2.2.2.2.1 y0.2.2.2.2.2.2.2.2.2.2.1
                  y0.2.2.2.2.2.2.2.2.2.2.2.1 y0.2.2.2.2.2.2.2.2.2.2.2.2.1 y0.2.2.2.2.2.2.2.2.2.2.2.2.2.1
                  y0.2.2.2.2.2.2.2.2.2.2.2.2.2.2.1 y0.2.2.2.2.2.2.2.2.2.2.2.2.2.2.2.1
                  y0.2.2.2.2.2.2.2.2.2.2.2.2.2.2.2.2.1 y0.2.2.2.2.2.2.2.2.2.2.2.2.2.2.2.2.2.1
                  y0.2.2.2.2.2.2.2.2.2.2.2.2.2.2.2.2.2.2 [AV.agg [AV.str [69, 85, 82], AV.int IntKind.i64 2]]
                  [AV.agg [AV.str [104, 111, 109, 101], AV.view 1 [], AV.view 1 []]]) ==
              1))
          none)
        (some false)) (fun y3 =>
     .bi (br y3 (some ((↑y1.length : Int) == 7)) (some false)) (fun y4 =>
      .bi (br y4
          (br (okAt [CS.str, CS.int IntKind.i64] y1 6)
            (some
              (if false = true then
                !((List.brecOn.go (motive := fun x => List UInt8 → Bool) (strOf (cellAt y1 6 0)) List.beq._f).1 [100, 97, 121] &&
                    (Decidable.rec (fun h => (fun x => false) h) (fun h => (fun x => true) h) ((intOf (cellAt y1 6 1)).instDecidableEq 4) && true))
              else
                (List.brecOn.go (motive := fun x => List UInt8 → Bool) (strOf (cellAt y1 6 0)) List.beq._f).1 [100, 97, 121] &&
                  (Decidable.rec (fun h => (fun x => false) h) (fun h => (fun x => true) h) ((intOf (cellAt y1 6 1)).instDecidableEq 4) && true)))
            none)
          (some false)) (fun y5 =>
       .bi (br y5
           (br
             (sm
               (f_u74q y0.1 y0.2.1 y0.2.2.1 y0.2.2.2.1 y0.2.2.2.2.1 y0.2.2.2.2.2.1 y0.2.2.2.2.2.2.1
                 y0.2.2.2.2.2.2.2.1 y0.2.2.2.2.2.2.2.2.1 y0.2.2.2.2.2.2.2.2.2.1 y0.2.2.2.2.2.2.2.2.2.2.1
                 y0.2.2.2.2.2.2.2.2.2.2.2.1 y0.2.2.2.2.2.2.2.2.2.2.2.2.1 y0.2.2.2.2.2.2.2.2.2.2.2.2.2.1
                 y0.2.2.2.2.2.2.2.2.2.2.2.2.2.2.1 y0.2.2.2.2.2.2.2.2.2.2.2.2.2.2.2.1
                 y0.2.2.2.2.2.2.2.2.2.2.2.2.2.2.2.2.1 y0.2.2.2.2.2.2.2.2.2.2.2.2.2.2.2.2.2.1
                 y0.2.2.2.2.2.2.2.2.2.2.2.2.2.2.2.2.2.2 1))
             (some
               ((↑(gv
                         (f_u74q y0.1 y0.2.1 y0.2.2.1 y0.2.2.2.1 y0.2.2.2.2.1 y0.2.2.2.2.2.1 y0.2.2.2.2.2.2.1
                           y0.2.2.2.2.2.2.2.1 y0.2.2.2.2.2.2.2.2.1 y0.2.2.2.2.2.2.2.2.2.1
                           y0.2.2.2.2.2.2.2.2.2.2.1 y0.2.2.2.2.2.2.2.2.2.2.2.1 y0.2.2.2.2.2.2.2.2.2.2.2.2.1
                           y0.2.2.2.2.2.2.2.2.2.2.2.2.2.1 y0.2.2.2.2.2.2.2.2.2.2.2.2.2.2.1
                           y0.2.2.2.2.2.2.2.2.2.2.2.2.2.2.2.1 y0.2.2.2.2.2.2.2.2.2.2.2.2.2.2.2.2.1
                           y0.2.2.2.2.2.2.2.2.2.2.2.2.2.2.2.2.2.1 y0.2.2.2.2.2.2.2.2.2.2.2.2.2.2.2.2.2.2 1)).length :
                   Int) ==
                 1))
             none)
           (some false)) (fun y6 =>
        .bi (br y6
            (br
              (sm
                (f_u76q y0.1 y0.2.1 y0.2.2.1 y0.2.2.2.1 y0.2.2.2.2.1 y0.2.2.2.2.2.1 y0.2.2.2.2.2.2.1
                  y0.2.2.2.2.2.2.2.1 y0.2.2.2.2.2.2.2.2.1 y0.2.2.2.2.2.2.2.2.2.1 y0.2.2.2.2.2.2.2.2.2.2.1
                  y0.2.2.2.2.2.2.2.2.2.2.2.1 y0.2.2.2.2.2.2.2.2.2.2.2.2.1 y0.2.2.2.2.2.2.2.2.2.2.2.2.2.1
                  y0.2.2.2.2.2.2.2.2.2.2.2.2.2.2.1 y0.2.2.2.2.2.2.2.2.2.2.2.2.2.2.2.1
                  y0.2.2.2.2.2.2.2.2.2.2.2.2.2.2.2.2.1 y0.2.2.2.2.2.2.2.2.2.2.2.2.2.2.2.2.2.1
                  y0.2.2.2.2.2.2.2.2.2.2.2.2.2.2.2.2.2.2 (-1)))
              (some
                ((gv
                          (f_u76q y0.1 y0.2.1 y0.2.2.1 y0.2.2.2.1 y0.2.2.2.2.1 y0.2.2.2.2.2.1 y0.2.2.2.2.2.2.1
                            y0.2.2.2.2.2.2.2.1 y0.2.2.2.2.2.2.2.2.1 y0.2.2.2.2.2.2.2.2.2.1
                            y0.2.2.2.2.2.2.2.2.2.2.1 y0.2.2.2.2.2.2.2.2.2.2.2.1 y0.2.2.2.2.2.2.2.2.2.2.2.2.1
                            y0.2.2.2.2.2.2.2.2.2.2.2.2.2.1 y0.2.2.2.2.2.2.2.2.2.2.2.2.2.2.1
                            y0.2.2.2.2.2.2.2.2.2.2.2.2.2.2.2.1 y0.2.2.2.2.2.2.2.2.2.2.2.2.2.2.2.2.1
                            y0.2.2.2.2.2.2.2.2.2.2.2.2.2.2.2.2.2.1 y0.2.2.2.2.2.2.2.2.2.2.2.2.2.2.2.2.2.2
                            (-1))).2.2.1 ==
                  2))
              none)
            (some false)) (fun y7 =>
         .bi (br y7
             (br
               (sm
                 (f_u75q y0.1 y0.2.1 y0.2.2.1 y0.2.2.2.1 y0.2.2.2.2.1 y0.2.2.2.2.2.1 y0.2.2.2.2.2.2.1
                   y0.2.2.2.2.2.2.2.1 y0.2.2.2.2.2.2.2.2.1 y0.2.2.2.2.2.2.2.2.2.1 y0.2.2.2.2.2.2.2.2.2.2.1
                   y0.2.2.2.2.2.2.2.2.2.2.2.1 y0.2.2.2.2.2.2.2.2.2.2.2.2.1 y0.2.2.2.2.2.2.2.2.2.2.2.2.2.1
                   y0.2.2.2.2.2.2.2.2.2.2.2.2.2.2.1 y0.2.2.2.2.2.2.2.2.2.2.2.2.2.2.2.1
                   y0.2.2.2.2.2.2.2.2.2.2.2.2.2.2.2.2.1 y0.2.2.2.2.2.2.2.2.2.2.2.2.2.2.2.2.2.1
                   y0.2.2.2.2.2.2.2.2.2.2.2.2.2.2.2.2.2.2 y0.1 y0.2.1 y0.2.2.1 y0.2.2.2.1 y0.2.2.2.2.1
                   y0.2.2.2.2.2.1 y0.2.2.2.2.2.2.1 y0.2.2.2.2.2.2.2.1 y0.2.2.2.2.2.2.2.2.1
                   y0.2.2.2.2.2.2.2.2.2.1 y0.2.2.2.2.2.2.2.2.2.2.1 y0.2.2.2.2.2.2.2.2.2.2.2.1
                   y0.2.2.2.2.2.2.2.2.2.2.2.2.1 y0.2.2.2.2.2.2.2.2.2.2.2.2.2.1
                   y0.2.2.2.2.2.2.2.2.2.2.2.2.2.2.1 y0.2.2.2.2.2.2.2.2.2.2.2.2.2.2.2.1
                   y0.2.2.2.2.2.2.2.2.2.2.2.2.2.2.2.2.1 y0.2.2.2.2.2.2.2.2.2.2.2.2.2.2.2.2.2.1
                   y0.2.2.2.2.2.2.2.2.2.2.2.2.2.2.2.2.2.2))
               (some
                 (gv
                   (f_u75q y0.1 y0.2.1 y0.2.2.1 y0.2.2.2.1 y0.2.2.2.2.1 y0.2.2.2.2.2.1 y0.2.2.2.2.2.2.1
                     y0.2.2.2.2.2.2.2.1 y0.2.2.2.2.2.2.2.2.1 y0.2.2.2.2.2.2.2.2.2.1 y0.2.2.2.2.2.2.2.2.2.2.1
                     y0.2.2.2.2.2.2.2.2.2.2.2.1 y0.2.2.2.2.2.2.2.2.2.2.2.2.1 y0.2.2.2.2.2.2.2.2.2.2.2.2.2.1
                     y0.2.2.2.2.2.2.2.2.2.2.2.2.2.2.1 y0.2.2.2.2.2.2.2.2.2.2.2.2.2.2.2.1
                     y0.2.2.2.2.2.2.2.2.2.2.2.2.2.2.2.2.1 y0.2.2.2.2.2.2.2.2.2.2.2.2.2.2.2.2.2.1
                     y0.2.2.2.2.2.2.2.2.2.2.2.2.2.2.2.2.2.2 y0.1 y0.2.1 y0.2.2.1 y0.2.2.2.1 y0.2.2.2.2.1
                     y0.2.2.2.2.2.1 y0.2.2.2.2.2.2.1 y0.2.2.2.2.2.2.2.1 y0.2.2.2.2.2.2.2.2.1
                     y0.2.2.2.2.2.2.2.2.2.1 y0.2.2.2.2.2.2.2.2.2.2.1 y0.2.2.2.2.2.2.2.2.2.2.2.1
                     y0.2.2.2.2.2.2.2.2.2.2.2.2.1 y0.2.2.2.2.2.2.2.2.2.2.2.2.2.1
                     y0.2.2.2.2.2.2.2.2.2.2.2.2.2.2.1 y0.2.2.2.2.2.2.2.2.2.2.2.2.2.2.2.1
                     y0.2.2.2.2.2.2.2.2.2.2.2.2.2.2.2.2.1 y0.2.2.2.2.2.2.2.2.2.2.2.2.2.2.2.2.2.1
                     y0.2.2.2.2.2.2.2.2.2.2.2.2.2.2.2.2.2.2)))
               none)
             (some false)) (fun y8 =>
          .bi (br y8
              (br
                (sm
                  (f_u75q y0.1 y0.2.1 y0.2.2.1 y0.2.2.2.1 y0.2.2.2.2.1 y0.2.2.2.2.2.1 y0.2.2.2.2.2.2.1
                    y0.2.2.2.2.2.2.2.1 y0.2.2.2.2.2.2.2.2.1 y0.2.2.2.2.2.2.2.2.2.1 y0.2.2.2.2.2.2.2.2.2.2.1
                    y0.2.2.2.2.2.2.2.2.2.2.2.1 y0.2.2.2.2.2.2.2.2.2.2.2.2.1 y0.2.2.2.2.2.2.2.2.2.2.2.2.2.1
                    y0.2.2.2.2.2.2.2.2.2.2.2.2.2.2.1 y0.2.2.2.2.2.2.2.2.2.2.2.2.2.2.2.1
                    y0.2.2.2.2.2.2.2.2.2.2.2.2.2.2.2.2.1 y0.2.2.2.2.2.2.2.2.2.2.2.2.2.2.2.2.2.1
                    y0.2.2.2.2.2.2.2.2.2.2.2.2.2.2.2.2.2.2 y0.1 y0.2.1 y0.2.2.1 y0.2.2.2.1 2 y0.2.2.2.2.2.1
                    y0.2.2.2.2.2.2.1 y0.2.2.2.2.2.2.2.1 y0.2.2.2.2.2.2.2.2.1 y0.2.2.2.2.2.2.2.2.2.1
                    y0.2.2.2.2.2.2.2.2.2.2.1 y0.2.2.2.2.2.2.2.2.2.2.2.1 y0.2.2.2.2.2.2.2.2.2.2.2.2.1
                    y0.2.2.2.2.2.2.2.2.2.2.2.2.2.1 y0.2.2.2.2.2.2.2.2.2.2.2.2.2.2.1
                    y0.2.2.2.2.2.2.2.2.2.2.2.2.2.2.2.1 y0.2.2.2.2.2.2.2.2.2.2.2.2.2.2.2.2.1
                    y0.2.2.2.2.2.2.2.2.2.2.2.2.2.2.2.2.2.1 y0.2.2.2.2.2.2.2.2.2.2.2.2.2.2.2.2.2.2))
                (some
                  !gv
                      (f_u75q y0.1 y0.2.1 y0.2.2.1 y0.2.2.2.1 y0.2.2.2.2.1 y0.2.2.2.2.2.1 y0.2.2.2.2.2.2.1
                        y0.2.2.2.2.2.2.2.1 y0.2.2.2.2.2.2.2.2.1 y0.2.2.2.2.2.2.2.2.2.1 y0.2.2.2.2.2.2.2.2.2.2.1
                        y0.2.2.2.2.2.2.2.2.2.2.2.1 y0.2.2.2.2.2.2.2.2.2.2.2.2.1 y0.2.2.2.2.2.2.2.2.2.2.2.2.2.1
                        y0.2.2.2.2.2.2.2.2.2.2.2.2.2.2.1 y0.2.2.2.2.2.2.2.2.2.2.2.2.2.2.2.1
                        y0.2.2.2.2.2.2.2.2.2.2.2.2.2.2.2.2.1 y0.2.2.2.2.2.2.2.2.2.2.2.2.2.2.2.2.2.1
                        y0.2.2.2.2.2.2.2.2.2.2.2.2.2.2.2.2.2.2 y0.1 y0.2.1 y0.2.2.1 y0.2.2.2.1 2 y0.2.2.2.2.2.1
                        y0.2.2.2.2.2.2.1 y0.2.2.2.2.2.2.2.1 y0.2.2.2.2.2.2.2.2.1 y0.2.2.2.2.2.2.2.2.2.1
                        y0.2.2.2.2.2.2.2.2.2.2.1 y0.2.2.2.2.2.2.2.2.2.2.2.1 y0.2.2.2.2.2.2.2.2.2.2.2.2.1
                        y0.2.2.2.2.2.2.2.2.2.2.2.2.2.1 y0.2.2.2.2.2.2.2.2.2.2.2.2.2.2.1
                        y0.2.2.2.2.2.2.2.2.2.2.2.2.2.2.2.1 y0.2.2.2.2.2.2.2.2.2.2.2.2.2.2.2.2.1
                        y0.2.2.2.2.2.2.2.2.2.2.2.2.2.2.2.2.2.1 y0.2.2.2.2.2.2.2.2.2.2.2.2.2.2.2.2.2.2))
                none)
              (some false)) (fun y9 =>
           .at (y9))
           (.no))
          (.no))
         (.no))
        (.no))
       (.no))
      (.no))
     (.no))
    (.no))
   (.no))
  (.no)
noncomputable def f_u117q : Option B_u117q := lock (tr_u117q).ev
theorem f_u117q_eq : f_u117q = (tr_u117q).ev := lock_eq _
theorem c_u117q : FH IP 10 p_u117q r_u117q (fun (v : Unit) => (f_u117q : Option B_u117q)) := fun_FH (F := F10) (L := []) (t := fun (v : Unit) => tr_u117q) T81_ok (LOk_of (l := []) (by kernel_rfl) trivial) (by kernel_rfl) (fun v => by kernel_rfl) (fun v => f_u117q_eq)
noncomputable def T82 : Tab := (10, FE p_u117q r_u117q (fun (v : Unit) => (f_u117q : Option B_u117q))) :: T81
theorem T82_ok : TabOk IP T82 := ⟨FE_ok c_u117q, T81_ok⟩
abbrev TT_u26q : Type := Int × List AV × Bool × Int × Int × Bool × List AV × Bool × Int × Int × Bool
def hs_u26q : List PSt := [⟨[(1001400, .junk), (2, .ref 0 0 0), (3, .ref 1 0 0), (5, .int .i64)], [(0, .box [.view 2, .bool, .int .i64, .int .i64, .bool] false), (1, .box [.view 2, .bool, .int .i64, .int .i64, .bool] false)], 2, 0⟩]
noncomputable def x_u26q_0 (x0 : Int) (x1 : List AV) (x2 : Bool) (x3 x4 : Int) (x5 : Bool) (x6 : List AV) (x7 : Bool) (x8 x9 : Int) (x10 : Bool) : X × St := (X.ret, { tm := [(4, AV.bool false)], hp := [], nx := 0, k := 0 })
noncomputable def x_u26q_1 (x0 : Int) (x1 : List AV) (x2 : Bool) (x3 x4 : Int) (x5 : Bool) (x6 : List AV) (x7 : Bool) (x8 x9 : Int) (x10 : Bool) : X × St := (X.exit 0, { tm := [(4, AV.junk)], hp := [], nx := 0, k := 0 })
noncomputable def x_u26q : List (TT_u26q → X × St) := [fun w => x_u26q_0 w.1 w.2.1 w.2.2.1 w.2.2.2.1 w.2.2.2.2.1 w.2.2.2.2.2.1 w.2.2.2.2.2.2.1 w.2.2.2.2.2.2.2.1 w.2.2.2.2.2.2.2.2.1 w.2.2.2.2.2.2.2.2.2.1 w.2.2.2.2.2.2.2.2.2.2, fun w => x_u26q_1 w.1 w.2.1 w.2.2.1 w.2.2.2.1 w.2.2.2.2.1 w.2.2.2.2.2.1 w.2.2.2.2.2.2.1 w.2.2.2.2.2.2.2.1 w.2.2.2.2.2.2.2.2.1 w.2.2.2.2.2.2.2.2.2.1 w.2.2.2.2.2.2.2.2.2.2]
noncomputable def st_u26q_0 (x0 : Int) (x1 : List AV) (x2 : Bool) (x3 x4 : Int) (x5 : Bool) (x6 : List AV) (x7 : Bool) (x8 x9 : Int) (x10 : Bool) : DT (Rd TT_u26q) :=
 .br (decide (x0 < (↑x1.length : Int)))
  (.br (okAt [CS.int IntKind.i64, CS.int IntKind.i64] x1 x0)
   (.br (okAt [CS.int IntKind.i64, CS.int IntKind.i64] x6 x0)
    (.br (if true = true then !(intOf (cellAt x1 x0 0) == intOf (cellAt x6 x0 0) && (intOf (cellAt x1 x0 1) == intOf (cellAt x6 x0 1) && true))
      else intOf (cellAt x1 x0 0) == intOf (cellAt x6 x0 0) && (intOf (cellAt x1 x0 1) == intOf (cellAt x6 x0 1) && true))
     (.at (.done 0))
     (.at (.next ((IntKind.i64.wrap (x0 + 1), x1, x2, x3, x4, x5, x6, x7, x8, x9, x10)))))
    (.no))
   (.no))
  (.at (.done 1))
noncomputable def st_u26q : TT_u26q → DT (Rd TT_u26q) := (fun v => st_u26q_0 v.1 v.2.1 v.2.2.1 v.2.2.2.1 v.2.2.2.2.1 v.2.2.2.2.2.1 v.2.2.2.2.2.2.1 v.2.2.2.2.2.2.2.1 v.2.2.2.2.2.2.2.2.1 v.2.2.2.2.2.2.2.2.2.1 v.2.2.2.2.2.2.2.2.2.2)
noncomputable def l_u26q (v : TT_u26q) : Option (Nat × TT_u26q) := lock (iterO (fun v => (st_u26q v).ev) v)
theorem l_u26q_eq (v : TT_u26q) : l_u26q v = iterO (fun v => (st_u26q v).ev) v := lock_eq _
noncomputable def ll_u26q : LEnt := LE (τ := TT_u26q) (hD hs_u26q) (l_u26q) x_u26q
theorem t_u26q : Go.Eng.Told IP (loopAt F14 0).1 (loopAt F14 0).2 (ll_u26q) := loop_LE (inferInstance : Inhabited TT_u26q) (hs := hs_u26q) (st := st_u26q) (L := []) T82_ok (LOk_of (l := []) (by kernel_rfl) trivial) (l_u26q_eq) (fun v => by kernel_rfl) (fun v => by kernel_rfl)
abbrev B_u32q : Type := Bool
def p_u32q : PArgs := ⟨[.agg [.view 2, .bool, .int .i64, .int .i64, .bool], .agg [.view 2, .bool, .int .i64, .int .i64, .bool]], []⟩
def r_u32q : List PRes := [⟨false, .bool, []⟩]
noncomputable def tr_u32q (x0 : List AV) (x1 : Bool) (x2 x3 : Int) (x4 : Bool) (x5 : List AV) (x6 : Bool) (x7 x8 : Int) (x9 : Bool) : DT B_u32q :=
 .bi (br ((↑x0.length : Int) != (↑x5.length : Int)) (some true) (some (if true = true then !x1 == x6 else x1 == x6))) (fun y0 =>
  .bi (br y0 (some true) (some (x2 != x7))) (fun y1 =>
   .bi (br y1 (some true) (some (x3 != x8))) (fun y2 =>
    .bi (br y2 (some true) (some (if true = true then !x4 == x9 else x4 == x9))) (fun y3 =>
     .br (y3)
      (.at (false))
      (.bi (pj 0 (l_u26q (0, x0, x1, x2, x3, x4, x5, x6, x7, x8, x9))) (fun y4 =>
       .at (false))
       (.bi (pj 1 (l_u26q (0, x0, x1, x2, x3, x4, x5, x6, x7, x8, x9))) (fun y4 =>
        .at (true))
        (.no))))
     (.no))
    (.no))
   (.no))
  (.no)
noncomputable def f_u32q (x0 : List AV) (x1 : Bool) (x2 x3 : Int) (x4 : Bool) (x5 : List AV) (x6 : Bool) (x7 x8 : Int) (x9 : Bool) : Option B_u32q := lock (tr_u32q x0 x1 x2 x3 x4 x5 x6 x7 x8 x9).ev
theorem f_u32q_eq (x0 : List AV) (x1 : Bool) (x2 x3 : Int) (x4 : Bool) (x5 : List AV) (x6 : Bool) (x7 x8 : Int) (x9 : Bool) : f_u32q x0 x1 x2 x3 x4 x5 x6 x7 x8 x9 = (tr_u32q x0 x1 x2 x3 x4 x5 x6 x7 x8 x9).ev := lock_eq _
theorem c_u32q : FH IP 14 p_u32q r_u32q (fun (v : List AV × Bool × Int × Int × Bool × List AV × Bool × Int × Int × Bool) => (f_u32q v.1 v.2.1 v.2.2.1 v.2.2.2.1 v.2.2.2.2.1 v.2.2.2.2.2.1 v.2.2.2.2.2.2.1 v.2.2.2.2.2.2.2.1 v.2.2.2.2.2.2.2.2.1 v.2.2.2.2.2.2.2.2.2 : Option B_u32q)) := fun_FH (F := F14) (L := [(1001400, ll_u26q)]) (t := fun (v : List AV × Bool × Int × Int × Bool × List AV × Bool × Int × Int × Bool) => tr_u32q v.1 v.2.1 v.2.2.1 v.2.2.2.1 v.2.2.2.2.1 v.2.2.2.2.2.1 v.2.2.2.2.2.2.1 v.2.2.2.2.2.2.2.1 v.2.2.2.2.2.2.2.2.1 v.2.2.2.2.2.2.2.2.2) T82_ok (LOk_of (l := [loopAt F14 0]) (by kernel_rfl) ⟨sel_one (by kernel_rfl) t_u26q, trivial⟩) (by kernel_rfl) (fun v => by kernel_rfl) (fun v => f_u32q_eq v.1 v.2.1 v.2.2.1 v.2.2.2.1 v.2.2.2.2.1 v.2.2.2.2.2.1 v.2.2.2.2.2.2.1 v.2.2.2.2.2.2.2.1 v.2.2.2.2.2.2.2.2.1 v.2.2.2.2.2.2.2.2.2)
noncomputable def T83 : Tab := (14, FE p_u32q r_u32q (fun (v : List AV × Bool × Int × Int × Bool × List AV × Bool × Int × Int × Bool) => (f_u32q v.1 v.2.1 v.2.2.1 v.2.2.2.1 v.2.2.2.2.1 v.2.2.2.2.2.1 v.2.2.2.2.2.2.1 v.2.2.2.2.2.2.2.1 v.2.2.2.2.2.2.2.2.1 v.2.2.2.2.2.2.2.2.2 : Option B_u32q))) :: T82
theorem T83_ok : TabOk IP T83 := ⟨FE_ok c_u32q, T82_ok⟩
abbrev B_u123q : Type := Bool
def p_u123q : PArgs := ⟨[.agg [.int .i64, .int .i64, .str, .view 4], .agg [.int .i64, .int .i64, .str, .view 4]], []⟩
def r_u123q : List PRes := [⟨false, .bool, []⟩]
abbrev GT_u123q : Type := Int → Int → (List UInt8) → (List AV) → Int → Int → (List UInt8) → (List AV) → Option B_u123q
def GH_u123q (G_u123q : GT_u123q) : Prop := FH IP 39 p_u123q r_u123q (fun (v : Int × Int × List UInt8 × List AV × Int × Int × List UInt8 × List AV) => (G_u123q v.1 v.2.1 v.2.2.1 v.2.2.2.1 v.2.2.2.2.1 v.2.2.2.2.2.1 v.2.2.2.2.2.2.1 v.2.2.2.2.2.2.2 : Option B_u123q))
noncomputable def TG_u123q (G_u123q : GT_u123q) : Tab := (39, FE p_u123q r_u123q (fun (v : Int × Int × List UInt8 × List AV × Int × Int × List UInt8 × List AV) => (G_u123q v.1 v.2.1 v.2.2.1 v.2.2.2.1 v.2.2.2.2.1 v.2.2.2.2.2.1 v.2.2.2.2.2.2.1 v.2.2.2.2.2.2.2 : Option B_u123q))) :: T83
theorem TG_u123q_ok (G_u123q : GT_u123q) (hG : GH_u123q G_u123q) : TabOk IP (TG_u123q G_u123q) := ⟨FE_ok (hG), T83_ok⟩
end Go.Proofs.H15e

/- Functions over plain data. Printed by a program of mine. -/
import Derived.Test.YthljpgljbpdmjaaGreatDoorD15s_7
import Derived.KernelRfl
set_option linter.unusedVariables false
set_option linter.unusedSimpArgs false
set_option linter.unnecessarySimpa false
namespace Go.Proofs.H15s
open Go Go.Eng
set_option maxRecDepth 100000
abbrev B_u32q : Type := Bool
def p_u32q : PArgs := ⟨[.agg [.view 2, .bool, .int .i64, .int .i64, .bool], .agg [.view 2, .bool, .int .i64, .int .i64, .bool]], []⟩
def r_u32q : List PRes := [⟨false, .bool, []⟩]
noncomputable def tr_u32q (x0 : List AV) (x1 : Bool) (x2 x3 : Int) (x4 : Bool) (x5 : List AV) (x6 : Bool) (x7 x8 : Int) (x9 : Bool) : DT B_u32q :=
 .bi (br ((↑x0.length : Int) != (↑x5.length : Int)) (some true) (some (if true = true then !x1 == x6 else x1 == x6))) (fun y0 =>
  .bi (br y0 (some true) (some (x2 != x7))) (fun y1 =>
   .bi (br y1 (some true) (some (x3 != x8))) (fun y2 =>
    .bi (br y2 (some true) (some (if true = true then !x4 == x9 else x4 == x9))) (fun y3 =>
     .br (y3)
      (.at (false))
      (.bi (pj 0 (l_u26q (0, x0, x1, x2, x3, x4, x5, x6, x7, x8, x9))) (fun y4 =>
       .at (false))
       (.bi (pj 1 (l_u26q (0, x0, x1, x2, x3, x4, x5, x6, x7, x8, x9))) (fun y4 =>
        .at (true))
        (.no))))
     (.no))
    (.no))
   (.no))
  (.no)
noncomputable def f_u32q (x0 : List AV) (x1 : Bool) (x2 x3 : Int) (x4 : Bool) (x5 : List AV) (x6 : Bool) (x7 x8 : Int) (x9 : Bool) : Option B_u32q := lock (tr_u32q x0 x1 x2 x3 x4 x5 x6 x7 x8 x9).ev
theorem f_u32q_eq (x0 : List AV) (x1 : Bool) (x2 x3 : Int) (x4 : Bool) (x5 : List AV) (x6 : Bool) (x7 x8 : Int) (x9 : Bool) : f_u32q x0 x1 x2 x3 x4 x5 x6 x7 x8 x9 = (tr_u32q x0 x1 x2 x3 x4 x5 x6 x7 x8 x9).ev := lock_eq _
theorem c_u32q : FH IP 14 p_u32q r_u32q (fun (v : List AV × Bool × Int × Int × Bool × List AV × Bool × Int × Int × Bool) => (f_u32q v.1 v.2.1 v.2.2.1 v.2.2.2.1 v.2.2.2.2.1 v.2.2.2.2.2.1 v.2.2.2.2.2.2.1 v.2.2.2.2.2.2.2.1 v.2.2.2.2.2.2.2.2.1 v.2.2.2.2.2.2.2.2.2 : Option B_u32q)) := fun_FH (F := F14) (L := [(1001400, ll_u26q)]) (t := fun (v : List AV × Bool × Int × Int × Bool × List AV × Bool × Int × Int × Bool) => tr_u32q v.1 v.2.1 v.2.2.1 v.2.2.2.1 v.2.2.2.2.1 v.2.2.2.2.2.1 v.2.2.2.2.2.2.1 v.2.2.2.2.2.2.2.1 v.2.2.2.2.2.2.2.2.1 v.2.2.2.2.2.2.2.2.2) T83_ok (LOk_of (l := [loopAt F14 0]) (by kernel_rfl) ⟨sel_one (by kernel_rfl) t_u26q, trivial⟩) (by kernel_rfl) (fun v => by kernel_rfl) (fun v => f_u32q_eq v.1 v.2.1 v.2.2.1 v.2.2.2.1 v.2.2.2.2.1 v.2.2.2.2.2.1 v.2.2.2.2.2.2.1 v.2.2.2.2.2.2.2.1 v.2.2.2.2.2.2.2.2.1 v.2.2.2.2.2.2.2.2.2)
noncomputable def T84 : Tab := (14, FE p_u32q r_u32q (fun (v : List AV × Bool × Int × Int × Bool × List AV × Bool × Int × Int × Bool) => (f_u32q v.1 v.2.1 v.2.2.1 v.2.2.2.1 v.2.2.2.2.1 v.2.2.2.2.2.1 v.2.2.2.2.2.2.1 v.2.2.2.2.2.2.2.1 v.2.2.2.2.2.2.2.2.1 v.2.2.2.2.2.2.2.2.2 : Option B_u32q))) :: T83
theorem T84_ok : TabOk IP T84 := ⟨FE_ok c_u32q, T83_ok⟩
abbrev TT_u102q : Type := (Int × Int × List UInt8 × List UInt8 × List UInt8 × Int × Int × Int × Int × List AV × Bool × Int × Int × Bool × List AV × Bool × Int × Int × Bool × List AV × List AV) ⊕ (Int × Int × List UInt8 × List UInt8 × List UInt8 × Int × Int × Int × Int × List AV × Bool × Int × Int × Bool × List AV × Bool × Int × Int × Bool × List AV × List AV × List AV)
def hs_u102q : List PSt := [⟨[(1001900, .junk), (1, .int .i64), (2, .ref 0 0 0), (5, .nils 10), (6, .int .i64)], [(0, .box [.str, .str, .str, .int .i64, .int .i64, .int .i64, .int .i64, .view 2, .bool, .int .i64, .int .i64, .bool, .view 2, .bool, .int .i64, .int .i64, .bool, .view 10, .view 6] false)], 1, 0⟩, ⟨[(1001900, .junk), (1, .int .i64), (2, .ref 0 0 0), (5, .own 1 0), (6, .int .i64)], [(0, .box [.str, .str, .str, .int .i64, .int .i64, .int .i64, .int .i64, .view 2, .bool, .int .i64, .int .i64, .bool, .view 2, .bool, .int .i64, .int .i64, .bool, .view 10, .view 6] false), (1, .arr 10 false)], 2, 0⟩]
noncomputable def x_u102q_0 (x0 x1 : Int) (x2 x3 x4 : List UInt8) (x5 x6 : Int) (x7 x8 : Int) (x9 : List AV) (x10 : Bool) (x11 x12 : Int) (x13 : Bool) (x14 : List AV) (x15 : Bool) (x16 x17 : Int) (x18 : Bool) (x19 x20 : List AV) : X × St := (X.exit 0, { tm := [(5, AV.nils { sz := 10, kd := NKd.nil })], hp := [], nx := 0, k := 0 })
noncomputable def x_u102q_1 (x0 x1 : Int) (x2 x3 x4 : List UInt8) (x5 x6 : Int) (x7 x8 : Int) (x9 : List AV) (x10 : Bool) (x11 x12 : Int) (x13 : Bool) (x14 : List AV) (x15 : Bool) (x16 x17 : Int) (x18 : Bool) (x19 x20 x21 : List AV) : X × St := (X.exit 0, { tm := [(5, AV.own 0 0 none)], hp := [(0, Blk.arr 10 x21 false)], nx := 1, k := 0 })
noncomputable def x_u102q : List (TT_u102q → X × St) := [fun w => x_u102q_0 (sl w).1 (sl w).2.1 (sl w).2.2.1 (sl w).2.2.2.1 (sl w).2.2.2.2.1 (sl w).2.2.2.2.2.1 (sl w).2.2.2.2.2.2.1 (sl w).2.2.2.2.2.2.2.1 (sl w).2.2.2.2.2.2.2.2.1 (sl w).2.2.2.2.2.2.2.2.2.1 (sl w).2.2.2.2.2.2.2.2.2.2.1 (sl w).2.2.2.2.2.2.2.2.2.2.2.1 (sl w).2.2.2.2.2.2.2.2.2.2.2.2.1 (sl w).2.2.2.2.2.2.2.2.2.2.2.2.2.1 (sl w).2.2.2.2.2.2.2.2.2.2.2.2.2.2.1 (sl w).2.2.2.2.2.2.2.2.2.2.2.2.2.2.2.1 (sl w).2.2.2.2.2.2.2.2.2.2.2.2.2.2.2.2.1 (sl w).2.2.2.2.2.2.2.2.2.2.2.2.2.2.2.2.2.1 (sl w).2.2.2.2.2.2.2.2.2.2.2.2.2.2.2.2.2.2.1 (sl w).2.2.2.2.2.2.2.2.2.2.2.2.2.2.2.2.2.2.2.1 (sl w).2.2.2.2.2.2.2.2.2.2.2.2.2.2.2.2.2.2.2.2, fun w => x_u102q_1 (sr w).1 (sr w).2.1 (sr w).2.2.1 (sr w).2.2.2.1 (sr w).2.2.2.2.1 (sr w).2.2.2.2.2.1 (sr w).2.2.2.2.2.2.1 (sr w).2.2.2.2.2.2.2.1 (sr w).2.2.2.2.2.2.2.2.1 (sr w).2.2.2.2.2.2.2.2.2.1 (sr w).2.2.2.2.2.2.2.2.2.2.1 (sr w).2.2.2.2.2.2.2.2.2.2.2.1 (sr w).2.2.2.2.2.2.2.2.2.2.2.2.1 (sr w).2.2.2.2.2.2.2.2.2.2.2.2.2.1 (sr w).2.2.2.2.2.2.2.2.2.2.2.2.2.2.1 (sr w).2.2.2.2.2.2.2.2.2.2.2.2.2.2.2.1 (sr w).2.2.2.2.2.2.2.2.2.2.2.2.2.2.2.2.1 (sr w).2.2.2.2.2.2.2.2.2.2.2.2.2.2.2.2.2.1 (sr w).2.2.2.2.2.2.2.2.2.2.2.2.2.2.2.2.2.2.1 (sr w).2.2.2.2.2.2.2.2.2.2.2.2.2.2.2.2.2.2.2.1 (sr w).2.2.2.2.2.2.2.2.2.2.2.2.2.2.2.2.2.2.2.2.1 (sr w).2.2.2.2.2.2.2.2.2.2.2.2.2.2.2.2.2.2.2.2.2]
noncomputable def st_u102q_0 (x0 x1 : Int) (x2 x3 x4 : List UInt8) (x5 x6 : Int) (x7 x8 : Int) (x9 : List AV) (x10 : Bool) (x11 x12 : Int) (x13 : Bool) (x14 : List AV) (x15 : Bool) (x16 x17 : Int) (x18 : Bool) (x19 x20 : List AV) : DT (Rd TT_u102q) :=
 .br (decide (x1 < (↑x19.length : Int)))
  (.br (okAt [CS.str, CS.int IntKind.i64, CS.int IntKind.i64, CS.int IntKind.i64, CS.str, CS.slice 4, CS.int IntKind.i64, CS.int IntKind.i64, CS.str, CS.slice 4] x19 x1)
   (.br (intOf (cellAt x19 x1 1) == x0)
    (.br (okAt [CS.str, CS.int IntKind.i64, CS.int IntKind.i64, CS.int IntKind.i64, CS.str, CS.slice 4, CS.int IntKind.i64, CS.int IntKind.i64, CS.str, CS.slice 4] x19 x1)
     (.at (.next ((.inr (x0, IntKind.i64.wrap (x1 + 1), x2, x3, x4, x5, x6, x7, x8, x9, x10, x11, x12, x13, x14, x15, x16, x17, x18, x19, x20, [AV.agg
    [AV.str (strOf (cellAt x19 x1 0)), AV.int IntKind.i64 (intOf (cellAt x19 x1 1)), AV.int IntKind.i64 (intOf (cellAt x19 x1 2)), AV.int IntKind.i64 (intOf (cellAt x19 x1 3)),
      AV.str (strOf (cellAt x19 x1 4)), AV.view 4 (viewOf (cellAt x19 x1 5)), AV.int IntKind.i64 (intOf (cellAt x19 x1 6)), AV.int IntKind.i64 (intOf (cellAt x19 x1 7)),
      AV.str (strOf (cellAt x19 x1 8)), AV.view 4 (viewOf (cellAt x19 x1 9))]])))))
     (.no))
    (.at (.next ((.inl (x0, IntKind.i64.wrap (x1 + 1), x2, x3, x4, x5, x6, x7, x8, x9, x10, x11, x12, x13, x14, x15, x16, x17, x18, x19, x20))))))
   (.no))
  (.at (.done 0))
noncomputable def st_u102q_1 (x0 x1 : Int) (x2 x3 x4 : List UInt8) (x5 x6 : Int) (x7 x8 : Int) (x9 : List AV) (x10 : Bool) (x11 x12 : Int) (x13 : Bool) (x14 : List AV) (x15 : Bool) (x16 x17 : Int) (x18 : Bool) (x19 x20 x21 : List AV) : DT (Rd TT_u102q) :=
 .br (decide (x1 < (↑x19.length : Int)))
  (.br (okAt [CS.str, CS.int IntKind.i64, CS.int IntKind.i64, CS.int IntKind.i64, CS.str, CS.slice 4, CS.int IntKind.i64, CS.int IntKind.i64, CS.str, CS.slice 4] x19 x1)
   (.br (intOf (cellAt x19 x1 1) == x0)
    (.br (okAt [CS.str, CS.int IntKind.i64, CS.int IntKind.i64, CS.int IntKind.i64, CS.str, CS.slice 4, CS.int IntKind.i64, CS.int IntKind.i64, CS.str, CS.slice 4] x19 x1)
     (.br (room (x21.length + 1) 136)
      (.at (.next ((.inr (x0, IntKind.i64.wrap (x1 + 1), x2, x3, x4, x5, x6, x7, x8, x9, x10, x11, x12, x13, x14, x15, x16, x17, x18, x19, x20, x21 ++
  [AV.agg
      [AV.str (strOf (cellAt x19 x1 0)), AV.int IntKind.i64 (intOf (cellAt x19 x1 1)), AV.int IntKind.i64 (intOf (cellAt x19 x1 2)), AV.int IntKind.i64 (intOf (cellAt x19 x1 3)),
        AV.str (strOf (cellAt x19 x1 4)), AV.view 4 (viewOf (cellAt x19 x1 5)), AV.int IntKind.i64 (intOf (cellAt x19 x1 6)), AV.int IntKind.i64 (intOf (cellAt x19 x1 7)),
        AV.str (strOf (cellAt x19 x1 8)), AV.view 4 (viewOf (cellAt x19 x1 9))]])))))
      (.no))
     (.no))
    (.at (.next ((.inr (x0, IntKind.i64.wrap (x1 + 1), x2, x3, x4, x5, x6, x7, x8, x9, x10, x11, x12, x13, x14, x15, x16, x17, x18, x19, x20, x21))))))
   (.no))
  (.at (.done 1))
noncomputable def st_u102q : TT_u102q → DT (Rd TT_u102q) := (Sum.elim (fun v => st_u102q_0 v.1 v.2.1 v.2.2.1 v.2.2.2.1 v.2.2.2.2.1 v.2.2.2.2.2.1 v.2.2.2.2.2.2.1 v.2.2.2.2.2.2.2.1 v.2.2.2.2.2.2.2.2.1 v.2.2.2.2.2.2.2.2.2.1 v.2.2.2.2.2.2.2.2.2.2.1 v.2.2.2.2.2.2.2.2.2.2.2.1 v.2.2.2.2.2.2.2.2.2.2.2.2.1 v.2.2.2.2.2.2.2.2.2.2.2.2.2.1 v.2.2.2.2.2.2.2.2.2.2.2.2.2.2.1 v.2.2.2.2.2.2.2.2.2.2.2.2.2.2.2.1 v.2.2.2.2.2.2.2.2.2.2.2.2.2.2.2.2.1 v.2.2.2.2.2.2.2.2.2.2.2.2.2.2.2.2.2.1 v.2.2.2.2.2.2.2.2.2.2.2.2.2.2.2.2.2.2.1 v.2.2.2.2.2.2.2.2.2.2.2.2.2.2.2.2.2.2.2.1 v.2.2.2.2.2.2.2.2.2.2.2.2.2.2.2.2.2.2.2.2) (fun v => st_u102q_1 v.1 v.2.1 v.2.2.1 v.2.2.2.1 v.2.2.2.2.1 v.2.2.2.2.2.1 v.2.2.2.2.2.2.1 v.2.2.2.2.2.2.2.1 v.2.2.2.2.2.2.2.2.1 v.2.2.2.2.2.2.2.2.2.1 v.2.2.2.2.2.2.2.2.2.2.1 v.2.2.2.2.2.2.2.2.2.2.2.1 v.2.2.2.2.2.2.2.2.2.2.2.2.1 v.2.2.2.2.2.2.2.2.2.2.2.2.2.1 v.2.2.2.2.2.2.2.2.2.2.2.2.2.2.1 v.2.2.2.2.2.2.2.2.2.2.2.2.2.2.2.1 v.2.2.2.2.2.2.2.2.2.2.2.2.2.2.2.2.1 v.2.2.2.2.2.2.2.2.2.2.2.2.2.2.2.2.2.1 v.2.2.2.2.2.2.2.2.2.2.2.2.2.2.2.2.2.2.1 v.2.2.2.2.2.2.2.2.2.2.2.2.2.2.2.2.2.2.2.1 v.2.2.2.2.2.2.2.2.2.2.2.2.2.2.2.2.2.2.2.2.1 v.2.2.2.2.2.2.2.2.2.2.2.2.2.2.2.2.2.2.2.2.2))
noncomputable def l_u102q (v : TT_u102q) : Option (Nat × TT_u102q) := lock (iterO (fun v => (st_u102q v).ev) v)
theorem l_u102q_eq (v : TT_u102q) : l_u102q v = iterO (fun v => (st_u102q v).ev) v := lock_eq _
noncomputable def ll_u102q : LEnt := LE (τ := TT_u102q) (hD hs_u102q) (l_u102q) x_u102q
theorem t_u102q : Go.Eng.Told IP (loopAt F19 0).1 (loopAt F19 0).2 (ll_u102q) := loop_LE (inferInstance : Inhabited TT_u102q) (hs := hs_u102q) (st := st_u102q) (L := []) T84_ok (LOk_of (l := []) (by kernel_rfl) trivial) (l_u102q_eq) (fun v => match v with | (.inl v) => by kernel_rfl | (.inr v) => by kernel_rfl) (fun v => match v with | (.inl v) => by kernel_rfl | (.inr v) => by kernel_rfl)
abbrev B_u124q : Type := List AV
def p_u124q : PArgs := ⟨[.agg [.str, .str, .str, .int .i64, .int .i64, .int .i64, .int .i64, .view 2, .bool, .int .i64, .int .i64, .bool, .view 2, .bool, .int .i64, .int .i64, .bool, .view 10, .view 6], .int .i64], []⟩
def r_u124q : List PRes := [⟨false, .view 10, []⟩]
noncomputable def tr_u124q (x0 x1 x2 : List UInt8) (x3 x4 : Int) (x5 x6 : Int) (x7 : List AV) (x8 : Bool) (x9 x10 : Int) (x11 : Bool) (x12 : List AV) (x13 : Bool) (x14 x15 : Int) (x16 : Bool) (x17 x18 : List AV) (x19 : Int) : DT B_u124q :=
 .bi (pj 0 (l_u102q (Sum.inl (x19, 0, x0, x1, x2, x3, x4, x5, x6, x7, x8, x9, x10, x11, x12, x13, x14, x15, x16, x17, x18)))) (fun y0 =>
  .at ([]))
  (.bi (pj 1 (l_u102q (Sum.inl (x19, 0, x0, x1, x2, x3, x4, x5, x6, x7, x8, x9, x10, x11, x12, x13, x14, x15, x16, x17, x18)))) (fun y0 =>
   .at ((sr y0).2.2.2.2.2.2.2.2.2.2.2.2.2.2.2.2.2.2.2.2.2))
   (.no))
noncomputable def f_u124q (x0 x1 x2 : List UInt8) (x3 x4 : Int) (x5 x6 : Int) (x7 : List AV) (x8 : Bool) (x9 x10 : Int) (x11 : Bool) (x12 : List AV) (x13 : Bool) (x14 x15 : Int) (x16 : Bool) (x17 x18 : List AV) (x19 : Int) : Option B_u124q := lock (tr_u124q x0 x1 x2 x3 x4 x5 x6 x7 x8 x9 x10 x11 x12 x13 x14 x15 x16 x17 x18 x19).ev
theorem f_u124q_eq (x0 x1 x2 : List UInt8) (x3 x4 : Int) (x5 x6 : Int) (x7 : List AV) (x8 : Bool) (x9 x10 : Int) (x11 : Bool) (x12 : List AV) (x13 : Bool) (x14 x15 : Int) (x16 : Bool) (x17 x18 : List AV) (x19 : Int) : f_u124q x0 x1 x2 x3 x4 x5 x6 x7 x8 x9 x10 x11 x12 x13 x14 x15 x16 x17 x18 x19 = (tr_u124q x0 x1 x2 x3 x4 x5 x6 x7 x8 x9 x10 x11 x12 x13 x14 x15 x16 x17 x18 x19).ev := lock_eq _
theorem c_u124q : FH IP 19 p_u124q r_u124q (fun (v : List UInt8 × List UInt8 × List UInt8 × Int × Int × Int × Int × List AV × Bool × Int × Int × Bool × List AV × Bool × Int × Int × Bool × List AV × List AV × Int) => (f_u124q v.1 v.2.1 v.2.2.1 v.2.2.2.1 v.2.2.2.2.1 v.2.2.2.2.2.1 v.2.2.2.2.2.2.1 v.2.2.2.2.2.2.2.1 v.2.2.2.2.2.2.2.2.1 v.2.2.2.2.2.2.2.2.2.1 v.2.2.2.2.2.2.2.2.2.2.1 v.2.2.2.2.2.2.2.2.2.2.2.1 v.2.2.2.2.2.2.2.2.2.2.2.2.1 v.2.2.2.2.2.2.2.2.2.2.2.2.2.1 v.2.2.2.2.2.2.2.2.2.2.2.2.2.2.1 v.2.2.2.2.2.2.2.2.2.2.2.2.2.2.2.1 v.2.2.2.2.2.2.2.2.2.2.2.2.2.2.2.2.1 v.2.2.2.2.2.2.2.2.2.2.2.2.2.2.2.2.2.1 v.2.2.2.2.2.2.2.2.2.2.2.2.2.2.2.2.2.2.1 v.2.2.2.2.2.2.2.2.2.2.2.2.2.2.2.2.2.2.2 : Option B_u124q)) := fun_FH (F := F19) (L := [(1001900, ll_u102q)]) (t := fun (v : List UInt8 × List UInt8 × List UInt8 × Int × Int × Int × Int × List AV × Bool × Int × Int × Bool × List AV × Bool × Int × Int × Bool × List AV × List AV × Int) => tr_u124q v.1 v.2.1 v.2.2.1 v.2.2.2.1 v.2.2.2.2.1 v.2.2.2.2.2.1 v.2.2.2.2.2.2.1 v.2.2.2.2.2.2.2.1 v.2.2.2.2.2.2.2.2.1 v.2.2.2.2.2.2.2.2.2.1 v.2.2.2.2.2.2.2.2.2.2.1 v.2.2.2.2.2.2.2.2.2.2.2.1 v.2.2.2.2.2.2.2.2.2.2.2.2.1 v.2.2.2.2.2.2.2.2.2.2.2.2.2.1 v.2.2.2.2.2.2.2.2.2.2.2.2.2.2.1 v.2.2.2.2.2.2.2.2.2.2.2.2.2.2.2.1 v.2.2.2.2.2.2.2.2.2.2.2.2.2.2.2.2.1 v.2.2.2.2.2.2.2.2.2.2.2.2.2.2.2.2.2.1 v.2.2.2.2.2.2.2.2.2.2.2.2.2.2.2.2.2.2.1 v.2.2.2.2.2.2.2.2.2.2.2.2.2.2.2.2.2.2.2) T84_ok (LOk_of (l := [loopAt F19 0]) (by kernel_rfl) ⟨sel_one (by kernel_rfl) t_u102q, trivial⟩) (by kernel_rfl) (fun v => by kernel_rfl) (fun v => f_u124q_eq v.1 v.2.1 v.2.2.1 v.2.2.2.1 v.2.2.2.2.1 v.2.2.2.2.2.1 v.2.2.2.2.2.2.1 v.2.2.2.2.2.2.2.1 v.2.2.2.2.2.2.2.2.1 v.2.2.2.2.2.2.2.2.2.1 v.2.2.2.2.2.2.2.2.2.2.1 v.2.2.2.2.2.2.2.2.2.2.2.1 v.2.2.2.2.2.2.2.2.2.2.2.2.1 v.2.2.2.2.2.2.2.2.2.2.2.2.2.1 v.2.2.2.2.2.2.2.2.2.2.2.2.2.2.1 v.2.2.2.2.2.2.2.2.2.2.2.2.2.2.2.1 v.2.2.2.2.2.2.2.2.2.2.2.2.2.2.2.2.1 v.2.2.2.2.2.2.2.2.2.2.2.2.2.2.2.2.2.1 v.2.2.2.2.2.2.2.2.2.2.2.2.2.2.2.2.2.2.1 v.2.2.2.2.2.2.2.2.2.2.2.2.2.2.2.2.2.2.2)
noncomputable def T85 : Tab := (19, FE p_u124q r_u124q (fun (v : List UInt8 × List UInt8 × List UInt8 × Int × Int × Int × Int × List AV × Bool × Int × Int × Bool × List AV × Bool × Int × Int × Bool × List AV × List AV × Int) => (f_u124q v.1 v.2.1 v.2.2.1 v.2.2.2.1 v.2.2.2.2.1 v.2.2.2.2.2.1 v.2.2.2.2.2.2.1 v.2.2.2.2.2.2.2.1 v.2.2.2.2.2.2.2.2.1 v.2.2.2.2.2.2.2.2.2.1 v.2.2.2.2.2.2.2.2.2.2.1 v.2.2.2.2.2.2.2.2.2.2.2.1 v.2.2.2.2.2.2.2.2.2.2.2.2.1 v.2.2.2.2.2.2.2.2.2.2.2.2.2.1 v.2.2.2.2.2.2.2.2.2.2.2.2.2.2.1 v.2.2.2.2.2.2.2.2.2.2.2.2.2.2.2.1 v.2.2.2.2.2.2.2.2.2.2.2.2.2.2.2.2.1 v.2.2.2.2.2.2.2.2.2.2.2.2.2.2.2.2.2.1 v.2.2.2.2.2.2.2.2.2.2.2.2.2.2.2.2.2.2.1 v.2.2.2.2.2.2.2.2.2.2.2.2.2.2.2.2.2.2.2 : Option B_u124q))) :: T84
theorem T85_ok : TabOk IP T85 := ⟨FE_ok c_u124q, T84_ok⟩
abbrev B_u123q : Type := Bool
def p_u123q : PArgs := ⟨[.agg [.int .i64, .int .i64, .str, .view 4], .agg [.int .i64, .int .i64, .str, .view 4]], []⟩
def r_u123q : List PRes := [⟨false, .bool, []⟩]
abbrev GT_u123q : Type := Int → Int → (List UInt8) → (List AV) → Int → Int → (List UInt8) → (List AV) → Option B_u123q
def GH_u123q (G_u123q : GT_u123q) : Prop := FH IP 39 p_u123q r_u123q (fun (v : Int × Int × List UInt8 × List AV × Int × Int × List UInt8 × List AV) => (G_u123q v.1 v.2.1 v.2.2.1 v.2.2.2.1 v.2.2.2.2.1 v.2.2.2.2.2.1 v.2.2.2.2.2.2.1 v.2.2.2.2.2.2.2 : Option B_u123q))
noncomputable def TG_u123q (G_u123q : GT_u123q) : Tab := (39, FE p_u123q r_u123q (fun (v : Int × Int × List UInt8 × List AV × Int × Int × List UInt8 × List AV) => (G_u123q v.1 v.2.1 v.2.2.1 v.2.2.2.1 v.2.2.2.2.1 v.2.2.2.2.2.1 v.2.2.2.2.2.2.1 v.2.2.2.2.2.2.2 : Option B_u123q))) :: T85
theorem TG_u123q_ok (G_u123q : GT_u123q) (hG : GH_u123q G_u123q) : TabOk IP (TG_u123q G_u123q) := ⟨FE_ok (hG), T85_ok⟩
abbrev TT_u101q : Type := Int × Int × Int × List UInt8 × List AV × Int × Int × List UInt8 × List AV
def hs_u101q : List PSt := [⟨[(1003900, .junk), (2, .ref 0 0 0), (3, .ref 1 0 0), (5, .int .i64)], [(0, .box [.int .i64, .int .i64, .str, .view 4] false), (1, .box [.int .i64, .int .i64, .str, .view 4] false)], 2, 0⟩]
noncomputable def x_u101q_0 (x0 x1 x2 : Int) (x3 : List UInt8) (x4 : List AV) (x5 x6 : Int) (x7 : List UInt8) (x8 : List AV) : X × St := (X.ret, { tm := [(4, AV.bool false)], hp := [], nx := 0, k := 0 })
noncomputable def x_u101q_1 (x0 x1 x2 : Int) (x3 : List UInt8) (x4 : List AV) (x5 x6 : Int) (x7 : List UInt8) (x8 : List AV) : X × St := (X.exit 0, { tm := [(4, AV.junk)], hp := [], nx := 0, k := 0 })
noncomputable def x_u101q : List (TT_u101q → X × St) := [fun w => x_u101q_0 w.1 w.2.1 w.2.2.1 w.2.2.2.1 w.2.2.2.2.1 w.2.2.2.2.2.1 w.2.2.2.2.2.2.1 w.2.2.2.2.2.2.2.1 w.2.2.2.2.2.2.2.2, fun w => x_u101q_1 w.1 w.2.1 w.2.2.1 w.2.2.2.1 w.2.2.2.2.1 w.2.2.2.2.2.1 w.2.2.2.2.2.2.1 w.2.2.2.2.2.2.2.1 w.2.2.2.2.2.2.2.2]
noncomputable def st_u101q_0 (G_u123q : GT_u123q) (x0 x1 x2 : Int) (x3 : List UInt8) (x4 : List AV) (x5 x6 : Int) (x7 : List UInt8) (x8 : List AV) : DT (Rd TT_u101q) :=
 .br (decide (x0 < (↑x4.length : Int)))
  (.br (okAt [CS.int IntKind.i64, CS.int IntKind.i64, CS.str, CS.slice 4] x4 x0)
   (.br (okAt [CS.int IntKind.i64, CS.int IntKind.i64, CS.str, CS.slice 4] x8 x0)
    (.bi (G_u123q (intOf (cellAt x4 x0 0)) (intOf (cellAt x4 x0 1)) (strOf (cellAt x4 x0 2)) (viewOf (cellAt x4 x0 3)) (intOf (cellAt x8 x0 0)) (intOf (cellAt x8 x0 1))
        (strOf (cellAt x8 x0 2)) (viewOf (cellAt x8 x0 3))) (fun y0 =>
     .br (!y0) (.at (.done 0)) (.at (.next ((IntKind.i64.wrap (x0 + 1), x1, x2, x3, x4, x5, x6, x7, x8)))))
     (.no))
    (.no))
   (.no))
  (.at (.done 1))
noncomputable def st_u101q (G_u123q : GT_u123q) : TT_u101q → DT (Rd TT_u101q) := (fun v => st_u101q_0 G_u123q v.1 v.2.1 v.2.2.1 v.2.2.2.1 v.2.2.2.2.1 v.2.2.2.2.2.1 v.2.2.2.2.2.2.1 v.2.2.2.2.2.2.2.1 v.2.2.2.2.2.2.2.2)
noncomputable def l_u101q (G_u123q : GT_u123q) (v : TT_u101q) : Option (Nat × TT_u101q) := lock (iterO (fun v => (st_u101q G_u123q v).ev) v)
theorem l_u101q_eq (G_u123q : GT_u123q) (v : TT_u101q) : l_u101q G_u123q v = iterO (fun v => (st_u101q G_u123q v).ev) v := lock_eq _
noncomputable def ll_u101q (G_u123q : GT_u123q) : LEnt := LE (τ := TT_u101q) (hD hs_u101q) (l_u101q G_u123q) x_u101q
theorem t_u101q (G_u123q : GT_u123q) (hG : GH_u123q G_u123q) : Go.Eng.Told IP (loopAt F39 0).1 (loopAt F39 0).2 (ll_u101q G_u123q) := loop_LE (inferInstance : Inhabited TT_u101q) (hs := hs_u101q) (st := st_u101q G_u123q) (L := []) (TG_u123q_ok G_u123q hG) (LOk_of (l := []) (by kernel_rfl) trivial) (l_u101q_eq G_u123q) (fun v => by kernel_rfl) (fun v => by kernel_rfl)
noncomputable def tr_u123q (G_u123q : GT_u123q) (x0 x1 : Int) (x2 : List UInt8) (x3 : List AV) (x4 x5 : Int) (x6 : List UInt8) (x7 : List AV) : DT B_u123q :=
 .bi (br (x0 != x4) (some true) (some (x1 != x5))) (fun y0 =>
  .bi (br y0 (some true) (some !x2 == x6)) (fun y1 =>
   .bi (br y1 (some true) (some ((↑x3.length : Int) != (↑x7.length : Int)))) (fun y2 =>
    .br (y2)
     (.at (false))
     (.bi (pj 0 (l_u101q G_u123q (0, x0, x1, x2, x3, x4, x5, x6, x7))) (fun y3 =>
      .at (false))
      (.bi (pj 1 (l_u101q G_u123q (0, x0, x1, x2, x3, x4, x5, x6, x7))) (fun y3 =>
       .at (true))
       (.no))))
    (.no))
   (.no))
  (.no)
noncomputable def N_u123q : Nat → GT_u123q
  | 0 => fun _ _ _ _ _ _ _ _ => none
  | n + 1 => fun x0 x1 x2 x3 x4 x5 x6 x7 => (tr_u123q ((N_u123q n)) x0 x1 x2 x3 x4 x5 x6 x7).ev
noncomputable def f_u123q (x0 x1 : Int) (x2 : List UInt8) (x3 : List AV) (x4 x5 : Int) (x6 : List UInt8) (x7 : List AV) : Option B_u123q := limO fun n => (N_u123q n) x0 x1 x2 x3 x4 x5 x6 x7
theorem N_u123q_ok : ∀ n, GH_u123q ((N_u123q n))
  | 0 => (fun v y h => nomatch h)
  | n + 1 => have hG := N_u123q_ok n
    fun_FH (F := F39) (L := [(1003900, ll_u101q ((N_u123q n)))]) (t := fun (v : Int × Int × List UInt8 × List AV × Int × Int × List UInt8 × List AV) => tr_u123q ((N_u123q n)) v.1 v.2.1 v.2.2.1 v.2.2.2.1 v.2.2.2.2.1 v.2.2.2.2.2.1 v.2.2.2.2.2.2.1 v.2.2.2.2.2.2.2) (TG_u123q_ok ((N_u123q n)) hG) (LOk_of (l := [loopAt F39 0]) (by kernel_rfl) ⟨sel_one (by kernel_rfl) (t_u101q ((N_u123q n)) hG), trivial⟩) (by kernel_rfl) (fun v => by kernel_rfl) (fun v => rfl)
theorem c_u123q : FH IP 39 p_u123q r_u123q (fun (v : Int × Int × List UInt8 × List AV × Int × Int × List UInt8 × List AV) => (f_u123q v.1 v.2.1 v.2.2.1 v.2.2.2.1 v.2.2.2.2.1 v.2.2.2.2.2.1 v.2.2.2.2.2.2.1 v.2.2.2.2.2.2.2 : Option B_u123q)) := lim_FH (p := p_u123q) (rs := r_u123q) (s := fun n (v : Int × Int × List UInt8 × List AV × Int × Int × List UInt8 × List AV) => (N_u123q n) v.1 v.2.1 v.2.2.1 v.2.2.2.1 v.2.2.2.2.1 v.2.2.2.2.2.1 v.2.2.2.2.2.2.1 v.2.2.2.2.2.2.2) fun n => (N_u123q_ok n)
noncomputable def T86 : Tab := (39, FE p_u123q r_u123q (fun (v : Int × Int × List UInt8 × List AV × Int × Int × List UInt8 × List AV) => (f_u123q v.1 v.2.1 v.2.2.1 v.2.2.2.1 v.2.2.2.2.1 v.2.2.2.2.2.1 v.2.2.2.2.2.2.1 v.2.2.2.2.2.2.2 : Option B_u123q))) :: T85
theorem T86_ok : TabOk IP T86 := ⟨FE_ok c_u123q, T85_ok⟩
abbrev TT_u45q : Type := List AV × List AV × Int
def hs_u45q : List PSt := [⟨[(1001700, .junk), (0, .view 10), (1, .view 10), (5, .int .i64)], [], 0, 0⟩]
noncomputable def x_u45q_0 (x0 x1 : List AV) (x2 : Int) : X × St := (X.ret, { tm := [(4, AV.bool false)], hp := [], nx := 0, k := 0 })
noncomputable def x_u45q_1 (x0 x1 : List AV) (x2 : Int) : X × St := (X.exit 0, { tm := [(4, AV.junk)], hp := [], nx := 0, k := 0 })
noncomputable def x_u45q : List (TT_u45q → X × St) := [fun w => x_u45q_0 w.1 w.2.1 w.2.2, fun w => x_u45q_1 w.1 w.2.1 w.2.2]
noncomputable def st_u45q_0 (x0 x1 : List AV) (x2 : Int) : DT (Rd TT_u45q) :=
 .br (decide (x2 < (↑x0.length : Int)))
  (.br (okAt [CS.str, CS.int IntKind.i64, CS.int IntKind.i64, CS.int IntKind.i64, CS.str, CS.slice 4, CS.int IntKind.i64, CS.int IntKind.i64, CS.str, CS.slice 4] x0 x2)
   (.br (okAt [CS.str, CS.int IntKind.i64, CS.int IntKind.i64, CS.int IntKind.i64, CS.str, CS.slice 4, CS.int IntKind.i64, CS.int IntKind.i64, CS.str, CS.slice 4] x1 x2)
    (.br (!strOf (cellAt x0 x2 0) == strOf (cellAt x1 x2 0))
     (.at (.done 0))
     (.br (okAt [CS.str, CS.int IntKind.i64, CS.int IntKind.i64, CS.int IntKind.i64, CS.str, CS.slice 4, CS.int IntKind.i64, CS.int IntKind.i64, CS.str, CS.slice 4] x0 x2)
      (.br (okAt [CS.str, CS.int IntKind.i64, CS.int IntKind.i64, CS.int IntKind.i64, CS.str, CS.slice 4, CS.int IntKind.i64, CS.int IntKind.i64, CS.str, CS.slice 4] x1 x2)
       (.br (intOf (cellAt x0 x2 1) != intOf (cellAt x1 x2 1))
        (.at (.done 0))
        (.br (okAt [CS.str, CS.int IntKind.i64, CS.int IntKind.i64, CS.int IntKind.i64, CS.str, CS.slice 4, CS.int IntKind.i64, CS.int IntKind.i64, CS.str, CS.slice 4] x0 x2)
         (.br (okAt [CS.str, CS.int IntKind.i64, CS.int IntKind.i64, CS.int IntKind.i64, CS.str, CS.slice 4, CS.int IntKind.i64, CS.int IntKind.i64, CS.str, CS.slice 4] x1 x2)
          (.bi (f_u123q (intOf (cellAt x0 x2 2)) (intOf (cellAt x0 x2 3)) (strOf (cellAt x0 x2 4)) (viewOf (cellAt x0 x2 5)) (intOf (cellAt x1 x2 2)) (intOf (cellAt x1 x2 3))
              (strOf (cellAt x1 x2 4)) (viewOf (cellAt x1 x2 5))) (fun y0 =>
           .br (!y0)
            (.at (.done 0))
            (.br (okAt [CS.str, CS.int IntKind.i64, CS.int IntKind.i64, CS.int IntKind.i64, CS.str, CS.slice 4, CS.int IntKind.i64, CS.int IntKind.i64, CS.str, CS.slice 4] x0 x2)
             (.br (okAt [CS.str, CS.int IntKind.i64, CS.int IntKind.i64, CS.int IntKind.i64, CS.str, CS.slice 4, CS.int IntKind.i64, CS.int IntKind.i64, CS.str, CS.slice 4] x1 x2)
              (.bi (f_u123q (intOf (cellAt x0 x2 6)) (intOf (cellAt x0 x2 7)) (strOf (cellAt x0 x2 8)) (viewOf (cellAt x0 x2 9)) (intOf (cellAt x1 x2 6)) (intOf (cellAt x1 x2 7))
                  (strOf (cellAt x1 x2 8)) (viewOf (cellAt x1 x2 9))) (fun y1 =>
               .br (!y1) (.at (.done 0)) (.at (.next ((x0, x1, IntKind.i64.wrap (x2 + 1))))))
               (.no))
              (.no))
             (.no)))
           (.no))
          (.no))
         (.no)))
       (.no))
      (.no)))
    (.no))
   (.no))
  (.at (.done 1))
noncomputable def st_u45q : TT_u45q → DT (Rd TT_u45q) := (fun v => st_u45q_0 v.1 v.2.1 v.2.2)
noncomputable def l_u45q (v : TT_u45q) : Option (Nat × TT_u45q) := lock (iterO (fun v => (st_u45q v).ev) v)
theorem l_u45q_eq (v : TT_u45q) : l_u45q v = iterO (fun v => (st_u45q v).ev) v := lock_eq _
noncomputable def ll_u45q : LEnt := LE (τ := TT_u45q) (hD hs_u45q) (l_u45q) x_u45q
theorem t_u45q : Go.Eng.Told IP (loopAt F17 0).1 (loopAt F17 0).2 (ll_u45q) := loop_LE (inferInstance : Inhabited TT_u45q) (hs := hs_u45q) (st := st_u45q) (L := []) T86_ok (LOk_of (l := []) (by kernel_rfl) trivial) (l_u45q_eq) (fun v => by kernel_rfl) (fun v => by kernel_rfl)
abbrev B_u69q : Type := Bool
def p_u69q : PArgs := ⟨[.view 10, .view 10], []⟩
def r_u69q : List PRes := [⟨false, .bool, []⟩]
noncomputable def tr_u69q (x0 x1 : List AV) : DT B_u69q :=
 .br ((↑x0.length : Int) != (↑x1.length : Int))
  (.at (false))
  (.bi (pj 0 (l_u45q (x0, x1, 0))) (fun y0 =>
   .at (false))
   (.bi (pj 1 (l_u45q (x0, x1, 0))) (fun y0 =>
    .at (true))
    (.no)))
noncomputable def f_u69q (x0 x1 : List AV) : Option B_u69q := lock (tr_u69q x0 x1).ev
theorem f_u69q_eq (x0 x1 : List AV) : f_u69q x0 x1 = (tr_u69q x0 x1).ev := lock_eq _
theorem c_u69q : FH IP 17 p_u69q r_u69q (fun (v : List AV × List AV) => (f_u69q v.1 v.2 : Option B_u69q)) := fun_FH (F := F17) (L := [(1001700, ll_u45q)]) (t := fun (v : List AV × List AV) => tr_u69q v.1 v.2) T86_ok (LOk_of (l := [loopAt F17 0]) (by kernel_rfl) ⟨sel_one (by kernel_rfl) t_u45q, trivial⟩) (by kernel_rfl) (fun v => by kernel_rfl) (fun v => f_u69q_eq v.1 v.2)
noncomputable def T87 : Tab := (17, FE p_u69q r_u69q (fun (v : List AV × List AV) => (f_u69q v.1 v.2 : Option B_u69q))) :: T86
theorem T87_ok : TabOk IP T87 := ⟨FE_ok c_u69q, T86_ok⟩
abbrev B_u31q : Type := Bool
def p_u31q : PArgs := ⟨[.agg [.str, .str, .str, .int .i64, .int .i64, .int .i64, .int .i64, .view 2, .bool, .int .i64, .int .i64, .bool, .view 2, .bool, .int .i64, .int .i64, .bool, .view 10, .view 6], .int .i64, .int .i64], []⟩
def r_u31q : List PRes := [⟨false, .bool, []⟩]
noncomputable def tr_u31q (x0 x1 x2 : List UInt8) (x3 x4 : Int) (x5 x6 : Int) (x7 : List AV) (x8 : Bool) (x9 x10 : Int) (x11 : Bool) (x12 : List AV) (x13 : Bool) (x14 x15 : Int) (x16 : Bool) (x17 x18 : List AV) (x19 x20 : Int) : DT B_u31q :=
 .bi (f_u126q x0 x1 x2 x3 x4 x5 x6 x7 x8 x9 x10 x11 x12 x13 x14 x15 x16 x17 x18) (fun y0 =>
  .br (!y0)
   (.bi (f_u117q) (fun y1 =>
    .at (y1))
    (.no))
   (.bi (f_u76q x0 x1 x2 x3 x4 x5 x6 x7 x8 x9 x10 x11 x12 x13 x14 x15 x16 x17 x18 x19) (fun y1 =>
    .bi (f_u125q x0 x1 x2 x3 x4 x5 x6 x7 x8 x9 x10 x11 x12 x13 x14 x15 x16 x17 x18 x19) (fun y2 =>
     .bi (f_u32q y1.1 y1.2.1 y1.2.2.1 y1.2.2.2.1 y1.2.2.2.2 y2.1 y2.2.1 y2.2.2.1 y2.2.2.2.1 y2.2.2.2.2) (fun y3 =>
      .br (y3)
       (.bi (f_u74q x0 x1 x2 x3 x4 x5 x6 x7 x8 x9 x10 x11 x12 x13 x14 x15 x16 x17 x18 x20) (fun y4 =>
        .bi (f_u124q x0 x1 x2 x3 x4 x5 x6 x7 x8 x9 x10 x11 x12 x13 x14 x15 x16 x17 x18 x20) (fun y5 =>
         .bi (f_u69q y4 y5) (fun y6 =>
          .br (y6)
           (.bi (f_u117q) (fun y7 =>
            .at (y7))
            (.no))
           (.at (false)))
          (.no))
         (.no))
        (.no))
       (.at (false)))
      (.no))
     (.no))
    (.no)))
  (.no)
noncomputable def f_u31q (x0 x1 x2 : List UInt8) (x3 x4 : Int) (x5 x6 : Int) (x7 : List AV) (x8 : Bool) (x9 x10 : Int) (x11 : Bool) (x12 : List AV) (x13 : Bool) (x14 x15 : Int) (x16 : Bool) (x17 x18 : List AV) (x19 x20 : Int) : Option B_u31q := lock (tr_u31q x0 x1 x2 x3 x4 x5 x6 x7 x8 x9 x10 x11 x12 x13 x14 x15 x16 x17 x18 x19 x20).ev
theorem f_u31q_eq (x0 x1 x2 : List UInt8) (x3 x4 : Int) (x5 x6 : Int) (x7 : List AV) (x8 : Bool) (x9 x10 : Int) (x11 : Bool) (x12 : List AV) (x13 : Bool) (x14 x15 : Int) (x16 : Bool) (x17 x18 : List AV) (x19 x20 : Int) : f_u31q x0 x1 x2 x3 x4 x5 x6 x7 x8 x9 x10 x11 x12 x13 x14 x15 x16 x17 x18 x19 x20 = (tr_u31q x0 x1 x2 x3 x4 x5 x6 x7 x8 x9 x10 x11 x12 x13 x14 x15 x16 x17 x18 x19 x20).ev := lock_eq _
theorem c_u31q : FH IP 5 p_u31q r_u31q (fun (v : List UInt8 × List UInt8 × List UInt8 × Int × Int × Int × Int × List AV × Bool × Int × Int × Bool × List AV × Bool × Int × Int × Bool × List AV × List AV × Int × Int) => (f_u31q v.1 v.2.1 v.2.2.1 v.2.2.2.1 v.2.2.2.2.1 v.2.2.2.2.2.1 v.2.2.2.2.2.2.1 v.2.2.2.2.2.2.2.1 v.2.2.2.2.2.2.2.2.1 v.2.2.2.2.2.2.2.2.2.1 v.2.2.2.2.2.2.2.2.2.2.1 v.2.2.2.2.2.2.2.2.2.2.2.1 v.2.2.2.2.2.2.2.2.2.2.2.2.1 v.2.2.2.2.2.2.2.2.2.2.2.2.2.1 v.2.2.2.2.2.2.2.2.2.2.2.2.2.2.1 v.2.2.2.2.2.2.2.2.2.2.2.2.2.2.2.1 v.2.2.2.2.2.2.2.2.2.2.2.2.2.2.2.2.1 v.2.2.2.2.2.2.2.2.2.2.2.2.2.2.2.2.2.1 v.2.2.2.2.2.2.2.2.2.2.2.2.2.2.2.2.2.2.1 v.2.2.2.2.2.2.2.2.2.2.2.2.2.2.2.2.2.2.2.1 v.2.2.2.2.2.2.2.2.2.2.2.2.2.2.2.2.2.2.2.2 : Option B_u31q)) := fun_FH (F := F5) (L := []) (t := fun (v : List UInt8 × List UInt8 × List UInt8 × Int × Int × Int × Int × List AV × Bool × Int × Int × Bool × List AV × Bool × Int × Int × Bool × List AV × List AV × Int × Int) => tr_u31q v.1 v.2.1 v.2.2.1 v.2.2.2.1 v.2.2.2.2.1 v.2.2.2.2.2.1 v.2.2.2.2.2.2.1 v.2.2.2.2.2.2.2.1 v.2.2.2.2.2.2.2.2.1 v.2.2.2.2.2.2.2.2.2.1 v.2.2.2.2.2.2.2.2.2.2.1 v.2.2.2.2.2.2.2.2.2.2.2.1 v.2.2.2.2.2.2.2.2.2.2.2.2.1 v.2.2.2.2.2.2.2.2.2.2.2.2.2.1 v.2.2.2.2.2.2.2.2.2.2.2.2.2.2.1 v.2.2.2.2.2.2.2.2.2.2.2.2.2.2.2.1 v.2.2.2.2.2.2.2.2.2.2.2.2.2.2.2.2.1 v.2.2.2.2.2.2.2.2.2.2.2.2.2.2.2.2.2.1 v.2.2.2.2.2.2.2.2.2.2.2.2.2.2.2.2.2.2.1 v.2.2.2.2.2.2.2.2.2.2.2.2.2.2.2.2.2.2.2.1 v.2.2.2.2.2.2.2.2.2.2.2.2.2.2.2.2.2.2.2.2) T87_ok (LOk_of (l := []) (by kernel_rfl) trivial) (by kernel_rfl) (fun v => by kernel_rfl) (fun v => f_u31q_eq v.1 v.2.1 v.2.2.1 v.2.2.2.1 v.2.2.2.2.1 v.2.2.2.2.2.1 v.2.2.2.2.2.2.1 v.2.2.2.2.2.2.2.1 v.2.2.2.2.2.2.2.2.1 v.2.2.2.2.2.2.2.2.2.1 v.2.2.2.2.2.2.2.2.2.2.1 v.2.2.2.2.2.2.2.2.2.2.2.1 v.2.2.2.2.2.2.2.2.2.2.2.2.1 v.2.2.2.2.2.2.2.2.2.2.2.2.2.1 v.2.2.2.2.2.2.2.2.2.2.2.2.2.2.1 v.2.2.2.2.2.2.2.2.2.2.2.2.2.2.2.1 v.2.2.2.2.2.2.2.2.2.2.2.2.2.2.2.2.1 v.2.2.2.2.2.2.2.2.2.2.2.2.2.2.2.2.2.1 v.2.2.2.2.2.2.2.2.2.2.2.2.2.2.2.2.2.2.1 v.2.2.2.2.2.2.2.2.2.2.2.2.2.2.2.2.2.2.2.1 v.2.2.2.2.2.2.2.2.2.2.2.2.2.2.2.2.2.2.2.2)
end Go.Proofs.H15s

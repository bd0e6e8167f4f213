/- Functions over plain data. Printed by a program of mine. -/
import Derived.Test.YthljpgljbpdmjaaGreatDoorD15v_5
import Derived.KernelRfl
set_option linter.unusedVariables false
set_option linter.unusedSimpArgs false
set_option linter.unnecessarySimpa false
namespace Go.Proofs.H15v
open Go Go.Eng
set_option maxRecDepth 100000
abbrev TT_u0q : Type := List AV × List AV × Int × Int
def hs_u0q : List PSt := [⟨[(1005900, .junk), (1, .view 4), (2, .fn (.func 44) []), (15, .view 4), (16, .int .i64), (17, .int .i64)], [], 0, 0⟩]
noncomputable def x_u0q_0 (x0 : List AV) (x1 : List AV) (x2 : Int) (x3 : Int) : X × St := (X.ret, { tm := [(6, AV.bool false)], hp := [], nx := 0, k := 0 })
noncomputable def x_u0q_1 (x0 : List AV) (x1 : List AV) (x2 : Int) (x3 : Int) : X × St := (X.exit 0, { tm := [(6, AV.junk)], hp := [], nx := 0, k := 0 })
noncomputable def x_u0q : List (TT_u0q → X × St) := [fun w => x_u0q_0 w.1 w.2.1 w.2.2.1 w.2.2.2, fun w => x_u0q_1 w.1 w.2.1 w.2.2.1 w.2.2.2]
noncomputable def st_u0q_0 (G_u109q : GT_u109q) (G_u2q : GT_u2q) (x0 : List AV) (x1 : List AV) (x2 : Int) (x3 : Int) : DT (Rd TT_u0q) :=
 .br (decide (x3 < x2))
  (.br (okAt [CS.int IntKind.i64, CS.int IntKind.i64, CS.str, CS.slice 4] x1 x3)
   (.br (okAt [CS.int IntKind.i64, CS.int IntKind.i64, CS.str, CS.slice 4] x0 x3)
    (.bi (G_u109q (intOf (cellAt x1 x3 0)) (intOf (cellAt x1 x3 1)) (strOf (cellAt x1 x3 2)) (viewOf (cellAt x1 x3 3)) (intOf (cellAt x0 x3 0)) (intOf (cellAt x0 x3 1))
        (strOf (cellAt x0 x3 2)) (viewOf (cellAt x0 x3 3))) (fun y0 =>
     .br (!y0) (.at (.done 0)) (.at (.next ((x0, x1, x2, IntKind.i64.wrap (x3 + 1))))))
     (.no))
    (.no))
   (.no))
  (.at (.done 1))
noncomputable def st_u0q (G_u109q : GT_u109q) (G_u2q : GT_u2q) : TT_u0q → DT (Rd TT_u0q) := (fun v => st_u0q_0 G_u109q G_u2q v.1 v.2.1 v.2.2.1 v.2.2.2)
noncomputable def l_u0q (G_u109q : GT_u109q) (G_u2q : GT_u2q) (v : TT_u0q) : Option (Nat × TT_u0q) := lock (iterO (fun v => (st_u0q G_u109q G_u2q v).ev) v)
theorem l_u0q_eq (G_u109q : GT_u109q) (G_u2q : GT_u2q) (v : TT_u0q) : l_u0q G_u109q G_u2q v = iterO (fun v => (st_u0q G_u109q G_u2q v).ev) v := lock_eq _
noncomputable def ll_u0q (G_u109q : GT_u109q) (G_u2q : GT_u2q) : LEnt := LE (τ := TT_u0q) (hD hs_u0q) (l_u0q G_u109q G_u2q) x_u0q
theorem t_u0q (G_u109q : GT_u109q) (G_u2q : GT_u2q) (hG : GH_u109q G_u109q G_u2q) : Go.Eng.Told IP (loopAt F59 0).1 (loopAt F59 0).2 (ll_u0q G_u109q G_u2q) := loop_LE (inferInstance : Inhabited TT_u0q) (hs := hs_u0q) (st := st_u0q G_u109q G_u2q) (L := []) (TG_u109q_ok G_u109q G_u2q hG) (LOk_of (l := []) (by kernel_rfl) trivial) (l_u0q_eq G_u109q G_u2q) (fun v => by kernel_rfl) (fun v => by kernel_rfl)
noncomputable def tr_u109q (G_u109q : GT_u109q) (G_u2q : GT_u2q) (x0 : Int) (x1 : Int) (x2 : List UInt8) (x3 : List AV) (x4 : Int) (x5 : Int) (x6 : List UInt8) (x7 : List AV) : DT B_u109q :=
 .bi (br (x0 == x4) (some (x1 == x5)) (some false)) (fun y0 =>
  .bi (br y0 (some (x2 == x6)) (some false)) (fun y1 =>
   .bi (br y1 (br (sm (G_u2q x3 x7)) (some (gv (G_u2q x3 x7))) none) (some false)) (fun y2 =>
    .at (y2))
    (.no))
   (.no))
  (.no)
noncomputable def tr_u2q (G_u109q : GT_u109q) (G_u2q : GT_u2q) (x0 : List AV) (x1 : List AV) : DT B_u2q :=
 .br ((↑x0.length : Int) != (↑x1.length : Int))
  (.at (false))
  (.bi (pj 0 (l_u0q G_u109q G_u2q (x1, x0, (↑x0.length : Int), 0))) (fun y0 =>
   .at (false))
   (.bi (pj 1 (l_u0q G_u109q G_u2q (x1, x0, (↑x0.length : Int), 0))) (fun y0 =>
    .at (true))
    (.no)))
noncomputable def N_u109q : Nat → GT_u109q × GT_u2q
  | 0 => (fun _ _ _ _ _ _ _ _ => none, fun _ _ => none)
  | n + 1 => (fun x0 x1 x2 x3 x4 x5 x6 x7 => (tr_u109q ((N_u109q n).1) ((N_u109q n).2) x0 x1 x2 x3 x4 x5 x6 x7).ev, fun x0 x1 => (tr_u2q ((N_u109q n).1) ((N_u109q n).2) x0 x1).ev)
noncomputable def f_u109q (x0 : Int) (x1 : Int) (x2 : List UInt8) (x3 : List AV) (x4 : Int) (x5 : Int) (x6 : List UInt8) (x7 : List AV) : Option B_u109q := limO fun n => (N_u109q n).1 x0 x1 x2 x3 x4 x5 x6 x7
noncomputable def f_u2q (x0 : List AV) (x1 : List AV) : Option B_u2q := limO fun n => (N_u109q n).2 x0 x1
theorem N_u109q_ok : ∀ n, GH_u109q ((N_u109q n).1) ((N_u109q n).2)
  | 0 => ⟨(fun v y h => nomatch h), (fun v y h => nomatch h)⟩
  | n + 1 => have hG := N_u109q_ok n
    ⟨fun_FH (F := F44) (L := []) (t := fun (v : Int × Int × List UInt8 × List AV × Int × Int × List UInt8 × List AV) => tr_u109q ((N_u109q n).1) ((N_u109q n).2) v.1 v.2.1 v.2.2.1 v.2.2.2.1 v.2.2.2.2.1 v.2.2.2.2.2.1 v.2.2.2.2.2.2.1 v.2.2.2.2.2.2.2) (TG_u109q_ok ((N_u109q n).1) ((N_u109q n).2) hG) (LOk_of (l := []) (by kernel_rfl) trivial) (by kernel_rfl) (fun v => by kernel_rfl) (fun v => rfl), fun_FH (F := F59) (L := [(1005900, ll_u0q ((N_u109q n).1) ((N_u109q n).2))]) (t := fun (v : List AV × List AV) => tr_u2q ((N_u109q n).1) ((N_u109q n).2) v.1 v.2) (TG_u109q_ok ((N_u109q n).1) ((N_u109q n).2) hG) (LOk_of (l := [loopAt F59 0]) (by kernel_rfl) ⟨sel_one (by kernel_rfl) (t_u0q ((N_u109q n).1) ((N_u109q n).2) hG), trivial⟩) (by kernel_rfl) (fun v => by kernel_rfl) (fun v => rfl)⟩
theorem c_u109q : FH IP 44 p_u109q r_u109q (fun (v : Int × Int × List UInt8 × List AV × Int × Int × List UInt8 × List AV) => (f_u109q v.1 v.2.1 v.2.2.1 v.2.2.2.1 v.2.2.2.2.1 v.2.2.2.2.2.1 v.2.2.2.2.2.2.1 v.2.2.2.2.2.2.2 : Option B_u109q)) := lim_FH (p := p_u109q) (rs := r_u109q) (s := fun n (v : Int × Int × List UInt8 × List AV × Int × Int × List UInt8 × List AV) => (N_u109q n).1 v.1 v.2.1 v.2.2.1 v.2.2.2.1 v.2.2.2.2.1 v.2.2.2.2.2.1 v.2.2.2.2.2.2.1 v.2.2.2.2.2.2.2) fun n => (N_u109q_ok n).1
theorem c_u2q : FH IP 59 p_u2q r_u2q (fun (v : List AV × List AV) => (f_u2q v.1 v.2 : Option B_u2q)) := lim_FH (p := p_u2q) (rs := r_u2q) (s := fun n (v : List AV × List AV) => (N_u109q n).2 v.1 v.2) fun n => (N_u109q_ok n).2
noncomputable def T74 : Tab := (44, FE p_u109q r_u109q (fun (v : Int × Int × List UInt8 × List AV × Int × Int × List UInt8 × List AV) => (f_u109q v.1 v.2.1 v.2.2.1 v.2.2.2.1 v.2.2.2.2.1 v.2.2.2.2.2.1 v.2.2.2.2.2.2.1 v.2.2.2.2.2.2.2 : Option B_u109q))) :: T73
theorem T74_ok : TabOk IP T74 := ⟨FE_ok c_u109q, T73_ok⟩
noncomputable def T75 : Tab := (59, FE p_u2q r_u2q (fun (v : List AV × List AV) => (f_u2q v.1 v.2 : Option B_u2q))) :: T74
theorem T75_ok : TabOk IP T75 := ⟨FE_ok c_u2q, T74_ok⟩
abbrev B_u44q : Type := Bool
def p_u44q : PArgs := ⟨[.agg [.str, .int .i64, .int .i64, .int .i64, .str, .view 4, .int .i64, .int .i64, .str, .view 4], .agg [.str, .int .i64, .int .i64, .int .i64, .str, .view 4, .int .i64, .int .i64, .str, .view 4]], []⟩
def r_u44q : List PRes := [⟨false, .bool, []⟩]
noncomputable def tr_u44q (x0 : List UInt8) (x1 : Int) (x2 : Int) (x3 : Int) (x4 : List UInt8) (x5 : List AV) (x6 : Int) (x7 : Int) (x8 : List UInt8) (x9 : List AV) (x10 : List UInt8) (x11 : Int) (x12 : Int) (x13 : Int) (x14 : List UInt8) (x15 : List AV) (x16 : Int) (x17 : Int) (x18 : List UInt8) (x19 : List AV) : DT B_u44q :=
 .bi (br (x0 == x10) (some (x1 == x11)) (some false)) (fun y0 =>
  .bi (br y0 (br (sm (f_u109q x2 x3 x4 x5 x12 x13 x14 x15)) (some (gv (f_u109q x2 x3 x4 x5 x12 x13 x14 x15))) none) (some false)) (fun y1 =>
   .bi (br y1 (br (sm (f_u109q x6 x7 x8 x9 x16 x17 x18 x19)) (some (gv (f_u109q x6 x7 x8 x9 x16 x17 x18 x19))) none) (some false)) (fun y2 =>
    .at (y2))
    (.no))
   (.no))
  (.no)
noncomputable def f_u44q (x0 : List UInt8) (x1 : Int) (x2 : Int) (x3 : Int) (x4 : List UInt8) (x5 : List AV) (x6 : Int) (x7 : Int) (x8 : List UInt8) (x9 : List AV) (x10 : List UInt8) (x11 : Int) (x12 : Int) (x13 : Int) (x14 : List UInt8) (x15 : List AV) (x16 : Int) (x17 : Int) (x18 : List UInt8) (x19 : List AV) : Option B_u44q := lock (tr_u44q x0 x1 x2 x3 x4 x5 x6 x7 x8 x9 x10 x11 x12 x13 x14 x15 x16 x17 x18 x19).ev
theorem f_u44q_eq (x0 : List UInt8) (x1 : Int) (x2 : Int) (x3 : Int) (x4 : List UInt8) (x5 : List AV) (x6 : Int) (x7 : Int) (x8 : List UInt8) (x9 : List AV) (x10 : List UInt8) (x11 : Int) (x12 : Int) (x13 : Int) (x14 : List UInt8) (x15 : List AV) (x16 : Int) (x17 : Int) (x18 : List UInt8) (x19 : List AV) : f_u44q x0 x1 x2 x3 x4 x5 x6 x7 x8 x9 x10 x11 x12 x13 x14 x15 x16 x17 x18 x19 = (tr_u44q x0 x1 x2 x3 x4 x5 x6 x7 x8 x9 x10 x11 x12 x13 x14 x15 x16 x17 x18 x19).ev := lock_eq _
theorem c_u44q : FH IP 43 p_u44q r_u44q (fun (v : List UInt8 × Int × Int × Int × List UInt8 × List AV × Int × Int × List UInt8 × List AV × List UInt8 × Int × Int × Int × List UInt8 × List AV × Int × Int × List UInt8 × List AV) => (f_u44q v.1 v.2.1 v.2.2.1 v.2.2.2.1 v.2.2.2.2.1 v.2.2.2.2.2.1 v.2.2.2.2.2.2.1 v.2.2.2.2.2.2.2.1 v.2.2.2.2.2.2.2.2.1 v.2.2.2.2.2.2.2.2.2.1 v.2.2.2.2.2.2.2.2.2.2.1 v.2.2.2.2.2.2.2.2.2.2.2.1 v.2.2.2.2.2.2.2.2.2.2.2.2.1 v.2.2.2.2.2.2.2.2.2.2.2.2.2.1 v.2.2.2.2.2.2.2.2.2.2.2.2.2.2.1 v.2.2.2.2.2.2.2.2.2.2.2.2.2.2.2.1 v.2.2.2.2.2.2.2.2.2.2.2.2.2.2.2.2.1 v.2.2.2.2.2.2.2.2.2.2.2.2.2.2.2.2.2.1 v.2.2.2.2.2.2.2.2.2.2.2.2.2.2.2.2.2.2.1 v.2.2.2.2.2.2.2.2.2.2.2.2.2.2.2.2.2.2.2 : Option B_u44q)) := fun_FH (F := F43) (L := []) (t := fun (v : List UInt8 × Int × Int × Int × List UInt8 × List AV × Int × Int × List UInt8 × List AV × List UInt8 × Int × Int × Int × List UInt8 × List AV × Int × Int × List UInt8 × List AV) => tr_u44q v.1 v.2.1 v.2.2.1 v.2.2.2.1 v.2.2.2.2.1 v.2.2.2.2.2.1 v.2.2.2.2.2.2.1 v.2.2.2.2.2.2.2.1 v.2.2.2.2.2.2.2.2.1 v.2.2.2.2.2.2.2.2.2.1 v.2.2.2.2.2.2.2.2.2.2.1 v.2.2.2.2.2.2.2.2.2.2.2.1 v.2.2.2.2.2.2.2.2.2.2.2.2.1 v.2.2.2.2.2.2.2.2.2.2.2.2.2.1 v.2.2.2.2.2.2.2.2.2.2.2.2.2.2.1 v.2.2.2.2.2.2.2.2.2.2.2.2.2.2.2.1 v.2.2.2.2.2.2.2.2.2.2.2.2.2.2.2.2.1 v.2.2.2.2.2.2.2.2.2.2.2.2.2.2.2.2.2.1 v.2.2.2.2.2.2.2.2.2.2.2.2.2.2.2.2.2.2.1 v.2.2.2.2.2.2.2.2.2.2.2.2.2.2.2.2.2.2.2) T75_ok (LOk_of (l := []) (by kernel_rfl) trivial) (by kernel_rfl) (fun v => by kernel_rfl) (fun v => f_u44q_eq v.1 v.2.1 v.2.2.1 v.2.2.2.1 v.2.2.2.2.1 v.2.2.2.2.2.1 v.2.2.2.2.2.2.1 v.2.2.2.2.2.2.2.1 v.2.2.2.2.2.2.2.2.1 v.2.2.2.2.2.2.2.2.2.1 v.2.2.2.2.2.2.2.2.2.2.1 v.2.2.2.2.2.2.2.2.2.2.2.1 v.2.2.2.2.2.2.2.2.2.2.2.2.1 v.2.2.2.2.2.2.2.2.2.2.2.2.2.1 v.2.2.2.2.2.2.2.2.2.2.2.2.2.2.1 v.2.2.2.2.2.2.2.2.2.2.2.2.2.2.2.1 v.2.2.2.2.2.2.2.2.2.2.2.2.2.2.2.2.1 v.2.2.2.2.2.2.2.2.2.2.2.2.2.2.2.2.2.1 v.2.2.2.2.2.2.2.2.2.2.2.2.2.2.2.2.2.2.1 v.2.2.2.2.2.2.2.2.2.2.2.2.2.2.2.2.2.2.2)
noncomputable def T76 : Tab := (43, FE p_u44q r_u44q (fun (v : List UInt8 × Int × Int × Int × List UInt8 × List AV × Int × Int × List UInt8 × List AV × List UInt8 × Int × Int × Int × List UInt8 × List AV × Int × Int × List UInt8 × List AV) => (f_u44q v.1 v.2.1 v.2.2.1 v.2.2.2.1 v.2.2.2.2.1 v.2.2.2.2.2.1 v.2.2.2.2.2.2.1 v.2.2.2.2.2.2.2.1 v.2.2.2.2.2.2.2.2.1 v.2.2.2.2.2.2.2.2.2.1 v.2.2.2.2.2.2.2.2.2.2.1 v.2.2.2.2.2.2.2.2.2.2.2.1 v.2.2.2.2.2.2.2.2.2.2.2.2.1 v.2.2.2.2.2.2.2.2.2.2.2.2.2.1 v.2.2.2.2.2.2.2.2.2.2.2.2.2.2.1 v.2.2.2.2.2.2.2.2.2.2.2.2.2.2.2.1 v.2.2.2.2.2.2.2.2.2.2.2.2.2.2.2.2.1 v.2.2.2.2.2.2.2.2.2.2.2.2.2.2.2.2.2.1 v.2.2.2.2.2.2.2.2.2.2.2.2.2.2.2.2.2.2.1 v.2.2.2.2.2.2.2.2.2.2.2.2.2.2.2.2.2.2.2 : Option B_u44q))) :: T75
theorem T76_ok : TabOk IP T76 := ⟨FE_ok c_u44q, T75_ok⟩
abbrev TT_u4q : Type := List AV × List AV × Int × Int
def hs_u4q : List PSt := [⟨[(1004200, .junk), (1, .view 10), (2, .fn (.func 43) []), (15, .view 10), (16, .int .i64), (17, .int .i64)], [], 0, 0⟩]
noncomputable def x_u4q_0 (x0 : List AV) (x1 : List AV) (x2 : Int) (x3 : Int) : X × St := (X.ret, { tm := [(6, AV.bool false)], hp := [], nx := 0, k := 0 })
noncomputable def x_u4q_1 (x0 : List AV) (x1 : List AV) (x2 : Int) (x3 : Int) : X × St := (X.exit 0, { tm := [(6, AV.junk)], hp := [], nx := 0, k := 0 })
noncomputable def x_u4q : List (TT_u4q → X × St) := [fun w => x_u4q_0 w.1 w.2.1 w.2.2.1 w.2.2.2, fun w => x_u4q_1 w.1 w.2.1 w.2.2.1 w.2.2.2]
noncomputable def st_u4q_0 (x0 : List AV) (x1 : List AV) (x2 : Int) (x3 : Int) : DT (Rd TT_u4q) :=
 .br (decide (x3 < x2))
  (.br (okAt [CS.str, CS.int IntKind.i64, CS.int IntKind.i64, CS.int IntKind.i64, CS.str, CS.slice 4, CS.int IntKind.i64, CS.int IntKind.i64, CS.str, CS.slice 4] x1 x3)
   (.br (okAt [CS.str, CS.int IntKind.i64, CS.int IntKind.i64, CS.int IntKind.i64, CS.str, CS.slice 4, CS.int IntKind.i64, CS.int IntKind.i64, CS.str, CS.slice 4] x0 x3)
    (.bi (f_u44q (strOf (cellAt x1 x3 0)) (intOf (cellAt x1 x3 1)) (intOf (cellAt x1 x3 2)) (intOf (cellAt x1 x3 3)) (strOf (cellAt x1 x3 4)) (viewOf (cellAt x1 x3 5))
        (intOf (cellAt x1 x3 6)) (intOf (cellAt x1 x3 7)) (strOf (cellAt x1 x3 8)) (viewOf (cellAt x1 x3 9)) (strOf (cellAt x0 x3 0)) (intOf (cellAt x0 x3 1)) (intOf (cellAt x0 x3 2))
        (intOf (cellAt x0 x3 3)) (strOf (cellAt x0 x3 4)) (viewOf (cellAt x0 x3 5)) (intOf (cellAt x0 x3 6)) (intOf (cellAt x0 x3 7)) (strOf (cellAt x0 x3 8)) (viewOf (cellAt x0 x3 9))) (fun y0 =>
     .br (!y0) (.at (.done 0)) (.at (.next ((x0, x1, x2, IntKind.i64.wrap (x3 + 1))))))
     (.no))
    (.no))
   (.no))
  (.at (.done 1))
noncomputable def st_u4q : TT_u4q → DT (Rd TT_u4q) := (fun v => st_u4q_0 v.1 v.2.1 v.2.2.1 v.2.2.2)
noncomputable def l_u4q (v : TT_u4q) : Option (Nat × TT_u4q) := lock (iterO (fun v => (st_u4q v).ev) v)
theorem l_u4q_eq (v : TT_u4q) : l_u4q v = iterO (fun v => (st_u4q v).ev) v := lock_eq _
noncomputable def ll_u4q : LEnt := LE (τ := TT_u4q) (hD hs_u4q) (l_u4q) x_u4q
theorem t_u4q : Go.Eng.Told IP (loopAt F42 0).1 (loopAt F42 0).2 (ll_u4q) := loop_LE (inferInstance : Inhabited TT_u4q) (hs := hs_u4q) (st := st_u4q) (L := []) T76_ok (LOk_of (l := []) (by kernel_rfl) trivial) (l_u4q_eq) (fun v => by kernel_rfl) (fun v => by kernel_rfl)
abbrev B_u5q : Type := Bool
def p_u5q : PArgs := ⟨[.view 10, .view 10, .fn (.func 43) []], []⟩
def r_u5q : List PRes := [⟨false, .bool, []⟩]
noncomputable def tr_u5q (x0 : List AV) (x1 : List AV) : DT B_u5q :=
 .br ((↑x0.length : Int) != (↑x1.length : Int))
  (.at (false))
  (.bi (pj 0 (l_u4q (x1, x0, (↑x0.length : Int), 0))) (fun y0 =>
   .at (false))
   (.bi (pj 1 (l_u4q (x1, x0, (↑x0.length : Int), 0))) (fun y0 =>
    .at (true))
    (.no)))
noncomputable def f_u5q (x0 : List AV) (x1 : List AV) : Option B_u5q := lock (tr_u5q x0 x1).ev
theorem f_u5q_eq (x0 : List AV) (x1 : List AV) : f_u5q x0 x1 = (tr_u5q x0 x1).ev := lock_eq _
theorem c_u5q : FH IP 42 p_u5q r_u5q (fun (v : List AV × List AV) => (f_u5q v.1 v.2 : Option B_u5q)) := fun_FH (F := F42) (L := [(1004200, ll_u4q)]) (t := fun (v : List AV × List AV) => tr_u5q v.1 v.2) T76_ok (LOk_of (l := [loopAt F42 0]) (by kernel_rfl) ⟨sel_one (by kernel_rfl) t_u4q, trivial⟩) (by kernel_rfl) (fun v => by kernel_rfl) (fun v => f_u5q_eq v.1 v.2)
noncomputable def T77 : Tab := (42, FE p_u5q r_u5q (fun (v : List AV × List AV) => (f_u5q v.1 v.2 : Option B_u5q))) :: T76
theorem T77_ok : TabOk IP T77 := ⟨FE_ok c_u5q, T76_ok⟩
abbrev B_u45q : Type := Bool
def p_u45q : PArgs := ⟨[.agg [.str, .int .i64, .int .i64, .int .i64, .str, .view 4], .agg [.str, .int .i64, .int .i64, .int .i64, .str, .view 4]], []⟩
def r_u45q : List PRes := [⟨false, .bool, []⟩]
noncomputable def tr_u45q (x0 : List UInt8) (x1 : Int) (x2 : Int) (x3 : Int) (x4 : List UInt8) (x5 : List AV) (x6 : List UInt8) (x7 : Int) (x8 : Int) (x9 : Int) (x10 : List UInt8) (x11 : List AV) : DT B_u45q :=
 .bi (br (x0 == x6) (some (x1 == x7)) (some false)) (fun y0 =>
  .bi (br y0 (br (sm (f_u109q x2 x3 x4 x5 x8 x9 x10 x11)) (some (gv (f_u109q x2 x3 x4 x5 x8 x9 x10 x11))) none) (some false)) (fun y1 =>
   .at (y1))
   (.no))
  (.no)
noncomputable def f_u45q (x0 : List UInt8) (x1 : Int) (x2 : Int) (x3 : Int) (x4 : List UInt8) (x5 : List AV) (x6 : List UInt8) (x7 : Int) (x8 : Int) (x9 : Int) (x10 : List UInt8) (x11 : List AV) : Option B_u45q := lock (tr_u45q x0 x1 x2 x3 x4 x5 x6 x7 x8 x9 x10 x11).ev
theorem f_u45q_eq (x0 : List UInt8) (x1 : Int) (x2 : Int) (x3 : Int) (x4 : List UInt8) (x5 : List AV) (x6 : List UInt8) (x7 : Int) (x8 : Int) (x9 : Int) (x10 : List UInt8) (x11 : List AV) : f_u45q x0 x1 x2 x3 x4 x5 x6 x7 x8 x9 x10 x11 = (tr_u45q x0 x1 x2 x3 x4 x5 x6 x7 x8 x9 x10 x11).ev := lock_eq _
theorem c_u45q : FH IP 46 p_u45q r_u45q (fun (v : List UInt8 × Int × Int × Int × List UInt8 × List AV × List UInt8 × Int × Int × Int × List UInt8 × List AV) => (f_u45q v.1 v.2.1 v.2.2.1 v.2.2.2.1 v.2.2.2.2.1 v.2.2.2.2.2.1 v.2.2.2.2.2.2.1 v.2.2.2.2.2.2.2.1 v.2.2.2.2.2.2.2.2.1 v.2.2.2.2.2.2.2.2.2.1 v.2.2.2.2.2.2.2.2.2.2.1 v.2.2.2.2.2.2.2.2.2.2.2 : Option B_u45q)) := fun_FH (F := F46) (L := []) (t := fun (v : List UInt8 × Int × Int × Int × List UInt8 × List AV × List UInt8 × Int × Int × Int × List UInt8 × List AV) => tr_u45q v.1 v.2.1 v.2.2.1 v.2.2.2.1 v.2.2.2.2.1 v.2.2.2.2.2.1 v.2.2.2.2.2.2.1 v.2.2.2.2.2.2.2.1 v.2.2.2.2.2.2.2.2.1 v.2.2.2.2.2.2.2.2.2.1 v.2.2.2.2.2.2.2.2.2.2.1 v.2.2.2.2.2.2.2.2.2.2.2) T77_ok (LOk_of (l := []) (by kernel_rfl) trivial) (by kernel_rfl) (fun v => by kernel_rfl) (fun v => f_u45q_eq v.1 v.2.1 v.2.2.1 v.2.2.2.1 v.2.2.2.2.1 v.2.2.2.2.2.1 v.2.2.2.2.2.2.1 v.2.2.2.2.2.2.2.1 v.2.2.2.2.2.2.2.2.1 v.2.2.2.2.2.2.2.2.2.1 v.2.2.2.2.2.2.2.2.2.2.1 v.2.2.2.2.2.2.2.2.2.2.2)
noncomputable def T78 : Tab := (46, FE p_u45q r_u45q (fun (v : List UInt8 × Int × Int × Int × List UInt8 × List AV × List UInt8 × Int × Int × Int × List UInt8 × List AV) => (f_u45q v.1 v.2.1 v.2.2.1 v.2.2.2.1 v.2.2.2.2.1 v.2.2.2.2.2.1 v.2.2.2.2.2.2.1 v.2.2.2.2.2.2.2.1 v.2.2.2.2.2.2.2.2.1 v.2.2.2.2.2.2.2.2.2.1 v.2.2.2.2.2.2.2.2.2.2.1 v.2.2.2.2.2.2.2.2.2.2.2 : Option B_u45q))) :: T77
theorem T78_ok : TabOk IP T78 := ⟨FE_ok c_u45q, T77_ok⟩
abbrev TT_u1q : Type := List AV × List AV × Int × Int
def hs_u1q : List PSt := [⟨[(1004500, .junk), (1, .view 6), (2, .fn (.func 46) []), (15, .view 6), (16, .int .i64), (17, .int .i64)], [], 0, 0⟩]
noncomputable def x_u1q_0 (x0 : List AV) (x1 : List AV) (x2 : Int) (x3 : Int) : X × St := (X.ret, { tm := [(6, AV.bool false)], hp := [], nx := 0, k := 0 })
noncomputable def x_u1q_1 (x0 : List AV) (x1 : List AV) (x2 : Int) (x3 : Int) : X × St := (X.exit 0, { tm := [(6, AV.junk)], hp := [], nx := 0, k := 0 })
noncomputable def x_u1q : List (TT_u1q → X × St) := [fun w => x_u1q_0 w.1 w.2.1 w.2.2.1 w.2.2.2, fun w => x_u1q_1 w.1 w.2.1 w.2.2.1 w.2.2.2]
noncomputable def st_u1q_0 (x0 : List AV) (x1 : List AV) (x2 : Int) (x3 : Int) : DT (Rd TT_u1q) :=
 .br (decide (x3 < x2))
  (.br (okAt [CS.str, CS.int IntKind.i64, CS.int IntKind.i64, CS.int IntKind.i64, CS.str, CS.slice 4] x1 x3)
   (.br (okAt [CS.str, CS.int IntKind.i64, CS.int IntKind.i64, CS.int IntKind.i64, CS.str, CS.slice 4] x0 x3)
    (.bi (f_u45q (strOf (cellAt x1 x3 0)) (intOf (cellAt x1 x3 1)) (intOf (cellAt x1 x3 2)) (intOf (cellAt x1 x3 3)) (strOf (cellAt x1 x3 4)) (viewOf (cellAt x1 x3 5))
        (strOf (cellAt x0 x3 0)) (intOf (cellAt x0 x3 1)) (intOf (cellAt x0 x3 2)) (intOf (cellAt x0 x3 3)) (strOf (cellAt x0 x3 4)) (viewOf (cellAt x0 x3 5))) (fun y0 =>
     .br (!y0) (.at (.done 0)) (.at (.next ((x0, x1, x2, IntKind.i64.wrap (x3 + 1))))))
     (.no))
    (.no))
   (.no))
  (.at (.done 1))
noncomputable def st_u1q : TT_u1q → DT (Rd TT_u1q) := (fun v => st_u1q_0 v.1 v.2.1 v.2.2.1 v.2.2.2)
noncomputable def l_u1q (v : TT_u1q) : Option (Nat × TT_u1q) := lock (iterO (fun v => (st_u1q v).ev) v)
theorem l_u1q_eq (v : TT_u1q) : l_u1q v = iterO (fun v => (st_u1q v).ev) v := lock_eq _
noncomputable def ll_u1q : LEnt := LE (τ := TT_u1q) (hD hs_u1q) (l_u1q) x_u1q
theorem t_u1q : Go.Eng.Told IP (loopAt F45 0).1 (loopAt F45 0).2 (ll_u1q) := loop_LE (inferInstance : Inhabited TT_u1q) (hs := hs_u1q) (st := st_u1q) (L := []) T78_ok (LOk_of (l := []) (by kernel_rfl) trivial) (l_u1q_eq) (fun v => by kernel_rfl) (fun v => by kernel_rfl)
abbrev B_u3q : Type := Bool
def p_u3q : PArgs := ⟨[.view 6, .view 6, .fn (.func 46) []], []⟩
def r_u3q : List PRes := [⟨false, .bool, []⟩]
noncomputable def tr_u3q (x0 : List AV) (x1 : List AV) : DT B_u3q :=
 .br ((↑x0.length : Int) != (↑x1.length : Int))
  (.at (false))
  (.bi (pj 0 (l_u1q (x1, x0, (↑x0.length : Int), 0))) (fun y0 =>
   .at (false))
   (.bi (pj 1 (l_u1q (x1, x0, (↑x0.length : Int), 0))) (fun y0 =>
    .at (true))
    (.no)))
noncomputable def f_u3q (x0 : List AV) (x1 : List AV) : Option B_u3q := lock (tr_u3q x0 x1).ev
theorem f_u3q_eq (x0 : List AV) (x1 : List AV) : f_u3q x0 x1 = (tr_u3q x0 x1).ev := lock_eq _
theorem c_u3q : FH IP 45 p_u3q r_u3q (fun (v : List AV × List AV) => (f_u3q v.1 v.2 : Option B_u3q)) := fun_FH (F := F45) (L := [(1004500, ll_u1q)]) (t := fun (v : List AV × List AV) => tr_u3q v.1 v.2) T78_ok (LOk_of (l := [loopAt F45 0]) (by kernel_rfl) ⟨sel_one (by kernel_rfl) t_u1q, trivial⟩) (by kernel_rfl) (fun v => by kernel_rfl) (fun v => f_u3q_eq v.1 v.2)
noncomputable def T79 : Tab := (45, FE p_u3q r_u3q (fun (v : List AV × List AV) => (f_u3q v.1 v.2 : Option B_u3q))) :: T78
theorem T79_ok : TabOk IP T79 := ⟨FE_ok c_u3q, T78_ok⟩
abbrev B_u71q : Type := Bool
def p_u71q : PArgs := ⟨[.agg [.str, .str, .str, .int .i64, .int .i64, .int .i64, .int .i64, .view 2, .bool, .int .i64, .int .i64, .bool, .view 2, .bool, .int .i64, .int .i64, .bool, .view 10, .view 6], .agg [.str, .str, .str, .int .i64, .int .i64, .int .i64, .int .i64, .view 2, .bool, .int .i64, .int .i64, .bool, .view 2, .bool, .int .i64, .int .i64, .bool, .view 10, .view 6]], []⟩
def r_u71q : List PRes := [⟨false, .bool, []⟩]
noncomputable def tr_u71q (x0 : List UInt8) (x1 : List UInt8) (x2 : List UInt8) (x3 : Int) (x4 : Int) (x5 : Int) (x6 : Int) (x7 : List AV) (x8 : Bool) (x9 : Int) (x10 : Int) (x11 : Bool) (x12 : List AV) (x13 : Bool) (x14 : Int) (x15 : Int) (x16 : Bool) (x17 : List AV) (x18 : List AV) (x19 : List UInt8) (x20 : List UInt8) (x21 : List UInt8) (x22 : Int) (x23 : Int) (x24 : Int) (x25 : Int) (x26 : List AV) (x27 : Bool) (x28 : Int) (x29 : Int) (x30 : Bool) (x31 : List AV) (x32 : Bool) (x33 : Int) (x34 : Int) (x35 : Bool) (x36 : List AV) (x37 : List AV) : DT B_u71q :=
 .bi (br (!x0 == x19) (some true) (some !x1 == x20)) (fun y0 =>
  .bi (br y0 (some true) (some !x2 == x21)) (fun y1 =>
   .bi (br y1 (some true) (some (x3 != x22))) (fun y2 =>
    .bi (br y2 (some true) (some (x4 != x23))) (fun y3 =>
     .bi (br y3 (some true) (some (x5 != x24))) (fun y4 =>
      .bi (br y4 (some true) (some (x6 != x25))) (fun y5 =>
       .br (y5)
        (.at (false))
        (.bi (f_u25q x7 x8 x9 x10 x11 x26 x27 x28 x29 x30) (fun y6 =>
         .bi (br (!y6) (some true) (br (sm (f_u25q x12 x13 x14 x15 x16 x31 x32 x33 x34 x35)) (some !gv (f_u25q x12 x13 x14 x15 x16 x31 x32 x33 x34 x35)) none)) (fun y7 =>
          .br (y7)
           (.at (false))
           (.bi (f_u5q x17 x36) (fun y8 =>
            .bi (br y8 (br (sm (f_u3q x18 x37)) (some (gv (f_u3q x18 x37))) none) (some false)) (fun y9 =>
             .at (y9))
             (.no))
            (.no)))
          (.no))
         (.no)))
       (.no))
      (.no))
     (.no))
    (.no))
   (.no))
  (.no)
noncomputable def f_u71q (x0 : List UInt8) (x1 : List UInt8) (x2 : List UInt8) (x3 : Int) (x4 : Int) (x5 : Int) (x6 : Int) (x7 : List AV) (x8 : Bool) (x9 : Int) (x10 : Int) (x11 : Bool) (x12 : List AV) (x13 : Bool) (x14 : Int) (x15 : Int) (x16 : Bool) (x17 : List AV) (x18 : List AV) (x19 : List UInt8) (x20 : List UInt8) (x21 : List UInt8) (x22 : Int) (x23 : Int) (x24 : Int) (x25 : Int) (x26 : List AV) (x27 : Bool) (x28 : Int) (x29 : Int) (x30 : Bool) (x31 : List AV) (x32 : Bool) (x33 : Int) (x34 : Int) (x35 : Bool) (x36 : List AV) (x37 : List AV) : Option B_u71q := lock (tr_u71q x0 x1 x2 x3 x4 x5 x6 x7 x8 x9 x10 x11 x12 x13 x14 x15 x16 x17 x18 x19 x20 x21 x22 x23 x24 x25 x26 x27 x28 x29 x30 x31 x32 x33 x34 x35 x36 x37).ev
theorem f_u71q_eq (x0 : List UInt8) (x1 : List UInt8) (x2 : List UInt8) (x3 : Int) (x4 : Int) (x5 : Int) (x6 : Int) (x7 : List AV) (x8 : Bool) (x9 : Int) (x10 : Int) (x11 : Bool) (x12 : List AV) (x13 : Bool) (x14 : Int) (x15 : Int) (x16 : Bool) (x17 : List AV) (x18 : List AV) (x19 : List UInt8) (x20 : List UInt8) (x21 : List UInt8) (x22 : Int) (x23 : Int) (x24 : Int) (x25 : Int) (x26 : List AV) (x27 : Bool) (x28 : Int) (x29 : Int) (x30 : Bool) (x31 : List AV) (x32 : Bool) (x33 : Int) (x34 : Int) (x35 : Bool) (x36 : List AV) (x37 : List AV) : f_u71q x0 x1 x2 x3 x4 x5 x6 x7 x8 x9 x10 x11 x12 x13 x14 x15 x16 x17 x18 x19 x20 x21 x22 x23 x24 x25 x26 x27 x28 x29 x30 x31 x32 x33 x34 x35 x36 x37 = (tr_u71q x0 x1 x2 x3 x4 x5 x6 x7 x8 x9 x10 x11 x12 x13 x14 x15 x16 x17 x18 x19 x20 x21 x22 x23 x24 x25 x26 x27 x28 x29 x30 x31 x32 x33 x34 x35 x36 x37).ev := lock_eq _
theorem c_u71q : FH IP 20 p_u71q r_u71q (fun (v : List UInt8 × List UInt8 × List UInt8 × Int × Int × Int × Int × List AV × Bool × Int × Int × Bool × List AV × Bool × Int × Int × Bool × List AV × List AV × List UInt8 × List UInt8 × List UInt8 × Int × Int × Int × Int × List AV × Bool × Int × Int × Bool × List AV × Bool × Int × Int × Bool × List AV × List AV) => (f_u71q v.1 v.2.1 v.2.2.1 v.2.2.2.1 v.2.2.2.2.1 v.2.2.2.2.2.1 v.2.2.2.2.2.2.1 v.2.2.2.2.2.2.2.1 v.2.2.2.2.2.2.2.2.1 v.2.2.2.2.2.2.2.2.2.1 v.2.2.2.2.2.2.2.2.2.2.1 v.2.2.2.2.2.2.2.2.2.2.2.1 v.2.2.2.2.2.2.2.2.2.2.2.2.1 v.2.2.2.2.2.2.2.2.2.2.2.2.2.1 v.2.2.2.2.2.2.2.2.2.2.2.2.2.2.1 v.2.2.2.2.2.2.2.2.2.2.2.2.2.2.2.1 v.2.2.2.2.2.2.2.2.2.2.2.2.2.2.2.2.1 v.2.2.2.2.2.2.2.2.2.2.2.2.2.2.2.2.2.1 v.2.2.2.2.2.2.2.2.2.2.2.2.2.2.2.2.2.2.1 v.2.2.2.2.2.2.2.2.2.2.2.2.2.2.2.2.2.2.2.1 v.2.2.2.2.2.2.2.2.2.2.2.2.2.2.2.2.2.2.2.2.1 v.2.2.2.2.2.2.2.2.2.2.2.2.2.2.2.2.2.2.2.2.2.1 v.2.2.2.2.2.2.2.2.2.2.2.2.2.2.2.2.2.2.2.2.2.2.1 v.2.2.2.2.2.2.2.2.2.2.2.2.2.2.2.2.2.2.2.2.2.2.2.1 v.2.2.2.2.2.2.2.2.2.2.2.2.2.2.2.2.2.2.2.2.2.2.2.2.1 v.2.2.2.2.2.2.2.2.2.2.2.2.2.2.2.2.2.2.2.2.2.2.2.2.2.1 v.2.2.2.2.2.2.2.2.2.2.2.2.2.2.2.2.2.2.2.2.2.2.2.2.2.2.1 v.2.2.2.2.2.2.2.2.2.2.2.2.2.2.2.2.2.2.2.2.2.2.2.2.2.2.2.1 v.2.2.2.2.2.2.2.2.2.2.2.2.2.2.2.2.2.2.2.2.2.2.2.2.2.2.2.2.1 v.2.2.2.2.2.2.2.2.2.2.2.2.2.2.2.2.2.2.2.2.2.2.2.2.2.2.2.2.2.1 v.2.2.2.2.2.2.2.2.2.2.2.2.2.2.2.2.2.2.2.2.2.2.2.2.2.2.2.2.2.2.1 v.2.2.2.2.2.2.2.2.2.2.2.2.2.2.2.2.2.2.2.2.2.2.2.2.2.2.2.2.2.2.2.1 v.2.2.2.2.2.2.2.2.2.2.2.2.2.2.2.2.2.2.2.2.2.2.2.2.2.2.2.2.2.2.2.2.1 v.2.2.2.2.2.2.2.2.2.2.2.2.2.2.2.2.2.2.2.2.2.2.2.2.2.2.2.2.2.2.2.2.2.1 v.2.2.2.2.2.2.2.2.2.2.2.2.2.2.2.2.2.2.2.2.2.2.2.2.2.2.2.2.2.2.2.2.2.2.1 v.2.2.2.2.2.2.2.2.2.2.2.2.2.2.2.2.2.2.2.2.2.2.2.2.2.2.2.2.2.2.2.2.2.2.2.1 v.2.2.2.2.2.2.2.2.2.2.2.2.2.2.2.2.2.2.2.2.2.2.2.2.2.2.2.2.2.2.2.2.2.2.2.2.1 v.2.2.2.2.2.2.2.2.2.2.2.2.2.2.2.2.2.2.2.2.2.2.2.2.2.2.2.2.2.2.2.2.2.2.2.2.2 : Option B_u71q)) := fun_FH (F := F20) (L := []) (t := fun (v : List UInt8 × List UInt8 × List UInt8 × Int × Int × Int × Int × List AV × Bool × Int × Int × Bool × List AV × Bool × Int × Int × Bool × List AV × List AV × List UInt8 × List UInt8 × List UInt8 × Int × Int × Int × Int × List AV × Bool × Int × Int × Bool × List AV × Bool × Int × Int × Bool × List AV × List AV) => tr_u71q v.1 v.2.1 v.2.2.1 v.2.2.2.1 v.2.2.2.2.1 v.2.2.2.2.2.1 v.2.2.2.2.2.2.1 v.2.2.2.2.2.2.2.1 v.2.2.2.2.2.2.2.2.1 v.2.2.2.2.2.2.2.2.2.1 v.2.2.2.2.2.2.2.2.2.2.1 v.2.2.2.2.2.2.2.2.2.2.2.1 v.2.2.2.2.2.2.2.2.2.2.2.2.1 v.2.2.2.2.2.2.2.2.2.2.2.2.2.1 v.2.2.2.2.2.2.2.2.2.2.2.2.2.2.1 v.2.2.2.2.2.2.2.2.2.2.2.2.2.2.2.1 v.2.2.2.2.2.2.2.2.2.2.2.2.2.2.2.2.1 v.2.2.2.2.2.2.2.2.2.2.2.2.2.2.2.2.2.1 v.2.2.2.2.2.2.2.2.2.2.2.2.2.2.2.2.2.2.1 v.2.2.2.2.2.2.2.2.2.2.2.2.2.2.2.2.2.2.2.1 v.2.2.2.2.2.2.2.2.2.2.2.2.2.2.2.2.2.2.2.2.1 v.2.2.2.2.2.2.2.2.2.2.2.2.2.2.2.2.2.2.2.2.2.1 v.2.2.2.2.2.2.2.2.2.2.2.2.2.2.2.2.2.2.2.2.2.2.1 v.2.2.2.2.2.2.2.2.2.2.2.2.2.2.2.2.2.2.2.2.2.2.2.1 v.2.2.2.2.2.2.2.2.2.2.2.2.2.2.2.2.2.2.2.2.2.2.2.2.1 v.2.2.2.2.2.2.2.2.2.2.2.2.2.2.2.2.2.2.2.2.2.2.2.2.2.1 v.2.2.2.2.2.2.2.2.2.2.2.2.2.2.2.2.2.2.2.2.2.2.2.2.2.2.1 v.2.2.2.2.2.2.2.2.2.2.2.2.2.2.2.2.2.2.2.2.2.2.2.2.2.2.2.1 v.2.2.2.2.2.2.2.2.2.2.2.2.2.2.2.2.2.2.2.2.2.2.2.2.2.2.2.2.1 v.2.2.2.2.2.2.2.2.2.2.2.2.2.2.2.2.2.2.2.2.2.2.2.2.2.2.2.2.2.1 v.2.2.2.2.2.2.2.2.2.2.2.2.2.2.2.2.2.2.2.2.2.2.2.2.2.2.2.2.2.2.1 v.2.2.2.2.2.2.2.2.2.2.2.2.2.2.2.2.2.2.2.2.2.2.2.2.2.2.2.2.2.2.2.1 v.2.2.2.2.2.2.2.2.2.2.2.2.2.2.2.2.2.2.2.2.2.2.2.2.2.2.2.2.2.2.2.2.1 v.2.2.2.2.2.2.2.2.2.2.2.2.2.2.2.2.2.2.2.2.2.2.2.2.2.2.2.2.2.2.2.2.2.1 v.2.2.2.2.2.2.2.2.2.2.2.2.2.2.2.2.2.2.2.2.2.2.2.2.2.2.2.2.2.2.2.2.2.2.1 v.2.2.2.2.2.2.2.2.2.2.2.2.2.2.2.2.2.2.2.2.2.2.2.2.2.2.2.2.2.2.2.2.2.2.2.1 v.2.2.2.2.2.2.2.2.2.2.2.2.2.2.2.2.2.2.2.2.2.2.2.2.2.2.2.2.2.2.2.2.2.2.2.2.1 v.2.2.2.2.2.2.2.2.2.2.2.2.2.2.2.2.2.2.2.2.2.2.2.2.2.2.2.2.2.2.2.2.2.2.2.2.2) T79_ok (LOk_of (l := []) (by kernel_rfl) trivial) (by kernel_rfl) (fun v => by kernel_rfl) (fun v => f_u71q_eq v.1 v.2.1 v.2.2.1 v.2.2.2.1 v.2.2.2.2.1 v.2.2.2.2.2.1 v.2.2.2.2.2.2.1 v.2.2.2.2.2.2.2.1 v.2.2.2.2.2.2.2.2.1 v.2.2.2.2.2.2.2.2.2.1 v.2.2.2.2.2.2.2.2.2.2.1 v.2.2.2.2.2.2.2.2.2.2.2.1 v.2.2.2.2.2.2.2.2.2.2.2.2.1 v.2.2.2.2.2.2.2.2.2.2.2.2.2.1 v.2.2.2.2.2.2.2.2.2.2.2.2.2.2.1 v.2.2.2.2.2.2.2.2.2.2.2.2.2.2.2.1 v.2.2.2.2.2.2.2.2.2.2.2.2.2.2.2.2.1 v.2.2.2.2.2.2.2.2.2.2.2.2.2.2.2.2.2.1 v.2.2.2.2.2.2.2.2.2.2.2.2.2.2.2.2.2.2.1 v.2.2.2.2.2.2.2.2.2.2.2.2.2.2.2.2.2.2.2.1 v.2.2.2.2.2.2.2.2.2.2.2.2.2.2.2.2.2.2.2.2.1 v.2.2.2.2.2.2.2.2.2.2.2.2.2.2.2.2.2.2.2.2.2.1 v.2.2.2.2.2.2.2.2.2.2.2.2.2.2.2.2.2.2.2.2.2.2.1 v.2.2.2.2.2.2.2.2.2.2.2.2.2.2.2.2.2.2.2.2.2.2.2.1 v.2.2.2.2.2.2.2.2.2.2.2.2.2.2.2.2.2.2.2.2.2.2.2.2.1 v.2.2.2.2.2.2.2.2.2.2.2.2.2.2.2.2.2.2.2.2.2.2.2.2.2.1 v.2.2.2.2.2.2.2.2.2.2.2.2.2.2.2.2.2.2.2.2.2.2.2.2.2.2.1 v.2.2.2.2.2.2.2.2.2.2.2.2.2.2.2.2.2.2.2.2.2.2.2.2.2.2.2.1 v.2.2.2.2.2.2.2.2.2.2.2.2.2.2.2.2.2.2.2.2.2.2.2.2.2.2.2.2.1 v.2.2.2.2.2.2.2.2.2.2.2.2.2.2.2.2.2.2.2.2.2.2.2.2.2.2.2.2.2.1 v.2.2.2.2.2.2.2.2.2.2.2.2.2.2.2.2.2.2.2.2.2.2.2.2.2.2.2.2.2.2.1 v.2.2.2.2.2.2.2.2.2.2.2.2.2.2.2.2.2.2.2.2.2.2.2.2.2.2.2.2.2.2.2.1 v.2.2.2.2.2.2.2.2.2.2.2.2.2.2.2.2.2.2.2.2.2.2.2.2.2.2.2.2.2.2.2.2.1 v.2.2.2.2.2.2.2.2.2.2.2.2.2.2.2.2.2.2.2.2.2.2.2.2.2.2.2.2.2.2.2.2.2.1 v.2.2.2.2.2.2.2.2.2.2.2.2.2.2.2.2.2.2.2.2.2.2.2.2.2.2.2.2.2.2.2.2.2.2.1 v.2.2.2.2.2.2.2.2.2.2.2.2.2.2.2.2.2.2.2.2.2.2.2.2.2.2.2.2.2.2.2.2.2.2.2.1 v.2.2.2.2.2.2.2.2.2.2.2.2.2.2.2.2.2.2.2.2.2.2.2.2.2.2.2.2.2.2.2.2.2.2.2.2.1 v.2.2.2.2.2.2.2.2.2.2.2.2.2.2.2.2.2.2.2.2.2.2.2.2.2.2.2.2.2.2.2.2.2.2.2.2.2)
noncomputable def T80 : Tab := (20, FE p_u71q r_u71q (fun (v : List UInt8 × List UInt8 × List UInt8 × Int × Int × Int × Int × List AV × Bool × Int × Int × Bool × List AV × Bool × Int × Int × Bool × List AV × List AV × List UInt8 × List UInt8 × List UInt8 × Int × Int × Int × Int × List AV × Bool × Int × Int × Bool × List AV × Bool × Int × Int × Bool × List AV × List AV) => (f_u71q v.1 v.2.1 v.2.2.1 v.2.2.2.1 v.2.2.2.2.1 v.2.2.2.2.2.1 v.2.2.2.2.2.2.1 v.2.2.2.2.2.2.2.1 v.2.2.2.2.2.2.2.2.1 v.2.2.2.2.2.2.2.2.2.1 v.2.2.2.2.2.2.2.2.2.2.1 v.2.2.2.2.2.2.2.2.2.2.2.1 v.2.2.2.2.2.2.2.2.2.2.2.2.1 v.2.2.2.2.2.2.2.2.2.2.2.2.2.1 v.2.2.2.2.2.2.2.2.2.2.2.2.2.2.1 v.2.2.2.2.2.2.2.2.2.2.2.2.2.2.2.1 v.2.2.2.2.2.2.2.2.2.2.2.2.2.2.2.2.1 v.2.2.2.2.2.2.2.2.2.2.2.2.2.2.2.2.2.1 v.2.2.2.2.2.2.2.2.2.2.2.2.2.2.2.2.2.2.1 v.2.2.2.2.2.2.2.2.2.2.2.2.2.2.2.2.2.2.2.1 v.2.2.2.2.2.2.2.2.2.2.2.2.2.2.2.2.2.2.2.2.1 v.2.2.2.2.2.2.2.2.2.2.2.2.2.2.2.2.2.2.2.2.2.1 v.2.2.2.2.2.2.2.2.2.2.2.2.2.2.2.2.2.2.2.2.2.2.1 v.2.2.2.2.2.2.2.2.2.2.2.2.2.2.2.2.2.2.2.2.2.2.2.1 v.2.2.2.2.2.2.2.2.2.2.2.2.2.2.2.2.2.2.2.2.2.2.2.2.1 v.2.2.2.2.2.2.2.2.2.2.2.2.2.2.2.2.2.2.2.2.2.2.2.2.2.1 v.2.2.2.2.2.2.2.2.2.2.2.2.2.2.2.2.2.2.2.2.2.2.2.2.2.2.1 v.2.2.2.2.2.2.2.2.2.2.2.2.2.2.2.2.2.2.2.2.2.2.2.2.2.2.2.1 v.2.2.2.2.2.2.2.2.2.2.2.2.2.2.2.2.2.2.2.2.2.2.2.2.2.2.2.2.1 v.2.2.2.2.2.2.2.2.2.2.2.2.2.2.2.2.2.2.2.2.2.2.2.2.2.2.2.2.2.1 v.2.2.2.2.2.2.2.2.2.2.2.2.2.2.2.2.2.2.2.2.2.2.2.2.2.2.2.2.2.2.1 v.2.2.2.2.2.2.2.2.2.2.2.2.2.2.2.2.2.2.2.2.2.2.2.2.2.2.2.2.2.2.2.1 v.2.2.2.2.2.2.2.2.2.2.2.2.2.2.2.2.2.2.2.2.2.2.2.2.2.2.2.2.2.2.2.2.1 v.2.2.2.2.2.2.2.2.2.2.2.2.2.2.2.2.2.2.2.2.2.2.2.2.2.2.2.2.2.2.2.2.2.1 v.2.2.2.2.2.2.2.2.2.2.2.2.2.2.2.2.2.2.2.2.2.2.2.2.2.2.2.2.2.2.2.2.2.2.1 v.2.2.2.2.2.2.2.2.2.2.2.2.2.2.2.2.2.2.2.2.2.2.2.2.2.2.2.2.2.2.2.2.2.2.2.1 v.2.2.2.2.2.2.2.2.2.2.2.2.2.2.2.2.2.2.2.2.2.2.2.2.2.2.2.2.2.2.2.2.2.2.2.2.1 v.2.2.2.2.2.2.2.2.2.2.2.2.2.2.2.2.2.2.2.2.2.2.2.2.2.2.2.2.2.2.2.2.2.2.2.2.2 : Option B_u71q))) :: T79
theorem T80_ok : TabOk IP T80 := ⟨FE_ok c_u71q, T79_ok⟩
end Go.Proofs.H15v

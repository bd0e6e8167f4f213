/- Functions over plain data. Printed by a program of mine. -/
import Derived.Test.YthljpgljbpdmjaaGreatDoorE3
import Derived.Test.YthljpgljbpdmjaaGreatDoorIP15e
import Derived.KernelRfl
set_option linter.unusedVariables false
set_option linter.unusedSimpArgs false
set_option linter.unnecessarySimpa false
namespace Go.Proofs.H15e
open Go Go.Eng
set_option maxRecDepth 100000
noncomputable def T0 : Tab := [(152, countE), (188, fieldsE), (191, idxE), (186, parseE 223), (200, atoiE 223), (38, cloneE 2 16), (58, cloneE 4 56), (70, cloneE 1 8)]
theorem T0_ok : TabOk IP T0 := ⟨sp152, sp188, sp191, sp186, sp200, sp38, sp58, sp70, trivial⟩
abbrev B_u122q : Type := Bool
def p_u122q : PArgs := ⟨[.agg [.int .i64, .int .i64, .str, .view 4], .int .i64], []⟩
def r_u122q : List PRes := [⟨false, .bool, []⟩]
abbrev GT_u122q : Type := Int → Int → (List UInt8) → (List AV) → Int → Option B_u122q
def GH_u122q (G_u122q : GT_u122q) : Prop := FH IP 26 p_u122q r_u122q (fun (v : Int × Int × List UInt8 × List AV × Int) => (G_u122q v.1 v.2.1 v.2.2.1 v.2.2.2.1 v.2.2.2.2 : Option B_u122q))
noncomputable def TG_u122q (G_u122q : GT_u122q) : Tab := (26, FE p_u122q r_u122q (fun (v : Int × Int × List UInt8 × List AV × Int) => (G_u122q v.1 v.2.1 v.2.2.1 v.2.2.2.1 v.2.2.2.2 : Option B_u122q))) :: T0
theorem TG_u122q_ok (G_u122q : GT_u122q) (hG : GH_u122q G_u122q) : TabOk IP (TG_u122q G_u122q) := ⟨FE_ok (hG), T0_ok⟩
abbrev TT_u100q : Type := Int × Int × Int × Int × List UInt8 × List AV
def hs_u100q : List PSt := [⟨[(1002600, .junk), (1, .int .i64), (2, .ref 0 0 0), (5, .int .i64)], [(0, .box [.int .i64, .int .i64, .str, .view 4] false)], 1, 0⟩]
noncomputable def x_u100q_0 (x0 x1 : Int) (x2 x3 : Int) (x4 : List UInt8) (x5 : List AV) : X × St := (X.ret, { tm := [(4, AV.bool true)], hp := [], nx := 0, k := 0 })
noncomputable def x_u100q_1 (x0 x1 : Int) (x2 x3 : Int) (x4 : List UInt8) (x5 : List AV) : X × St := (X.exit 0, { tm := [(4, AV.junk)], hp := [], nx := 0, k := 0 })
noncomputable def x_u100q : List (TT_u100q → X × St) := [fun w => x_u100q_0 w.1 w.2.1 w.2.2.1 w.2.2.2.1 w.2.2.2.2.1 w.2.2.2.2.2, fun w => x_u100q_1 w.1 w.2.1 w.2.2.1 w.2.2.2.1 w.2.2.2.2.1 w.2.2.2.2.2]
noncomputable def st_u100q_0 (G_u122q : GT_u122q) (x0 x1 : Int) (x2 x3 : Int) (x4 : List UInt8) (x5 : List AV) : DT (Rd TT_u100q) :=
 .br (decide (x1 < (↑x5.length : Int)))
  (.br (okAt [CS.int IntKind.i64, CS.int IntKind.i64, CS.str, CS.slice 4] x5 x1)
   (.bi (G_u122q (intOf (cellAt x5 x1 0)) (intOf (cellAt x5 x1 1)) (strOf (cellAt x5 x1 2)) (viewOf (cellAt x5 x1 3)) (IntKind.i64.wrap (x0 - 1))) (fun y0 =>
    .br (y0) (.at (.done 0)) (.at (.next ((x0, IntKind.i64.wrap (x1 + 1), x2, x3, x4, x5)))))
    (.no))
   (.no))
  (.at (.done 1))
noncomputable def st_u100q (G_u122q : GT_u122q) : TT_u100q → DT (Rd TT_u100q) := (fun v => st_u100q_0 G_u122q v.1 v.2.1 v.2.2.1 v.2.2.2.1 v.2.2.2.2.1 v.2.2.2.2.2)
noncomputable def l_u100q (G_u122q : GT_u122q) (v : TT_u100q) : Option (Nat × TT_u100q) := lock (iterO (fun v => (st_u100q G_u122q v).ev) v)
theorem l_u100q_eq (G_u122q : GT_u122q) (v : TT_u100q) : l_u100q G_u122q v = iterO (fun v => (st_u100q G_u122q v).ev) v := lock_eq _
noncomputable def ll_u100q (G_u122q : GT_u122q) : LEnt := LE (τ := TT_u100q) (hD hs_u100q) (l_u100q G_u122q) x_u100q
theorem t_u100q (G_u122q : GT_u122q) (hG : GH_u122q G_u122q) : Go.Eng.Told IP (loopAt F26 0).1 (loopAt F26 0).2 (ll_u100q G_u122q) := loop_LE (inferInstance : Inhabited TT_u100q) (hs := hs_u100q) (st := st_u100q G_u122q) (L := []) (TG_u122q_ok G_u122q hG) (LOk_of (l := []) (by kernel_rfl) trivial) (l_u100q_eq G_u122q) (fun v => by kernel_rfl) (fun v => by kernel_rfl)
noncomputable def tr_u122q (G_u122q : GT_u122q) (x0 x1 : Int) (x2 : List UInt8) (x3 : List AV) (x4 : Int) : DT B_u122q :=
 .bi (br (x4 == 0) (some true) (some (decide ((↑x3.length : Int) > 8)))) (fun y0 =>
  .bi (br y0 (some true) (some (decide ((↑x2.length : Int) > 40)))) (fun y1 =>
   .br (y1)
    (.at (true))
    (.bi (pj 0 (l_u100q G_u122q (x4, 0, x0, x1, x2, x3))) (fun y2 =>
     .at (true))
     (.bi (pj 1 (l_u100q G_u122q (x4, 0, x0, x1, x2, x3))) (fun y2 =>
      .at (false))
      (.no))))
   (.no))
  (.no)
noncomputable def N_u122q : Nat → GT_u122q
  | 0 => fun _ _ _ _ _ => none
  | n + 1 => fun x0 x1 x2 x3 x4 => (tr_u122q ((N_u122q n)) x0 x1 x2 x3 x4).ev
noncomputable def f_u122q (x0 x1 : Int) (x2 : List UInt8) (x3 : List AV) (x4 : Int) : Option B_u122q := limO fun n => (N_u122q n) x0 x1 x2 x3 x4
theorem N_u122q_ok : ∀ n, GH_u122q ((N_u122q n))
  | 0 => (fun v y h => nomatch h)
  | n + 1 => have hG := N_u122q_ok n
    fun_FH (F := F26) (L := [(1002600, ll_u100q ((N_u122q n)))]) (t := fun (v : Int × Int × List UInt8 × List AV × Int) => tr_u122q ((N_u122q n)) v.1 v.2.1 v.2.2.1 v.2.2.2.1 v.2.2.2.2) (TG_u122q_ok ((N_u122q n)) hG) (LOk_of (l := [loopAt F26 0]) (by kernel_rfl) ⟨sel_one (by kernel_rfl) (t_u100q ((N_u122q n)) hG), trivial⟩) (by kernel_rfl) (fun v => by kernel_rfl) (fun v => rfl)
theorem c_u122q : FH IP 26 p_u122q r_u122q (fun (v : Int × Int × List UInt8 × List AV × Int) => (f_u122q v.1 v.2.1 v.2.2.1 v.2.2.2.1 v.2.2.2.2 : Option B_u122q)) := lim_FH (p := p_u122q) (rs := r_u122q) (s := fun n (v : Int × Int × List UInt8 × List AV × Int) => (N_u122q n) v.1 v.2.1 v.2.2.1 v.2.2.2.1 v.2.2.2.2) fun n => (N_u122q_ok n)
noncomputable def T1 : Tab := (26, FE p_u122q r_u122q (fun (v : Int × Int × List UInt8 × List AV × Int) => (f_u122q v.1 v.2.1 v.2.2.1 v.2.2.2.1 v.2.2.2.2 : Option B_u122q))) :: T0
theorem T1_ok : TabOk IP T1 := ⟨FE_ok c_u122q, T0_ok⟩
abbrev TT_u115q : Type := Int × List UInt8 × List UInt8 × List UInt8 × Int × Int × Int × Int × List AV × Bool × Int × Int × Bool × List AV × Bool × Int × Int × Bool × List AV × List AV
def hs_u115q : List PSt := [⟨[(1001100, .junk), (1, .ref 0 0 0), (3, .int .i64)], [(0, .box [.str, .str, .str, .int .i64, .int .i64, .int .i64, .int .i64, .view 2, .bool, .int .i64, .int .i64, .bool, .view 2, .bool, .int .i64, .int .i64, .bool, .view 10, .view 6] false)], 1, 0⟩]
noncomputable def x_u115q_0 (x0 : Int) (x1 x2 x3 : List UInt8) (x4 x5 : Int) (x6 x7 : Int) (x8 : List AV) (x9 : Bool) (x10 x11 : Int) (x12 : Bool) (x13 : List AV) (x14 : Bool) (x15 x16 : Int) (x17 : Bool) (x18 x19 : List AV) : X × St := (X.ret,
  { tm := [(1, AV.ref 0 0 0), (2, AV.bool false)],
    hp :=
      [(0,
          Blk.box
            [AV.str x1, AV.str x2, AV.str x3, AV.int IntKind.i64 x4, AV.int IntKind.i64 x5, AV.int IntKind.i64 x6, AV.int IntKind.i64 x7, AV.view 2 x8, AV.bool x9,
              AV.int IntKind.i64 x10, AV.int IntKind.i64 x11, AV.bool x12, AV.view 2 x13, AV.bool x14, AV.int IntKind.i64 x15, AV.int IntKind.i64 x16, AV.bool x17, AV.view 10 x18,
              AV.view 6 x19]
            false)],
    nx := 1, k := 0 })
noncomputable def x_u115q_1 (x0 : Int) (x1 x2 x3 : List UInt8) (x4 x5 : Int) (x6 x7 : Int) (x8 : List AV) (x9 : Bool) (x10 x11 : Int) (x12 : Bool) (x13 : List AV) (x14 : Bool) (x15 x16 : Int) (x17 : Bool) (x18 x19 : List AV) : X × St := (X.exit 0,
  { tm := [(1, AV.ref 0 0 0), (2, AV.junk)],
    hp :=
      [(0,
          Blk.box
            [AV.str x1, AV.str x2, AV.str x3, AV.int IntKind.i64 x4, AV.int IntKind.i64 x5, AV.int IntKind.i64 x6, AV.int IntKind.i64 x7, AV.view 2 x8, AV.bool x9,
              AV.int IntKind.i64 x10, AV.int IntKind.i64 x11, AV.bool x12, AV.view 2 x13, AV.bool x14, AV.int IntKind.i64 x15, AV.int IntKind.i64 x16, AV.bool x17, AV.view 10 x18,
              AV.view 6 x19]
            false)],
    nx := 1, k := 0 })
noncomputable def x_u115q : List (TT_u115q → X × St) := [fun w => x_u115q_0 w.1 w.2.1 w.2.2.1 w.2.2.2.1 w.2.2.2.2.1 w.2.2.2.2.2.1 w.2.2.2.2.2.2.1 w.2.2.2.2.2.2.2.1 w.2.2.2.2.2.2.2.2.1 w.2.2.2.2.2.2.2.2.2.1 w.2.2.2.2.2.2.2.2.2.2.1 w.2.2.2.2.2.2.2.2.2.2.2.1 w.2.2.2.2.2.2.2.2.2.2.2.2.1 w.2.2.2.2.2.2.2.2.2.2.2.2.2.1 w.2.2.2.2.2.2.2.2.2.2.2.2.2.2.1 w.2.2.2.2.2.2.2.2.2.2.2.2.2.2.2.1 w.2.2.2.2.2.2.2.2.2.2.2.2.2.2.2.2.1 w.2.2.2.2.2.2.2.2.2.2.2.2.2.2.2.2.2.1 w.2.2.2.2.2.2.2.2.2.2.2.2.2.2.2.2.2.2.1 w.2.2.2.2.2.2.2.2.2.2.2.2.2.2.2.2.2.2.2, fun w => x_u115q_1 w.1 w.2.1 w.2.2.1 w.2.2.2.1 w.2.2.2.2.1 w.2.2.2.2.2.1 w.2.2.2.2.2.2.1 w.2.2.2.2.2.2.2.1 w.2.2.2.2.2.2.2.2.1 w.2.2.2.2.2.2.2.2.2.1 w.2.2.2.2.2.2.2.2.2.2.1 w.2.2.2.2.2.2.2.2.2.2.2.1 w.2.2.2.2.2.2.2.2.2.2.2.2.1 w.2.2.2.2.2.2.2.2.2.2.2.2.2.1 w.2.2.2.2.2.2.2.2.2.2.2.2.2.2.1 w.2.2.2.2.2.2.2.2.2.2.2.2.2.2.2.1 w.2.2.2.2.2.2.2.2.2.2.2.2.2.2.2.2.1 w.2.2.2.2.2.2.2.2.2.2.2.2.2.2.2.2.2.1 w.2.2.2.2.2.2.2.2.2.2.2.2.2.2.2.2.2.2.1 w.2.2.2.2.2.2.2.2.2.2.2.2.2.2.2.2.2.2.2]
noncomputable def st_u115q_0 (x0 : Int) (x1 x2 x3 : List UInt8) (x4 x5 : Int) (x6 x7 : Int) (x8 : List AV) (x9 : Bool) (x10 x11 : Int) (x12 : Bool) (x13 : List AV) (x14 : Bool) (x15 x16 : Int) (x17 : Bool) (x18 x19 : List AV) : DT (Rd TT_u115q) :=
 .br (decide (x0 < (↑x18.length : Int)))
  (.br (okAt [CS.str, CS.int IntKind.i64, CS.int IntKind.i64, CS.int IntKind.i64, CS.str, CS.slice 4, CS.int IntKind.i64, CS.int IntKind.i64, CS.str, CS.slice 4] x18 x0)
   (.bi (f_u122q (intOf (cellAt x18 x0 2)) (intOf (cellAt x18 x0 3)) (strOf (cellAt x18 x0 4)) (viewOf (cellAt x18 x0 5)) 12) (fun y0 =>
    .bi (br y0 (some true)
        (br (okAt [CS.str, CS.int IntKind.i64, CS.int IntKind.i64, CS.int IntKind.i64, CS.str, CS.slice 4, CS.int IntKind.i64, CS.int IntKind.i64, CS.str, CS.slice 4] x18 x0)
          (br (sm (f_u122q (intOf (cellAt x18 x0 6)) (intOf (cellAt x18 x0 7)) (strOf (cellAt x18 x0 8)) (viewOf (cellAt x18 x0 9)) 12))
            (some (gv (f_u122q (intOf (cellAt x18 x0 6)) (intOf (cellAt x18 x0 7)) (strOf (cellAt x18 x0 8)) (viewOf (cellAt x18 x0 9)) 12))) none)
          none)) (fun y1 =>
     .br (y1) (.at (.done 0)) (.at (.next ((IntKind.i64.wrap (x0 + 1), x1, x2, x3, x4, x5, x6, x7, x8, x9, x10, x11, x12, x13, x14, x15, x16, x17, x18, x19)))))
     (.no))
    (.no))
   (.no))
  (.at (.done 1))
noncomputable def st_u115q : TT_u115q → DT (Rd TT_u115q) := (fun v => st_u115q_0 v.1 v.2.1 v.2.2.1 v.2.2.2.1 v.2.2.2.2.1 v.2.2.2.2.2.1 v.2.2.2.2.2.2.1 v.2.2.2.2.2.2.2.1 v.2.2.2.2.2.2.2.2.1 v.2.2.2.2.2.2.2.2.2.1 v.2.2.2.2.2.2.2.2.2.2.1 v.2.2.2.2.2.2.2.2.2.2.2.1 v.2.2.2.2.2.2.2.2.2.2.2.2.1 v.2.2.2.2.2.2.2.2.2.2.2.2.2.1 v.2.2.2.2.2.2.2.2.2.2.2.2.2.2.1 v.2.2.2.2.2.2.2.2.2.2.2.2.2.2.2.1 v.2.2.2.2.2.2.2.2.2.2.2.2.2.2.2.2.1 v.2.2.2.2.2.2.2.2.2.2.2.2.2.2.2.2.2.1 v.2.2.2.2.2.2.2.2.2.2.2.2.2.2.2.2.2.2.1 v.2.2.2.2.2.2.2.2.2.2.2.2.2.2.2.2.2.2.2)
noncomputable def l_u115q (v : TT_u115q) : Option (Nat × TT_u115q) := lock (iterO (fun v => (st_u115q v).ev) v)
theorem l_u115q_eq (v : TT_u115q) : l_u115q v = iterO (fun v => (st_u115q v).ev) v := lock_eq _
noncomputable def ll_u115q : LEnt := LE (τ := TT_u115q) (hD hs_u115q) (l_u115q) x_u115q
theorem t_u115q : Go.Eng.Told IP (loopAt F11 0).1 (loopAt F11 0).2 (ll_u115q) := loop_LE (inferInstance : Inhabited TT_u115q) (hs := hs_u115q) (st := st_u115q) (L := []) T1_ok (LOk_of (l := []) (by kernel_rfl) trivial) (l_u115q_eq) (fun v => by kernel_rfl) (fun v => by kernel_rfl)
abbrev TT_u116q : Type := Int × List UInt8 × List UInt8 × List UInt8 × Int × Int × Int × Int × List AV × Bool × Int × Int × Bool × List AV × Bool × Int × Int × Bool × List AV × List AV
def hs_u116q : List PSt := [⟨[(1001101, .junk), (1, .ref 0 0 0), (4, .int .i64)], [(0, .box [.str, .str, .str, .int .i64, .int .i64, .int .i64, .int .i64, .view 2, .bool, .int .i64, .int .i64, .bool, .view 2, .bool, .int .i64, .int .i64, .bool, .view 10, .view 6] false)], 1, 0⟩]
noncomputable def x_u116q_0 (x0 : Int) (x1 x2 x3 : List UInt8) (x4 x5 : Int) (x6 x7 : Int) (x8 : List AV) (x9 : Bool) (x10 x11 : Int) (x12 : Bool) (x13 : List AV) (x14 : Bool) (x15 x16 : Int) (x17 : Bool) (x18 x19 : List AV) : X × St := (X.ret, { tm := [(2, AV.bool false)], hp := [], nx := 0, k := 0 })
noncomputable def x_u116q_1 (x0 : Int) (x1 x2 x3 : List UInt8) (x4 x5 : Int) (x6 x7 : Int) (x8 : List AV) (x9 : Bool) (x10 x11 : Int) (x12 : Bool) (x13 : List AV) (x14 : Bool) (x15 x16 : Int) (x17 : Bool) (x18 x19 : List AV) : X × St := (X.exit 2, { tm := [(2, AV.junk)], hp := [], nx := 0, k := 0 })
noncomputable def x_u116q : List (TT_u116q → X × St) := [fun w => x_u116q_0 w.1 w.2.1 w.2.2.1 w.2.2.2.1 w.2.2.2.2.1 w.2.2.2.2.2.1 w.2.2.2.2.2.2.1 w.2.2.2.2.2.2.2.1 w.2.2.2.2.2.2.2.2.1 w.2.2.2.2.2.2.2.2.2.1 w.2.2.2.2.2.2.2.2.2.2.1 w.2.2.2.2.2.2.2.2.2.2.2.1 w.2.2.2.2.2.2.2.2.2.2.2.2.1 w.2.2.2.2.2.2.2.2.2.2.2.2.2.1 w.2.2.2.2.2.2.2.2.2.2.2.2.2.2.1 w.2.2.2.2.2.2.2.2.2.2.2.2.2.2.2.1 w.2.2.2.2.2.2.2.2.2.2.2.2.2.2.2.2.1 w.2.2.2.2.2.2.2.2.2.2.2.2.2.2.2.2.2.1 w.2.2.2.2.2.2.2.2.2.2.2.2.2.2.2.2.2.2.1 w.2.2.2.2.2.2.2.2.2.2.2.2.2.2.2.2.2.2.2, fun w => x_u116q_1 w.1 w.2.1 w.2.2.1 w.2.2.2.1 w.2.2.2.2.1 w.2.2.2.2.2.1 w.2.2.2.2.2.2.1 w.2.2.2.2.2.2.2.1 w.2.2.2.2.2.2.2.2.1 w.2.2.2.2.2.2.2.2.2.1 w.2.2.2.2.2.2.2.2.2.2.1 w.2.2.2.2.2.2.2.2.2.2.2.1 w.2.2.2.2.2.2.2.2.2.2.2.2.1 w.2.2.2.2.2.2.2.2.2.2.2.2.2.1 w.2.2.2.2.2.2.2.2.2.2.2.2.2.2.1 w.2.2.2.2.2.2.2.2.2.2.2.2.2.2.2.1 w.2.2.2.2.2.2.2.2.2.2.2.2.2.2.2.2.1 w.2.2.2.2.2.2.2.2.2.2.2.2.2.2.2.2.2.1 w.2.2.2.2.2.2.2.2.2.2.2.2.2.2.2.2.2.2.1 w.2.2.2.2.2.2.2.2.2.2.2.2.2.2.2.2.2.2.2]
noncomputable def st_u116q_0 (x0 : Int) (x1 x2 x3 : List UInt8) (x4 x5 : Int) (x6 x7 : Int) (x8 : List AV) (x9 : Bool) (x10 x11 : Int) (x12 : Bool) (x13 : List AV) (x14 : Bool) (x15 x16 : Int) (x17 : Bool) (x18 x19 : List AV) : DT (Rd TT_u116q) :=
 .br (decide (x0 < (↑x19.length : Int)))
  (.br (okAt [CS.str, CS.int IntKind.i64, CS.int IntKind.i64, CS.int IntKind.i64, CS.str, CS.slice 4] x19 x0)
   (.bi (f_u122q (intOf (cellAt x19 x0 2)) (intOf (cellAt x19 x0 3)) (strOf (cellAt x19 x0 4)) (viewOf (cellAt x19 x0 5)) 12) (fun y0 =>
    .br (y0) (.at (.done 0)) (.at (.next ((IntKind.i64.wrap (x0 + 1), x1, x2, x3, x4, x5, x6, x7, x8, x9, x10, x11, x12, x13, x14, x15, x16, x17, x18, x19)))))
    (.no))
   (.no))
  (.at (.done 1))
noncomputable def st_u116q : TT_u116q → DT (Rd TT_u116q) := (fun v => st_u116q_0 v.1 v.2.1 v.2.2.1 v.2.2.2.1 v.2.2.2.2.1 v.2.2.2.2.2.1 v.2.2.2.2.2.2.1 v.2.2.2.2.2.2.2.1 v.2.2.2.2.2.2.2.2.1 v.2.2.2.2.2.2.2.2.2.1 v.2.2.2.2.2.2.2.2.2.2.1 v.2.2.2.2.2.2.2.2.2.2.2.1 v.2.2.2.2.2.2.2.2.2.2.2.2.1 v.2.2.2.2.2.2.2.2.2.2.2.2.2.1 v.2.2.2.2.2.2.2.2.2.2.2.2.2.2.1 v.2.2.2.2.2.2.2.2.2.2.2.2.2.2.2.1 v.2.2.2.2.2.2.2.2.2.2.2.2.2.2.2.2.1 v.2.2.2.2.2.2.2.2.2.2.2.2.2.2.2.2.2.1 v.2.2.2.2.2.2.2.2.2.2.2.2.2.2.2.2.2.2.1 v.2.2.2.2.2.2.2.2.2.2.2.2.2.2.2.2.2.2.2)
noncomputable def l_u116q (v : TT_u116q) : Option (Nat × TT_u116q) := lock (iterO (fun v => (st_u116q v).ev) v)
theorem l_u116q_eq (v : TT_u116q) : l_u116q v = iterO (fun v => (st_u116q v).ev) v := lock_eq _
noncomputable def ll_u116q : LEnt := LE (τ := TT_u116q) (hD hs_u116q) (l_u116q) x_u116q
theorem t_u116q : Go.Eng.Told IP (loopAt F11 1).1 (loopAt F11 1).2 (ll_u116q) := loop_LE (inferInstance : Inhabited TT_u116q) (hs := hs_u116q) (st := st_u116q) (L := []) T1_ok (LOk_of (l := []) (by kernel_rfl) trivial) (l_u116q_eq) (fun v => by kernel_rfl) (fun v => by kernel_rfl)
abbrev B_u125q : Type := Bool
def p_u125q : PArgs := ⟨[.agg [.str, .str, .str, .int .i64, .int .i64, .int .i64, .int .i64, .view 2, .bool, .int .i64, .int .i64, .bool, .view 2, .bool, .int .i64, .int .i64, .bool, .view 10, .view 6]], []⟩
def r_u125q : List PRes := [⟨false, .bool, []⟩]
noncomputable def tr_u125q (x0 x1 x2 : List UInt8) (x3 x4 : Int) (x5 x6 : Int) (x7 : List AV) (x8 : Bool) (x9 x10 : Int) (x11 : Bool) (x12 : List AV) (x13 : Bool) (x14 x15 : Int) (x16 : Bool) (x17 x18 : List AV) : DT B_u125q :=
 .bi (br (decide ((↑x17.length : Int) > 12)) (some true) (some (decide ((↑x18.length : Int) > 12)))) (fun y0 =>
  .bi (br y0 (some true) (some (decide ((↑x7.length : Int) > 12)))) (fun y1 =>
   .bi (br y1 (some true) (some (decide ((↑x12.length : Int) > 12)))) (fun y2 =>
    .br (y2)
     (.at (false))
     (.bi (pj 0 (l_u115q (0, x0, x1, x2, x3, x4, x5, x6, x7, x8, x9, x10, x11, x12, x13, x14, x15, x16, x17, x18))) (fun y3 =>
      .at (false))
      (.bi (pj 1 (l_u115q (0, x0, x1, x2, x3, x4, x5, x6, x7, x8, x9, x10, x11, x12, x13, x14, x15, x16, x17, x18))) (fun y3 =>
       .bi (pj 0
           (l_u116q
             (0, y3.2.1, y3.2.2.1, y3.2.2.2.1, y3.2.2.2.2.1, y3.2.2.2.2.2.1, y3.2.2.2.2.2.2.1, y3.2.2.2.2.2.2.2.1,
               y3.2.2.2.2.2.2.2.2.1, y3.2.2.2.2.2.2.2.2.2.1, y3.2.2.2.2.2.2.2.2.2.2.1,
               y3.2.2.2.2.2.2.2.2.2.2.2.1, y3.2.2.2.2.2.2.2.2.2.2.2.2.1, y3.2.2.2.2.2.2.2.2.2.2.2.2.2.1,
               y3.2.2.2.2.2.2.2.2.2.2.2.2.2.2.1, y3.2.2.2.2.2.2.2.2.2.2.2.2.2.2.2.1,
               y3.2.2.2.2.2.2.2.2.2.2.2.2.2.2.2.2.1, y3.2.2.2.2.2.2.2.2.2.2.2.2.2.2.2.2.2.1,
               y3.2.2.2.2.2.2.2.2.2.2.2.2.2.2.2.2.2.2.1, y3.2.2.2.2.2.2.2.2.2.2.2.2.2.2.2.2.2.2.2))) (fun y4 =>
        .at (false))
        (.bi (pj 1
            (l_u116q
              (0, y3.2.1, y3.2.2.1, y3.2.2.2.1, y3.2.2.2.2.1, y3.2.2.2.2.2.1, y3.2.2.2.2.2.2.1, y3.2.2.2.2.2.2.2.1,
                y3.2.2.2.2.2.2.2.2.1, y3.2.2.2.2.2.2.2.2.2.1, y3.2.2.2.2.2.2.2.2.2.2.1,
                y3.2.2.2.2.2.2.2.2.2.2.2.1, y3.2.2.2.2.2.2.2.2.2.2.2.2.1, y3.2.2.2.2.2.2.2.2.2.2.2.2.2.1,
                y3.2.2.2.2.2.2.2.2.2.2.2.2.2.2.1, y3.2.2.2.2.2.2.2.2.2.2.2.2.2.2.2.1,
                y3.2.2.2.2.2.2.2.2.2.2.2.2.2.2.2.2.1, y3.2.2.2.2.2.2.2.2.2.2.2.2.2.2.2.2.2.1,
                y3.2.2.2.2.2.2.2.2.2.2.2.2.2.2.2.2.2.2.1, y3.2.2.2.2.2.2.2.2.2.2.2.2.2.2.2.2.2.2.2))) (fun y4 =>
         .at (true))
         (.no)))
       (.no))))
    (.no))
   (.no))
  (.no)
noncomputable def f_u125q (x0 x1 x2 : List UInt8) (x3 x4 : Int) (x5 x6 : Int) (x7 : List AV) (x8 : Bool) (x9 x10 : Int) (x11 : Bool) (x12 : List AV) (x13 : Bool) (x14 x15 : Int) (x16 : Bool) (x17 x18 : List AV) : Option B_u125q := lock (tr_u125q x0 x1 x2 x3 x4 x5 x6 x7 x8 x9 x10 x11 x12 x13 x14 x15 x16 x17 x18).ev
theorem f_u125q_eq (x0 x1 x2 : List UInt8) (x3 x4 : Int) (x5 x6 : Int) (x7 : List AV) (x8 : Bool) (x9 x10 : Int) (x11 : Bool) (x12 : List AV) (x13 : Bool) (x14 x15 : Int) (x16 : Bool) (x17 x18 : List AV) : f_u125q x0 x1 x2 x3 x4 x5 x6 x7 x8 x9 x10 x11 x12 x13 x14 x15 x16 x17 x18 = (tr_u125q x0 x1 x2 x3 x4 x5 x6 x7 x8 x9 x10 x11 x12 x13 x14 x15 x16 x17 x18).ev := lock_eq _
theorem c_u125q : FH IP 11 p_u125q r_u125q (fun (v : List UInt8 × List UInt8 × List UInt8 × Int × Int × Int × Int × List AV × Bool × Int × Int × Bool × List AV × Bool × Int × Int × Bool × List AV × List AV) => (f_u125q v.1 v.2.1 v.2.2.1 v.2.2.2.1 v.2.2.2.2.1 v.2.2.2.2.2.1 v.2.2.2.2.2.2.1 v.2.2.2.2.2.2.2.1 v.2.2.2.2.2.2.2.2.1 v.2.2.2.2.2.2.2.2.2.1 v.2.2.2.2.2.2.2.2.2.2.1 v.2.2.2.2.2.2.2.2.2.2.2.1 v.2.2.2.2.2.2.2.2.2.2.2.2.1 v.2.2.2.2.2.2.2.2.2.2.2.2.2.1 v.2.2.2.2.2.2.2.2.2.2.2.2.2.2.1 v.2.2.2.2.2.2.2.2.2.2.2.2.2.2.2.1 v.2.2.2.2.2.2.2.2.2.2.2.2.2.2.2.2.1 v.2.2.2.2.2.2.2.2.2.2.2.2.2.2.2.2.2.1 v.2.2.2.2.2.2.2.2.2.2.2.2.2.2.2.2.2.2 : Option B_u125q)) := fun_FH (F := F11) (L := [(1001100, ll_u115q), (1001101, ll_u116q)]) (t := fun (v : List UInt8 × List UInt8 × List UInt8 × Int × Int × Int × Int × List AV × Bool × Int × Int × Bool × List AV × Bool × Int × Int × Bool × List AV × List AV) => tr_u125q v.1 v.2.1 v.2.2.1 v.2.2.2.1 v.2.2.2.2.1 v.2.2.2.2.2.1 v.2.2.2.2.2.2.1 v.2.2.2.2.2.2.2.1 v.2.2.2.2.2.2.2.2.1 v.2.2.2.2.2.2.2.2.2.1 v.2.2.2.2.2.2.2.2.2.2.1 v.2.2.2.2.2.2.2.2.2.2.2.1 v.2.2.2.2.2.2.2.2.2.2.2.2.1 v.2.2.2.2.2.2.2.2.2.2.2.2.2.1 v.2.2.2.2.2.2.2.2.2.2.2.2.2.2.1 v.2.2.2.2.2.2.2.2.2.2.2.2.2.2.2.1 v.2.2.2.2.2.2.2.2.2.2.2.2.2.2.2.2.1 v.2.2.2.2.2.2.2.2.2.2.2.2.2.2.2.2.2.1 v.2.2.2.2.2.2.2.2.2.2.2.2.2.2.2.2.2.2) T1_ok (LOk_of (l := [loopAt F11 0, loopAt F11 1]) (by kernel_rfl) ⟨sel_one (by kernel_rfl) t_u115q, sel_one (by kernel_rfl) t_u116q, trivial⟩) (by kernel_rfl) (fun v => by kernel_rfl) (fun v => f_u125q_eq v.1 v.2.1 v.2.2.1 v.2.2.2.1 v.2.2.2.2.1 v.2.2.2.2.2.1 v.2.2.2.2.2.2.1 v.2.2.2.2.2.2.2.1 v.2.2.2.2.2.2.2.2.1 v.2.2.2.2.2.2.2.2.2.1 v.2.2.2.2.2.2.2.2.2.2.1 v.2.2.2.2.2.2.2.2.2.2.2.1 v.2.2.2.2.2.2.2.2.2.2.2.2.1 v.2.2.2.2.2.2.2.2.2.2.2.2.2.1 v.2.2.2.2.2.2.2.2.2.2.2.2.2.2.1 v.2.2.2.2.2.2.2.2.2.2.2.2.2.2.2.1 v.2.2.2.2.2.2.2.2.2.2.2.2.2.2.2.2.1 v.2.2.2.2.2.2.2.2.2.2.2.2.2.2.2.2.2.1 v.2.2.2.2.2.2.2.2.2.2.2.2.2.2.2.2.2.2)
noncomputable def T2 : Tab := (11, FE p_u125q r_u125q (fun (v : List UInt8 × List UInt8 × List UInt8 × Int × Int × Int × Int × List AV × Bool × Int × Int × Bool × List AV × Bool × Int × Int × Bool × List AV × List AV) => (f_u125q v.1 v.2.1 v.2.2.1 v.2.2.2.1 v.2.2.2.2.1 v.2.2.2.2.2.1 v.2.2.2.2.2.2.1 v.2.2.2.2.2.2.2.1 v.2.2.2.2.2.2.2.2.1 v.2.2.2.2.2.2.2.2.2.1 v.2.2.2.2.2.2.2.2.2.2.1 v.2.2.2.2.2.2.2.2.2.2.2.1 v.2.2.2.2.2.2.2.2.2.2.2.2.1 v.2.2.2.2.2.2.2.2.2.2.2.2.2.1 v.2.2.2.2.2.2.2.2.2.2.2.2.2.2.1 v.2.2.2.2.2.2.2.2.2.2.2.2.2.2.2.1 v.2.2.2.2.2.2.2.2.2.2.2.2.2.2.2.2.1 v.2.2.2.2.2.2.2.2.2.2.2.2.2.2.2.2.2.1 v.2.2.2.2.2.2.2.2.2.2.2.2.2.2.2.2.2.2 : Option B_u125q))) :: T1
theorem T2_ok : TabOk IP T2 := ⟨FE_ok c_u125q, T1_ok⟩
abbrev B_u121q : Type := List UInt8 × List UInt8 × List UInt8 × Int × Int × Int × Int × List AV × Bool × Int × Int × Bool × List AV × Bool × Int × Int × Bool × List AV × List AV
def p_u121q : PArgs := ⟨[], []⟩
def r_u121q : List PRes := [⟨false, .agg [.str, .str, .str, .int .i64, .int .i64, .int .i64, .int .i64, .view 2, .bool, .int .i64, .int .i64, .bool, .view 2, .bool, .int .i64, .int .i64, .bool, .view 10, .view 6], []⟩]
noncomputable def tr_u121q : DT B_u121q :=
 .at (([103, 105, 114, 111], [69, 85, 82], [104, 111, 109, 101], 0, 1, 0, 0, [], false, 2, 6, false, [], false, 2, 6, false, [AV.agg
    [AV.str [108, 111, 119], AV.int IntKind.i64 1, AV.int IntKind.i64 12, AV.int IntKind.i64 0, AV.str [],
      AV.view 4
        [AV.agg [AV.int IntKind.i64 4, AV.int IntKind.i64 0, AV.str [98, 97, 108, 97, 110, 99, 101], AV.view 4 []],
          AV.agg [AV.int IntKind.i64 2, AV.int IntKind.i64 100, AV.str [], AV.view 4 []]],
      AV.int IntKind.i64 2, AV.int IntKind.i64 5, AV.str [], AV.view 4 []]], []))
noncomputable def f_u121q : Option B_u121q := lock (tr_u121q).ev
theorem f_u121q_eq : f_u121q = (tr_u121q).ev := lock_eq _
theorem c_u121q : FH IP 25 p_u121q r_u121q (fun (v : Unit) => (f_u121q : Option B_u121q)) := fun_FH (F := F25) (L := []) (t := fun (v : Unit) => tr_u121q) T2_ok (LOk_of (l := []) (by kernel_rfl) trivial) (by kernel_rfl) (fun v => by kernel_rfl) (fun v => f_u121q_eq)
noncomputable def T3 : Tab := (25, FE p_u121q r_u121q (fun (v : Unit) => (f_u121q : Option B_u121q))) :: T2
theorem T3_ok : TabOk IP T3 := ⟨FE_ok c_u121q, T2_ok⟩
abbrev TT_u49q : Type := (List UInt8 × List UInt8 × List UInt8 × List UInt8 × Int) ⊕ (List UInt8 × List UInt8 × List UInt8 × List UInt8 × Int × List AV)
def hs_u49q : List PSt := [⟨[(1000800, .junk), (1, .nils 2), (6, .agg [.str, .str, .str, .str]), (7, .int .i64)], [], 0, 0⟩, ⟨[(1000800, .junk), (1, .own 0 0), (6, .agg [.str, .str, .str, .str]), (7, .int .i64)], [(0, .arr 2 false)], 1, 0⟩]
noncomputable def x_u49q_0 (x0 x1 : List UInt8) (x2 x3 : List UInt8) (x4 : Int) : X × St := (X.exit 0, { tm := [(1, AV.nils { sz := 2, kd := NKd.nil })], hp := [], nx := 0, k := 0 })
noncomputable def x_u49q_1 (x0 x1 : List UInt8) (x2 x3 : List UInt8) (x4 : Int) (x5 : List AV) : X × St := (X.exit 0, { tm := [(1, AV.own 0 0 none)], hp := [(0, Blk.arr 2 x5 false)], nx := 1, k := 0 })
noncomputable def x_u49q : List (TT_u49q → X × St) := [fun w => x_u49q_0 (sl w).1 (sl w).2.1 (sl w).2.2.1 (sl w).2.2.2.1 (sl w).2.2.2.2, fun w => x_u49q_1 (sr w).1 (sr w).2.1 (sr w).2.2.1 (sr w).2.2.2.1 (sr w).2.2.2.2.1 (sr w).2.2.2.2.2]
noncomputable def st_u49q_0 (x0 x1 : List UInt8) (x2 x3 : List UInt8) (x4 : Int) : DT (Rd TT_u49q) :=
 .br (decide (x4 < 4))
  (.br (decide (x4 = Int.ofNat 0))
   (.at (.next ((.inr (x0, x1, x2, x3, IntKind.i64.wrap (x4 + 1), [AV.agg [AV.str x0, AV.int IntKind.i64 2]])))))
   (.br (decide (x4 = Int.ofNat 1))
    (.at (.next ((.inr (x0, x1, x2, x3, IntKind.i64.wrap (x4 + 1), [AV.agg [AV.str x1, AV.int IntKind.i64 2]])))))
    (.br (decide (x4 = Int.ofNat 2))
     (.at (.next ((.inr (x0, x1, x2, x3, IntKind.i64.wrap (x4 + 1), [AV.agg [AV.str x2, AV.int IntKind.i64 2]])))))
     (.br (decide (x4 = Int.ofNat 3)) (.at (.next ((.inr (x0, x1, x2, x3, IntKind.i64.wrap (x4 + 1), [AV.agg [AV.str x3, AV.int IntKind.i64 2]]))))) (.no)))))
  (.at (.done 0))
noncomputable def st_u49q_1 (x0 x1 : List UInt8) (x2 x3 : List UInt8) (x4 : Int) (x5 : List AV) : DT (Rd TT_u49q) :=
 .br (decide (x4 < 4))
  (.br (decide (x4 = Int.ofNat 0))
   (.br (room (x5.length + 1) 24) (.at (.next ((.inr (x0, x1, x2, x3, IntKind.i64.wrap (x4 + 1), x5 ++ [AV.agg [AV.str x0, AV.int IntKind.i64 2]]))))) (.no))
   (.br (decide (x4 = Int.ofNat 1))
    (.br (room (x5.length + 1) 24) (.at (.next ((.inr (x0, x1, x2, x3, IntKind.i64.wrap (x4 + 1), x5 ++ [AV.agg [AV.str x1, AV.int IntKind.i64 2]]))))) (.no))
    (.br (decide (x4 = Int.ofNat 2))
     (.br (room (x5.length + 1) 24) (.at (.next ((.inr (x0, x1, x2, x3, IntKind.i64.wrap (x4 + 1), x5 ++ [AV.agg [AV.str x2, AV.int IntKind.i64 2]]))))) (.no))
     (.br (decide (x4 = Int.ofNat 3))
      (.br (room (x5.length + 1) 24) (.at (.next ((.inr (x0, x1, x2, x3, IntKind.i64.wrap (x4 + 1), x5 ++ [AV.agg [AV.str x3, AV.int IntKind.i64 2]]))))) (.no))
      (.no)))))
  (.at (.done 1))
noncomputable def st_u49q : TT_u49q → DT (Rd TT_u49q) := (Sum.elim (fun v => st_u49q_0 v.1 v.2.1 v.2.2.1 v.2.2.2.1 v.2.2.2.2) (fun v => st_u49q_1 v.1 v.2.1 v.2.2.1 v.2.2.2.1 v.2.2.2.2.1 v.2.2.2.2.2))
noncomputable def l_u49q (v : TT_u49q) : Option (Nat × TT_u49q) := lock (iterO (fun v => (st_u49q v).ev) v)
theorem l_u49q_eq (v : TT_u49q) : l_u49q v = iterO (fun v => (st_u49q v).ev) v := lock_eq _
noncomputable def ll_u49q : LEnt := LE (τ := TT_u49q) (hD hs_u49q) (l_u49q) x_u49q
theorem t_u49q : Go.Eng.Told IP (loopAt F8 0).1 (loopAt F8 0).2 (ll_u49q) := loop_LE (inferInstance : Inhabited TT_u49q) (hs := hs_u49q) (st := st_u49q) (L := []) T3_ok (LOk_of (l := []) (by kernel_rfl) trivial) (l_u49q_eq) (fun v => match v with | (.inl v) => by kernel_rfl | (.inr v) => by kernel_rfl) (fun v => match v with | (.inl v) => by kernel_rfl | (.inr v) => by kernel_rfl)
abbrev TT_u50q : Type := (List UInt8 × List UInt8 × Int) ⊕ (List UInt8 × List UInt8 × Int × List AV)
def hs_u50q : List PSt := [⟨[(1000801, .junk), (1, .nils 2), (16, .agg [.str, .str]), (17, .int .i64)], [], 0, 0⟩, ⟨[(1000801, .junk), (1, .own 0 0), (16, .agg [.str, .str]), (17, .int .i64)], [(0, .arr 2 false)], 1, 0⟩]
noncomputable def x_u50q_0 (x0 x1 : List UInt8) (x2 : Int) : X × St := (X.exit 2, { tm := [(1, AV.nils { sz := 2, kd := NKd.nil })], hp := [], nx := 0, k := 0 })
noncomputable def x_u50q_1 (x0 x1 : List UInt8) (x2 : Int) (x3 : List AV) : X × St := (X.exit 2, { tm := [(1, AV.own 0 0 none)], hp := [(0, Blk.arr 2 x3 false)], nx := 1, k := 0 })
noncomputable def x_u50q : List (TT_u50q → X × St) := [fun w => x_u50q_0 (sl w).1 (sl w).2.1 (sl w).2.2, fun w => x_u50q_1 (sr w).1 (sr w).2.1 (sr w).2.2.1 (sr w).2.2.2]
noncomputable def st_u50q_0 (x0 x1 : List UInt8) (x2 : Int) : DT (Rd TT_u50q) :=
 .br (decide (x2 < 2))
  (.br (decide (x2 = Int.ofNat 0))
   (.at (.next ((.inr (x0, x1, IntKind.i64.wrap (x2 + 1), [AV.agg [AV.str x0, AV.int IntKind.i64 1]])))))
   (.br (decide (x2 = Int.ofNat 1)) (.at (.next ((.inr (x0, x1, IntKind.i64.wrap (x2 + 1), [AV.agg [AV.str x1, AV.int IntKind.i64 1]]))))) (.no)))
  (.at (.done 0))
noncomputable def st_u50q_1 (x0 x1 : List UInt8) (x2 : Int) (x3 : List AV) : DT (Rd TT_u50q) :=
 .br (decide (x2 < 2))
  (.br (decide (x2 = Int.ofNat 0))
   (.br (room (x3.length + 1) 24) (.at (.next ((.inr (x0, x1, IntKind.i64.wrap (x2 + 1), x3 ++ [AV.agg [AV.str x0, AV.int IntKind.i64 1]]))))) (.no))
   (.br (decide (x2 = Int.ofNat 1))
    (.br (room (x3.length + 1) 24) (.at (.next ((.inr (x0, x1, IntKind.i64.wrap (x2 + 1), x3 ++ [AV.agg [AV.str x1, AV.int IntKind.i64 1]]))))) (.no))
    (.no)))
  (.at (.done 1))
noncomputable def st_u50q : TT_u50q → DT (Rd TT_u50q) := (Sum.elim (fun v => st_u50q_0 v.1 v.2.1 v.2.2) (fun v => st_u50q_1 v.1 v.2.1 v.2.2.1 v.2.2.2))
noncomputable def l_u50q (v : TT_u50q) : Option (Nat × TT_u50q) := lock (iterO (fun v => (st_u50q v).ev) v)
theorem l_u50q_eq (v : TT_u50q) : l_u50q v = iterO (fun v => (st_u50q v).ev) v := lock_eq _
noncomputable def ll_u50q : LEnt := LE (τ := TT_u50q) (hD hs_u50q) (l_u50q) x_u50q
theorem t_u50q : Go.Eng.Told IP (loopAt F8 1).1 (loopAt F8 1).2 (ll_u50q) := loop_LE (inferInstance : Inhabited TT_u50q) (hs := hs_u50q) (st := st_u50q) (L := []) T3_ok (LOk_of (l := []) (by kernel_rfl) trivial) (l_u50q_eq) (fun v => match v with | (.inl v) => by kernel_rfl | (.inr v) => by kernel_rfl) (fun v => match v with | (.inl v) => by kernel_rfl | (.inr v) => by kernel_rfl)
abbrev B_u77q : Type := List AV
def p_u77q : PArgs := ⟨[], []⟩
def r_u77q : List PRes := [⟨false, .view 2, []⟩]
noncomputable def tr_u77q : DT B_u77q :=
 .bi (pj 0 (l_u49q (Sum.inl ([98, 97, 108, 97, 110, 99, 101], [108, 111, 119, 101, 115, 116], [118, 111, 108, 117, 109, 101], [97, 109, 111, 117, 110, 116], 0)))) (fun y0 =>
  .bi (pj 0 (l_u50q (Sum.inl ([99, 111, 117, 110, 116], [97, 103, 101], 0)))) (fun y1 =>
   .at ([AV.agg [AV.str [100, 97, 121], AV.int IntKind.i64 4]]))
   (.bi (pj 1 (l_u50q (Sum.inl ([99, 111, 117, 110, 116], [97, 103, 101], 0)))) (fun y1 =>
    .br (room ((sr y1).2.2.2.length + 1) 24) (.at ((sr y1).2.2.2 ++ [AV.agg [AV.str [100, 97, 121], AV.int IntKind.i64 4]])) (.no))
    (.no)))
  (.bi (pj 1 (l_u49q (Sum.inl ([98, 97, 108, 97, 110, 99, 101], [108, 111, 119, 101, 115, 116], [118, 111, 108, 117, 109, 101], [97, 109, 111, 117, 110, 116], 0)))) (fun y0 =>
   .bi (pj 0 (l_u50q (Sum.inr ([99, 111, 117, 110, 116], [97, 103, 101], 0, (sr y0).2.2.2.2.2)))) (fun y1 =>
    .at ([AV.agg [AV.str [100, 97, 121], AV.int IntKind.i64 4]]))
    (.bi (pj 1 (l_u50q (Sum.inr ([99, 111, 117, 110, 116], [97, 103, 101], 0, (sr y0).2.2.2.2.2)))) (fun y1 =>
     .br (room ((sr y1).2.2.2.length + 1) 24) (.at ((sr y1).2.2.2 ++ [AV.agg [AV.str [100, 97, 121], AV.int IntKind.i64 4]])) (.no))
     (.no)))
   (.no))
noncomputable def f_u77q : Option B_u77q := lock (tr_u77q).ev
theorem f_u77q_eq : f_u77q = (tr_u77q).ev := lock_eq _
theorem c_u77q : FH IP 8 p_u77q r_u77q (fun (v : Unit) => (f_u77q : Option B_u77q)) := fun_FH (F := F8) (L := [(1000800, ll_u49q), (1000801, ll_u50q)]) (t := fun (v : Unit) => tr_u77q) T3_ok (LOk_of (l := [loopAt F8 0, loopAt F8 1]) (by kernel_rfl) ⟨sel_one (by kernel_rfl) t_u49q, sel_one (by kernel_rfl) t_u50q, trivial⟩) (by kernel_rfl) (fun v => by kernel_rfl) (fun v => f_u77q_eq)
noncomputable def T4 : Tab := (8, FE p_u77q r_u77q (fun (v : Unit) => (f_u77q : Option B_u77q))) :: T3
theorem T4_ok : TabOk IP T4 := ⟨FE_ok c_u77q, T3_ok⟩
abbrev TT_u73q : Type := List UInt8 × List AV × Int × Int × List UInt8 × Int
def hs_u73q : List PSt := [⟨[(1005000, .junk), (1, .str), (4, .ref 0 0 0), (8, .view 2), (9, .int .i64), (10, .int .i64)], [(0, .box [.str, .int .i64] false)], 1, 0⟩]
noncomputable def x_u73q_0 (x0 : List UInt8) (x1 : List AV) (x2 x3 : Int) (x4 : List UInt8) (x5 : Int) : X × St := (X.ret,
  { tm := [(4, AV.ref 0 0 0), (5, AV.bool true)], hp := [(0, Blk.box [AV.str (strOf (cellAt x1 x3 0)), AV.int IntKind.i64 (intOf (cellAt x1 x3 1))] false)], nx := 1, k := 0 })
noncomputable def x_u73q_1 (x0 : List UInt8) (x1 : List AV) (x2 x3 : Int) (x4 : List UInt8) (x5 : Int) : X × St := (X.exit 0, { tm := [(4, AV.ref 0 0 0), (5, AV.junk)], hp := [(0, Blk.box [AV.str x4, AV.int IntKind.i64 x5] false)], nx := 1, k := 0 })
noncomputable def x_u73q : List (TT_u73q → X × St) := [fun w => x_u73q_0 w.1 w.2.1 w.2.2.1 w.2.2.2.1 w.2.2.2.2.1 w.2.2.2.2.2, fun w => x_u73q_1 w.1 w.2.1 w.2.2.1 w.2.2.2.1 w.2.2.2.2.1 w.2.2.2.2.2]
noncomputable def st_u73q_0 (x0 : List UInt8) (x1 : List AV) (x2 x3 : Int) (x4 : List UInt8) (x5 : Int) : DT (Rd TT_u73q) :=
 .br (decide (x3 < x2))
  (.br (okAt [CS.str, CS.int IntKind.i64] x1 x3)
   (.br (strOf (cellAt x1 x3 0) == x0) (.at (.done 0)) (.at (.next ((x0, x1, x2, IntKind.i64.wrap (x3 + 1), x4, x5)))))
   (.no))
  (.at (.done 1))
noncomputable def st_u73q : TT_u73q → DT (Rd TT_u73q) := (fun v => st_u73q_0 v.1 v.2.1 v.2.2.1 v.2.2.2.1 v.2.2.2.2.1 v.2.2.2.2.2)
noncomputable def l_u73q (v : TT_u73q) : Option (Nat × TT_u73q) := lock (iterO (fun v => (st_u73q v).ev) v)
theorem l_u73q_eq (v : TT_u73q) : l_u73q v = iterO (fun v => (st_u73q v).ev) v := lock_eq _
noncomputable def ll_u73q : LEnt := LE (τ := TT_u73q) (hD hs_u73q) (l_u73q) x_u73q
theorem t_u73q : Go.Eng.Told IP (loopAt F50 0).1 (loopAt F50 0).2 (ll_u73q) := loop_LE (inferInstance : Inhabited TT_u73q) (hs := hs_u73q) (st := st_u73q) (L := []) T4_ok (LOk_of (l := []) (by kernel_rfl) trivial) (l_u73q_eq) (fun v => by kernel_rfl) (fun v => by kernel_rfl)
abbrev B_u108q : Type := List UInt8 × Int × Bool
def p_u108q : PArgs := ⟨[.view 2, .str], []⟩
def r_u108q : List PRes := [⟨false, .tup [.agg [.str, .int .i64], .bool], []⟩]
noncomputable def tr_u108q (x0 : List AV) (x1 : List UInt8) : DT B_u108q :=
 .bi (pj 0 (l_u73q (x1, x0, (↑x0.length : Int), 0, [], 0))) (fun y0 =>
  .at ((strOf (cellAt y0.2.1 y0.2.2.2.1 0), intOf (cellAt y0.2.1 y0.2.2.2.1 1), true)))
  (.bi (pj 1 (l_u73q (x1, x0, (↑x0.length : Int), 0, [], 0))) (fun y0 =>
   .at (([], 0, false)))
   (.no))
noncomputable def f_u108q (x0 : List AV) (x1 : List UInt8) : Option B_u108q := lock (tr_u108q x0 x1).ev
theorem f_u108q_eq (x0 : List AV) (x1 : List UInt8) : f_u108q x0 x1 = (tr_u108q x0 x1).ev := lock_eq _
theorem c_u108q : FH IP 50 p_u108q r_u108q (fun (v : List AV × List UInt8) => (f_u108q v.1 v.2 : Option B_u108q)) := fun_FH (F := F50) (L := [(1005000, ll_u73q)]) (t := fun (v : List AV × List UInt8) => tr_u108q v.1 v.2) T4_ok (LOk_of (l := [loopAt F50 0]) (by kernel_rfl) ⟨sel_one (by kernel_rfl) t_u73q, trivial⟩) (by kernel_rfl) (fun v => by kernel_rfl) (fun v => f_u108q_eq v.1 v.2)
noncomputable def T5 : Tab := (50, FE p_u108q r_u108q (fun (v : List AV × List UInt8) => (f_u108q v.1 v.2 : Option B_u108q))) :: T4
theorem T5_ok : TabOk IP T5 := ⟨FE_ok c_u108q, T4_ok⟩
abbrev B_u36q : Type := Bool
def p_u36q : PArgs := ⟨[.agg [.str, .view 1, .view 1], .ptr [.str]], []⟩
def r_u36q : List PRes := [⟨false, .bool, []⟩]
noncomputable def tr_u36q (x0 : List UInt8) (x1 x2 : List AV) (x3 : List UInt8) : DT B_u36q :=
 .at (x0 == x3)
noncomputable def f_u36q (x0 : List UInt8) (x1 x2 : List AV) (x3 : List UInt8) : Option B_u36q := lock (tr_u36q x0 x1 x2 x3).ev
theorem f_u36q_eq (x0 : List UInt8) (x1 x2 : List AV) (x3 : List UInt8) : f_u36q x0 x1 x2 x3 = (tr_u36q x0 x1 x2 x3).ev := lock_eq _
theorem c_u36q : FH IP 69 p_u36q r_u36q (fun (v : List UInt8 × List AV × List AV × List UInt8) => (f_u36q v.1 v.2.1 v.2.2.1 v.2.2.2 : Option B_u36q)) := fun_FH (F := F69) (L := []) (t := fun (v : List UInt8 × List AV × List AV × List UInt8) => tr_u36q v.1 v.2.1 v.2.2.1 v.2.2.2) T5_ok (LOk_of (l := []) (by kernel_rfl) trivial) (by kernel_rfl) (fun v => by kernel_rfl) (fun v => f_u36q_eq v.1 v.2.1 v.2.2.1 v.2.2.2)
noncomputable def T6 : Tab := (69, FE p_u36q r_u36q (fun (v : List UInt8 × List AV × List AV × List UInt8) => (f_u36q v.1 v.2.1 v.2.2.1 v.2.2.2 : Option B_u36q))) :: T5
theorem T6_ok : TabOk IP T6 := ⟨FE_ok c_u36q, T5_ok⟩
abbrev TT_u6q : Type := List AV × List UInt8 × Int × Int
def hs_u6q : List PSt := [⟨[(1006800, .junk), (0, .view 3), (1, .fn (.func 69) [.ptr [.str]]), (7, .int .i64), (8, .int .i64)], [], 0, 0⟩]
noncomputable def x_u6q_0 (x0 : List AV) (x1 : List UInt8) (x2 x3 : Int) : X × St := (X.ret, { tm := [(4, AV.int IntKind.i64 x3)], hp := [], nx := 0, k := 0 })
noncomputable def x_u6q_1 (x0 : List AV) (x1 : List UInt8) (x2 x3 : Int) : X × St := (X.exit 0, { tm := [(4, AV.junk)], hp := [], nx := 0, k := 0 })
noncomputable def x_u6q : List (TT_u6q → X × St) := [fun w => x_u6q_0 w.1 w.2.1 w.2.2.1 w.2.2.2, fun w => x_u6q_1 w.1 w.2.1 w.2.2.1 w.2.2.2]
noncomputable def st_u6q_0 (x0 : List AV) (x1 : List UInt8) (x2 x3 : Int) : DT (Rd TT_u6q) :=
 .br (decide (x3 < x2))
  (.br (okAt [CS.str, CS.slice 1, CS.slice 1] x0 x3)
   (.bi (f_u36q (strOf (cellAt x0 x3 0)) (viewOf (cellAt x0 x3 1)) (viewOf (cellAt x0 x3 2)) x1) (fun y0 =>
    .br (y0) (.at (.done 0)) (.at (.next ((x0, x1, x2, IntKind.i64.wrap (x3 + 1))))))
    (.no))
   (.no))
  (.at (.done 1))
noncomputable def st_u6q : TT_u6q → DT (Rd TT_u6q) := (fun v => st_u6q_0 v.1 v.2.1 v.2.2.1 v.2.2.2)
noncomputable def l_u6q (v : TT_u6q) : Option (Nat × TT_u6q) := lock (iterO (fun v => (st_u6q v).ev) v)
theorem l_u6q_eq (v : TT_u6q) : l_u6q v = iterO (fun v => (st_u6q v).ev) v := lock_eq _
noncomputable def ll_u6q : LEnt := LE (τ := TT_u6q) (hD hs_u6q) (l_u6q) x_u6q
theorem t_u6q : Go.Eng.Told IP (loopAt F68 0).1 (loopAt F68 0).2 (ll_u6q) := loop_LE (inferInstance : Inhabited TT_u6q) (hs := hs_u6q) (st := st_u6q) (L := []) T6_ok (LOk_of (l := []) (by kernel_rfl) trivial) (l_u6q_eq) (fun v => by kernel_rfl) (fun v => by kernel_rfl)
abbrev B_u7q : Type := Int
def p_u7q : PArgs := ⟨[.view 3, .fn (.func 69) [.ptr [.str]]], []⟩
def r_u7q : List PRes := [⟨false, .int .i64, []⟩]
noncomputable def tr_u7q (x0 : List AV) (x1 : List UInt8) : DT B_u7q :=
 .bi (pj 0 (l_u6q (x0, x1, (↑x0.length : Int), 0))) (fun y0 =>
  .at (y0.2.2.2))
  (.bi (pj 1 (l_u6q (x0, x1, (↑x0.length : Int), 0))) (fun y0 =>
   .at (-1))
   (.no))
noncomputable def f_u7q (x0 : List AV) (x1 : List UInt8) : Option B_u7q := lock (tr_u7q x0 x1).ev
theorem f_u7q_eq (x0 : List AV) (x1 : List UInt8) : f_u7q x0 x1 = (tr_u7q x0 x1).ev := lock_eq _
theorem c_u7q : FH IP 68 p_u7q r_u7q (fun (v : List AV × List UInt8) => (f_u7q v.1 v.2 : Option B_u7q)) := fun_FH (F := F68) (L := [(1006800, ll_u6q)]) (t := fun (v : List AV × List UInt8) => tr_u7q v.1 v.2) T6_ok (LOk_of (l := [loopAt F68 0]) (by kernel_rfl) ⟨sel_one (by kernel_rfl) t_u6q, trivial⟩) (by kernel_rfl) (fun v => by kernel_rfl) (fun v => f_u7q_eq v.1 v.2)
noncomputable def T7 : Tab := (68, FE p_u7q r_u7q (fun (v : List AV × List UInt8) => (f_u7q v.1 v.2 : Option B_u7q))) :: T6
theorem T7_ok : TabOk IP T7 := ⟨FE_ok c_u7q, T6_ok⟩
abbrev B_u58q : Type := List UInt8 × List AV × List AV × Bool
def p_u58q : PArgs := ⟨[.view 3, .str], []⟩
def r_u58q : List PRes := [⟨false, .tup [.agg [.str, .view 1, .view 1], .bool], []⟩]
noncomputable def tr_u58q (x0 : List AV) (x1 : List UInt8) : DT B_u58q :=
 .bi (f_u7q x0 x1) (fun y0 =>
  .br (decide (y0 < 0))
   (.at (([], [], [], false)))
   (.br (okAt [CS.str, CS.slice 1, CS.slice 1] x0 y0)
    (.br (decide ((viewOf (cellAt x0 y0 1)).length = 0))
     (.br (decide ((viewOf (cellAt x0 y0 2)).length = 0))
      (.at ((strOf (cellAt x0 y0 0), [], [], true)))
      (.br (decide ((viewOf (cellAt x0 y0 2)).length ≠ 0) && decide ((viewOf (cellAt x0 y0 2)).length * 8 ≤ lim))
       (.at ((strOf (cellAt x0 y0 0), [], viewOf (cellAt x0 y0 2), true)))
       (.no)))
     (.br (decide ((viewOf (cellAt x0 y0 1)).length ≠ 0) && decide ((viewOf (cellAt x0 y0 1)).length * 8 ≤ lim))
      (.br (decide ((viewOf (cellAt x0 y0 2)).length = 0))
       (.at ((strOf (cellAt x0 y0 0), viewOf (cellAt x0 y0 1), [], true)))
       (.br (decide ((viewOf (cellAt x0 y0 2)).length ≠ 0) && decide ((viewOf (cellAt x0 y0 2)).length * 8 ≤ lim))
        (.at ((strOf (cellAt x0 y0 0), viewOf (cellAt x0 y0 1), viewOf (cellAt x0 y0 2), true)))
        (.no)))
      (.no)))
    (.no)))
  (.no)
noncomputable def f_u58q (x0 : List AV) (x1 : List UInt8) : Option B_u58q := lock (tr_u58q x0 x1).ev
theorem f_u58q_eq (x0 : List AV) (x1 : List UInt8) : f_u58q x0 x1 = (tr_u58q x0 x1).ev := lock_eq _
theorem c_u58q : FH IP 51 p_u58q r_u58q (fun (v : List AV × List UInt8) => (f_u58q v.1 v.2 : Option B_u58q)) := fun_FH (F := F51) (L := []) (t := fun (v : List AV × List UInt8) => tr_u58q v.1 v.2) T7_ok (LOk_of (l := []) (by kernel_rfl) trivial) (by kernel_rfl) (fun v => by kernel_rfl) (fun v => f_u58q_eq v.1 v.2)
noncomputable def T8 : Tab := (51, FE p_u58q r_u58q (fun (v : List AV × List UInt8) => (f_u58q v.1 v.2 : Option B_u58q))) :: T7
theorem T8_ok : TabOk IP T8 := ⟨FE_ok c_u58q, T7_ok⟩
abbrev TT_u52q : Type := List UInt8 × Int × Int
def hs_u52q : List PSt := [⟨[(1005200, .junk), (0, .str), (7, .int .i64), (8, .int .i64)], [], 0, 0⟩]
noncomputable def x_u52q_0 (x0 : List UInt8) (x1 x2 : Int) : X × St := (X.ret, { tm := [(0, AV.str x0), (2, AV.bool false)], hp := [], nx := 0, k := 0 })
noncomputable def x_u52q_1 (x0 : List UInt8) (x1 x2 : Int) : X × St := (X.exit 0, { tm := [(0, AV.str x0), (2, AV.junk)], hp := [], nx := 0, k := 0 })
noncomputable def x_u52q : List (TT_u52q → X × St) := [fun w => x_u52q_0 w.1 w.2.1 w.2.2, fun w => x_u52q_1 w.1 w.2.1 w.2.2]
noncomputable def st_u52q_0 (x0 : List UInt8) (x1 x2 : Int) : DT (Rd TT_u52q) :=
 .br (decide (x2 < x1))
  (.br (inB x0.length x2)
   (.bi (br (decide (byteAt x0 x2 ≥ 97)) (some (decide (byteAt x0 x2 ≤ 122))) (some false)) (fun y0 =>
    .bi (br (!y0) (br (x2 == 0) (some true) (br (byteAt x0 x2 != 95) (br (decide (byteAt x0 x2 < 48)) (some true) (some (decide (byteAt x0 x2 > 57)))) (some false))) (some false)) (fun y1 =>
     .br (y1) (.at (.done 0)) (.at (.next ((x0, x1, IntKind.i64.wrap (x2 + 1))))))
     (.no))
    (.no))
   (.no))
  (.at (.done 1))
noncomputable def st_u52q : TT_u52q → DT (Rd TT_u52q) := (fun v => st_u52q_0 v.1 v.2.1 v.2.2)
noncomputable def l_u52q (v : TT_u52q) : Option (Nat × TT_u52q) := lock (iterO (fun v => (st_u52q v).ev) v)
theorem l_u52q_eq (v : TT_u52q) : l_u52q v = iterO (fun v => (st_u52q v).ev) v := lock_eq _
noncomputable def ll_u52q : LEnt := LE (τ := TT_u52q) (hD hs_u52q) (l_u52q) x_u52q
theorem t_u52q : Go.Eng.Told IP (loopAt F52 0).1 (loopAt F52 0).2 (ll_u52q) := loop_LE (inferInstance : Inhabited TT_u52q) (hs := hs_u52q) (st := st_u52q) (L := []) T8_ok (LOk_of (l := []) (by kernel_rfl) trivial) (l_u52q_eq) (fun v => by kernel_rfl) (fun v => by kernel_rfl)
abbrev B_u79q : Type := Bool
def p_u79q : PArgs := ⟨[.str], []⟩
def r_u79q : List PRes := [⟨false, .bool, []⟩]
noncomputable def tr_u79q (x0 : List UInt8) : DT B_u79q :=
 .bi (pj 0 (l_u52q (x0, (↑x0.length : Int), 0))) (fun y0 =>
  .at (false))
  (.bi (pj 1 (l_u52q (x0, (↑x0.length : Int), 0))) (fun y0 =>
   .bi (br (decide ((↑y0.1.length : Int) ≥ 1)) (some (decide ((↑y0.1.length : Int) ≤ 16))) (some false)) (fun y1 =>
    .at (y1))
    (.no))
   (.no))
noncomputable def f_u79q (x0 : List UInt8) : Option B_u79q := lock (tr_u79q x0).ev
theorem f_u79q_eq (x0 : List UInt8) : f_u79q x0 = (tr_u79q x0).ev := lock_eq _
theorem c_u79q : FH IP 52 p_u79q r_u79q (fun (v : List UInt8) => (f_u79q v : Option B_u79q)) := fun_FH (F := F52) (L := [(1005200, ll_u52q)]) (t := fun (v : List UInt8) => tr_u79q v) T8_ok (LOk_of (l := [loopAt F52 0]) (by kernel_rfl) ⟨sel_one (by kernel_rfl) t_u52q, trivial⟩) (by kernel_rfl) (fun v => by kernel_rfl) (fun v => f_u79q_eq v)
noncomputable def T9 : Tab := (52, FE p_u79q r_u79q (fun (v : List UInt8) => (f_u79q v : Option B_u79q))) :: T8
theorem T9_ok : TabOk IP T9 := ⟨FE_ok c_u79q, T8_ok⟩
abbrev B_u103q : Type := Bool
def p_u103q : PArgs := ⟨[.int .i64], []⟩
def r_u103q : List PRes := [⟨false, .bool, []⟩]
noncomputable def tr_u103q (x0 : Int) : DT B_u103q :=
 .bi (br (decide (x0 ≥ 0)) (some (decide (x0 ≤ 73048))) (some false)) (fun y0 =>
  .at (y0))
  (.no)
noncomputable def f_u103q (x0 : Int) : Option B_u103q := lock (tr_u103q x0).ev
theorem f_u103q_eq (x0 : Int) : f_u103q x0 = (tr_u103q x0).ev := lock_eq _
theorem c_u103q : FH IP 53 p_u103q r_u103q (fun (v : Int) => (f_u103q v : Option B_u103q)) := fun_FH (F := F53) (L := []) (t := fun (v : Int) => tr_u103q v) T9_ok (LOk_of (l := []) (by kernel_rfl) trivial) (by kernel_rfl) (fun v => by kernel_rfl) (fun v => f_u103q_eq v)
noncomputable def T10 : Tab := (53, FE p_u103q r_u103q (fun (v : Int) => (f_u103q v : Option B_u103q))) :: T9
theorem T10_ok : TabOk IP T10 := ⟨FE_ok c_u103q, T9_ok⟩
abbrev B_u78q : Type := Int
def p_u78q : PArgs := ⟨[.agg [.str, .str, .str, .int .i64, .int .i64, .int .i64, .int .i64, .view 2, .bool, .int .i64, .int .i64, .bool, .view 2, .bool, .int .i64, .int .i64, .bool, .view 10, .view 6], .view 2, .view 3], []⟩
def r_u78q : List PRes := [⟨false, .int .i64, []⟩]
noncomputable def tr_u78q (x0 x1 x2 : List UInt8) (x3 x4 : Int) (x5 x6 : Int) (x7 : List AV) (x8 : Bool) (x9 x10 : Int) (x11 : Bool) (x12 : List AV) (x13 : Bool) (x14 x15 : Int) (x16 : Bool) (x17 x18 : List AV) (x19 x20 : List AV) : DT B_u78q :=
 .bi (f_u108q x19 x1) (fun y0 =>
  .bi (f_u58q x20 x2) (fun y1 =>
   .bi (br (x4 == 1) (some true) (some (x4 == 3))) (fun y2 =>
    .bi (br y2 (some true) (some (x4 == 6))) (fun y3 =>
     .bi (br y3 (some true) (some (x4 == 12))) (fun y4 =>
      .bi (f_u79q x0) (fun y5 =>
       .br (!y5)
        (.at (4))
        (.br (!y0.2.2)
         (.at (14))
         (.br (!y1.2.2.2)
          (.at (11))
          (.bi (f_u103q x3) (fun y6 =>
           .bi (br (!y6) (some true) (some !y4)) (fun y7 =>
            .bi (br y7 (some true) (some (decide (x5 < 0)))) (fun y8 =>
             .bi (br y8 (some true) (some (decide (x5 > 1000000000000)))) (fun y9 =>
              .bi (br y9 (some true) (some (decide (x6 < 0)))) (fun y10 =>
               .bi (br y10 (some true) (some (decide (x6 > 1000000)))) (fun y11 =>
                .br (y11) (.at (1)) (.at (0)))
                (.no))
               (.no))
              (.no))
             (.no))
            (.no))
           (.no)))))
       (.no))
      (.no))
     (.no))
    (.no))
   (.no))
  (.no)
noncomputable def f_u78q (x0 x1 x2 : List UInt8) (x3 x4 : Int) (x5 x6 : Int) (x7 : List AV) (x8 : Bool) (x9 x10 : Int) (x11 : Bool) (x12 : List AV) (x13 : Bool) (x14 x15 : Int) (x16 : Bool) (x17 x18 : List AV) (x19 x20 : List AV) : Option B_u78q := lock (tr_u78q x0 x1 x2 x3 x4 x5 x6 x7 x8 x9 x10 x11 x12 x13 x14 x15 x16 x17 x18 x19 x20).ev
theorem f_u78q_eq (x0 x1 x2 : List UInt8) (x3 x4 : Int) (x5 x6 : Int) (x7 : List AV) (x8 : Bool) (x9 x10 : Int) (x11 : Bool) (x12 : List AV) (x13 : Bool) (x14 x15 : Int) (x16 : Bool) (x17 x18 : List AV) (x19 x20 : List AV) : f_u78q x0 x1 x2 x3 x4 x5 x6 x7 x8 x9 x10 x11 x12 x13 x14 x15 x16 x17 x18 x19 x20 = (tr_u78q x0 x1 x2 x3 x4 x5 x6 x7 x8 x9 x10 x11 x12 x13 x14 x15 x16 x17 x18 x19 x20).ev := lock_eq _
theorem c_u78q : FH IP 27 p_u78q r_u78q (fun (v : List UInt8 × List UInt8 × List UInt8 × Int × Int × Int × Int × List AV × Bool × Int × Int × Bool × List AV × Bool × Int × Int × Bool × List AV × List AV × List AV × List AV) => (f_u78q v.1 v.2.1 v.2.2.1 v.2.2.2.1 v.2.2.2.2.1 v.2.2.2.2.2.1 v.2.2.2.2.2.2.1 v.2.2.2.2.2.2.2.1 v.2.2.2.2.2.2.2.2.1 v.2.2.2.2.2.2.2.2.2.1 v.2.2.2.2.2.2.2.2.2.2.1 v.2.2.2.2.2.2.2.2.2.2.2.1 v.2.2.2.2.2.2.2.2.2.2.2.2.1 v.2.2.2.2.2.2.2.2.2.2.2.2.2.1 v.2.2.2.2.2.2.2.2.2.2.2.2.2.2.1 v.2.2.2.2.2.2.2.2.2.2.2.2.2.2.2.1 v.2.2.2.2.2.2.2.2.2.2.2.2.2.2.2.2.1 v.2.2.2.2.2.2.2.2.2.2.2.2.2.2.2.2.2.1 v.2.2.2.2.2.2.2.2.2.2.2.2.2.2.2.2.2.2.1 v.2.2.2.2.2.2.2.2.2.2.2.2.2.2.2.2.2.2.2.1 v.2.2.2.2.2.2.2.2.2.2.2.2.2.2.2.2.2.2.2.2 : Option B_u78q)) := fun_FH (F := F27) (L := []) (t := fun (v : List UInt8 × List UInt8 × List UInt8 × Int × Int × Int × Int × List AV × Bool × Int × Int × Bool × List AV × Bool × Int × Int × Bool × List AV × List AV × List AV × List AV) => tr_u78q v.1 v.2.1 v.2.2.1 v.2.2.2.1 v.2.2.2.2.1 v.2.2.2.2.2.1 v.2.2.2.2.2.2.1 v.2.2.2.2.2.2.2.1 v.2.2.2.2.2.2.2.2.1 v.2.2.2.2.2.2.2.2.2.1 v.2.2.2.2.2.2.2.2.2.2.1 v.2.2.2.2.2.2.2.2.2.2.2.1 v.2.2.2.2.2.2.2.2.2.2.2.2.1 v.2.2.2.2.2.2.2.2.2.2.2.2.2.1 v.2.2.2.2.2.2.2.2.2.2.2.2.2.2.1 v.2.2.2.2.2.2.2.2.2.2.2.2.2.2.2.1 v.2.2.2.2.2.2.2.2.2.2.2.2.2.2.2.2.1 v.2.2.2.2.2.2.2.2.2.2.2.2.2.2.2.2.2.1 v.2.2.2.2.2.2.2.2.2.2.2.2.2.2.2.2.2.2.1 v.2.2.2.2.2.2.2.2.2.2.2.2.2.2.2.2.2.2.2.1 v.2.2.2.2.2.2.2.2.2.2.2.2.2.2.2.2.2.2.2.2) T10_ok (LOk_of (l := []) (by kernel_rfl) trivial) (by kernel_rfl) (fun v => by kernel_rfl) (fun v => f_u78q_eq v.1 v.2.1 v.2.2.1 v.2.2.2.1 v.2.2.2.2.1 v.2.2.2.2.2.1 v.2.2.2.2.2.2.1 v.2.2.2.2.2.2.2.1 v.2.2.2.2.2.2.2.2.1 v.2.2.2.2.2.2.2.2.2.1 v.2.2.2.2.2.2.2.2.2.2.1 v.2.2.2.2.2.2.2.2.2.2.2.1 v.2.2.2.2.2.2.2.2.2.2.2.2.1 v.2.2.2.2.2.2.2.2.2.2.2.2.2.1 v.2.2.2.2.2.2.2.2.2.2.2.2.2.2.1 v.2.2.2.2.2.2.2.2.2.2.2.2.2.2.2.1 v.2.2.2.2.2.2.2.2.2.2.2.2.2.2.2.2.1 v.2.2.2.2.2.2.2.2.2.2.2.2.2.2.2.2.2.1 v.2.2.2.2.2.2.2.2.2.2.2.2.2.2.2.2.2.2.1 v.2.2.2.2.2.2.2.2.2.2.2.2.2.2.2.2.2.2.2.1 v.2.2.2.2.2.2.2.2.2.2.2.2.2.2.2.2.2.2.2.2)
noncomputable def T11 : Tab := (27, FE p_u78q r_u78q (fun (v : List UInt8 × List UInt8 × List UInt8 × Int × Int × Int × Int × List AV × Bool × Int × Int × Bool × List AV × Bool × Int × Int × Bool × List AV × List AV × List AV × List AV) => (f_u78q v.1 v.2.1 v.2.2.1 v.2.2.2.1 v.2.2.2.2.1 v.2.2.2.2.2.1 v.2.2.2.2.2.2.1 v.2.2.2.2.2.2.2.1 v.2.2.2.2.2.2.2.2.1 v.2.2.2.2.2.2.2.2.2.1 v.2.2.2.2.2.2.2.2.2.2.1 v.2.2.2.2.2.2.2.2.2.2.2.1 v.2.2.2.2.2.2.2.2.2.2.2.2.1 v.2.2.2.2.2.2.2.2.2.2.2.2.2.1 v.2.2.2.2.2.2.2.2.2.2.2.2.2.2.1 v.2.2.2.2.2.2.2.2.2.2.2.2.2.2.2.1 v.2.2.2.2.2.2.2.2.2.2.2.2.2.2.2.2.1 v.2.2.2.2.2.2.2.2.2.2.2.2.2.2.2.2.2.1 v.2.2.2.2.2.2.2.2.2.2.2.2.2.2.2.2.2.2.1 v.2.2.2.2.2.2.2.2.2.2.2.2.2.2.2.2.2.2.2.1 v.2.2.2.2.2.2.2.2.2.2.2.2.2.2.2.2.2.2.2.2 : Option B_u78q))) :: T10
theorem T11_ok : TabOk IP T11 := ⟨FE_ok c_u78q, T10_ok⟩
end Go.Proofs.H15e

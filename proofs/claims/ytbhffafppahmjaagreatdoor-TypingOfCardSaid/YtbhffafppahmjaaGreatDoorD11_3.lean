/- Functions over plain data. Printed by a program of mine. -/
import Derived.Test.YtbhffafppahmjaaGreatDoorD11_2
import Derived.KernelRfl
set_option linter.unusedVariables false
set_option linter.unusedSimpArgs false
set_option linter.unnecessarySimpa false
namespace Go.Proofs.H11
open Go Go.Eng
set_option maxRecDepth 100000
noncomputable def N_u71q : Nat → GT_u71q × GT_u0q × GT_u4q × GT_u36q
  | 0 => (fun _ _ _ _ => none, fun _ => none, fun _ => none, fun _ _ _ _ => none)
  | n + 1 => (fun x0 x1 x2 x3 => (tr_u71q ((N_u71q n).1) ((N_u71q n).2.1) ((N_u71q n).2.2.1) ((N_u71q n).2.2.2) x0 x1 x2 x3).ev, fun x0 => (tr_u0q ((N_u71q n).1) ((N_u71q n).2.1) ((N_u71q n).2.2.1) ((N_u71q n).2.2.2) x0).ev, fun x0 => (tr_u4q ((N_u71q n).1) ((N_u71q n).2.1) ((N_u71q n).2.2.1) ((N_u71q n).2.2.2) x0).ev, fun x0 x1 x2 x3 => (tr_u36q ((N_u71q n).1) ((N_u71q n).2.1) ((N_u71q n).2.2.1) ((N_u71q n).2.2.2) x0 x1 x2 x3).ev)
noncomputable def f_u71q (x0 : Int) (x1 : Int) (x2 : List UInt8) (x3 : List AV) : Option B_u71q := limO fun n => (N_u71q n).1 x0 x1 x2 x3
noncomputable def f_u0q (x0 : List AV) : Option B_u0q := limO fun n => (N_u71q n).2.1 x0
noncomputable def f_u4q (x0 : List AV) : Option B_u4q := limO fun n => (N_u71q n).2.2.1 x0
noncomputable def f_u36q (x0 : Int) (x1 : Int) (x2 : List UInt8) (x3 : List AV) : Option B_u36q := limO fun n => (N_u71q n).2.2.2 x0 x1 x2 x3
theorem N_u71q_ok : ∀ n, GH_u71q ((N_u71q n).1) ((N_u71q n).2.1) ((N_u71q n).2.2.1) ((N_u71q n).2.2.2)
  | 0 => ⟨(fun v y h => nomatch h), (fun v y h => nomatch h), (fun v y h => nomatch h), (fun v y h => nomatch h)⟩
  | n + 1 => have hG := N_u71q_ok n
    ⟨fun_FH (F := F32) (L := []) (t := fun (v : Int × Int × List UInt8 × List AV) => tr_u71q ((N_u71q n).1) ((N_u71q n).2.1) ((N_u71q n).2.2.1) ((N_u71q n).2.2.2) v.1 v.2.1 v.2.2.1 v.2.2.2) (TG_u71q_ok ((N_u71q n).1) ((N_u71q n).2.1) ((N_u71q n).2.2.1) ((N_u71q n).2.2.2) hG) (LOk_of (l := []) (by kernel_rfl) trivial) (by kernel_rfl) (fun v => by kernel_rfl) (fun v => rfl), fun_FH (F := F43) (L := []) (t := fun (v : List AV) => tr_u0q ((N_u71q n).1) ((N_u71q n).2.1) ((N_u71q n).2.2.1) ((N_u71q n).2.2.2) v) (TG_u71q_ok ((N_u71q n).1) ((N_u71q n).2.1) ((N_u71q n).2.2.1) ((N_u71q n).2.2.2) hG) (LOk_of (l := []) (by kernel_rfl) trivial) (by kernel_rfl) (fun v => by kernel_rfl) (fun v => rfl), fun_FH (F := F49) (L := [(1004900, ll_u2q ((N_u71q n).1) ((N_u71q n).2.1) ((N_u71q n).2.2.1) ((N_u71q n).2.2.2))]) (t := fun (v : List AV) => tr_u4q ((N_u71q n).1) ((N_u71q n).2.1) ((N_u71q n).2.2.1) ((N_u71q n).2.2.2) v) (TG_u71q_ok ((N_u71q n).1) ((N_u71q n).2.1) ((N_u71q n).2.2.1) ((N_u71q n).2.2.2) hG) (LOk_of (l := [loopAt F49 0]) (by kernel_rfl) ⟨sel_one (by kernel_rfl) (t_u2q ((N_u71q n).1) ((N_u71q n).2.1) ((N_u71q n).2.2.1) ((N_u71q n).2.2.2) hG), trivial⟩) (by kernel_rfl) (fun v => by kernel_rfl) (fun v => rfl), fun_FH (F := F44) (L := []) (t := fun (v : Int × Int × List UInt8 × List AV) => tr_u36q ((N_u71q n).1) ((N_u71q n).2.1) ((N_u71q n).2.2.1) ((N_u71q n).2.2.2) v.1 v.2.1 v.2.2.1 v.2.2.2) (TG_u71q_ok ((N_u71q n).1) ((N_u71q n).2.1) ((N_u71q n).2.2.1) ((N_u71q n).2.2.2) hG) (LOk_of (l := []) (by kernel_rfl) trivial) (by kernel_rfl) (fun v => by kernel_rfl) (fun v => rfl)⟩
theorem c_u71q : FH IP 32 p_u71q r_u71q (fun (v : Int × Int × List UInt8 × List AV) => (f_u71q v.1 v.2.1 v.2.2.1 v.2.2.2 : Option B_u71q)) := lim_FH (p := p_u71q) (rs := r_u71q) (s := fun n (v : Int × Int × List UInt8 × List AV) => (N_u71q n).1 v.1 v.2.1 v.2.2.1 v.2.2.2) fun n => (N_u71q_ok n).1
theorem c_u0q : FH IP 43 p_u0q r_u0q (fun (v : List AV) => (f_u0q v : Option B_u0q)) := lim_FH (p := p_u0q) (rs := r_u0q) (s := fun n (v : List AV) => (N_u71q n).2.1 v) fun n => (N_u71q_ok n).2.1
theorem c_u4q : FH IP 49 p_u4q r_u4q (fun (v : List AV) => (f_u4q v : Option B_u4q)) := lim_FH (p := p_u4q) (rs := r_u4q) (s := fun n (v : List AV) => (N_u71q n).2.2.1 v) fun n => (N_u71q_ok n).2.2.1
theorem c_u36q : FH IP 44 p_u36q r_u36q (fun (v : Int × Int × List UInt8 × List AV) => (f_u36q v.1 v.2.1 v.2.2.1 v.2.2.2 : Option B_u36q)) := lim_FH (p := p_u36q) (rs := r_u36q) (s := fun n (v : Int × Int × List UInt8 × List AV) => (N_u71q n).2.2.2 v.1 v.2.1 v.2.2.1 v.2.2.2) fun n => (N_u71q_ok n).2.2.2
noncomputable def T40 : Tab := (32, FE p_u71q r_u71q (fun (v : Int × Int × List UInt8 × List AV) => (f_u71q v.1 v.2.1 v.2.2.1 v.2.2.2 : Option B_u71q))) :: T39
theorem T40_ok : TabOk IP T40 := ⟨FE_ok c_u71q, T39_ok⟩
noncomputable def T41 : Tab := (43, FE p_u0q r_u0q (fun (v : List AV) => (f_u0q v : Option B_u0q))) :: T40
theorem T41_ok : TabOk IP T41 := ⟨FE_ok c_u0q, T40_ok⟩
noncomputable def T42 : Tab := (49, FE p_u4q r_u4q (fun (v : List AV) => (f_u4q v : Option B_u4q))) :: T41
theorem T42_ok : TabOk IP T42 := ⟨FE_ok c_u4q, T41_ok⟩
noncomputable def T43 : Tab := (44, FE p_u36q r_u36q (fun (v : Int × Int × List UInt8 × List AV) => (f_u36q v.1 v.2.1 v.2.2.1 v.2.2.2 : Option B_u36q))) :: T42
theorem T43_ok : TabOk IP T43 := ⟨FE_ok c_u36q, T42_ok⟩
abbrev B_u35q : Type := Int
def p_u35q : PArgs := ⟨[.agg [.int .i64, .int .i64, .str, .view 4]], []⟩
def r_u35q : List PRes := [⟨false, .int .i64, []⟩]
noncomputable def tr_u35q (x0 : Int) (x1 : Int) (x2 : List UInt8) (x3 : List AV) : DT B_u35q :=
 .bi (f_u87q x0 x1 x2 x3) (fun y0 =>
  .bi (br (decide (y0 > 64)) (some true) (br (sm (f_u88q x0 x1 x2 x3)) (some (decide (gv (f_u88q x0 x1 x2 x3) > 8))) none)) (fun y1 =>
   .br (y1)
    (.at (5))
    (.bi (f_u89q x0 x1 x2 x3) (fun y2 =>
     .br (!y2)
      (.at (1))
      (.bi (f_u71q x0 x1 x2 x3) (fun y3 =>
       .br (!y3) (.at (4)) (.at (0)))
       (.no)))
     (.no)))
   (.no))
  (.no)
noncomputable def f_u35q (x0 : Int) (x1 : Int) (x2 : List UInt8) (x3 : List AV) : Option B_u35q := lock (tr_u35q x0 x1 x2 x3).ev
theorem f_u35q_eq (x0 : Int) (x1 : Int) (x2 : List UInt8) (x3 : List AV) : f_u35q x0 x1 x2 x3 = (tr_u35q x0 x1 x2 x3).ev := lock_eq _
theorem c_u35q : FH IP 18 p_u35q r_u35q (fun (v : Int × Int × List UInt8 × List AV) => (f_u35q v.1 v.2.1 v.2.2.1 v.2.2.2 : Option B_u35q)) := fun_FH (F := F18) (L := []) (t := fun (v : Int × Int × List UInt8 × List AV) => tr_u35q v.1 v.2.1 v.2.2.1 v.2.2.2) T43_ok (LOk_of (l := []) (by kernel_rfl) trivial) (by kernel_rfl) (fun v => by kernel_rfl) (fun v => f_u35q_eq v.1 v.2.1 v.2.2.1 v.2.2.2)
noncomputable def T44 : Tab := (18, FE p_u35q r_u35q (fun (v : Int × Int × List UInt8 × List AV) => (f_u35q v.1 v.2.1 v.2.2.1 v.2.2.2 : Option B_u35q))) :: T43
theorem T44_ok : TabOk IP T44 := ⟨FE_ok c_u35q, T43_ok⟩
abbrev TT_u45q : Type := List AV × List AV × Int × Int × List AV × Int × Int × List UInt8 × Int
def hs_u45q : List PSt := [⟨[(1000801, .junk), (0, .view 2), (4, .ref 0 0 0), (10, .view 2), (11, .int .i64), (12, .int .i64), (24, .view 2), (25, .int .i64), (26, .int .i64)], [(0, .box [.str, .int .i64] false)], 1, 0⟩]
noncomputable def x_u45q_0 (x0 : List AV) (x1 : List AV) (x2 : Int) (x3 : Int) (x4 : List AV) (x5 : Int) (x6 : Int) (x7 : List UInt8) (x8 : Int) : X × St := (X.ret,
  { tm := [(0, AV.view 2 x0), (2, AV.int IntKind.i64 12), (4, AV.ref 0 0 0), (10, AV.view 2 x1), (11, AV.int IntKind.i64 x2), (12, AV.int IntKind.i64 x3)],
    hp := [(0, Blk.box [AV.str x7, AV.int IntKind.i64 x8] false)], nx := 1, k := 0 })
noncomputable def x_u45q_1 (x0 : List AV) (x1 : List AV) (x2 : Int) (x3 : Int) (x4 : List AV) (x5 : Int) (x6 : Int) (x7 : List UInt8) (x8 : Int) : X × St := (X.exit 2,
  { tm := [(0, AV.view 2 x0), (2, AV.junk), (4, AV.ref 0 0 0), (10, AV.view 2 x1), (11, AV.int IntKind.i64 x2), (12, AV.int IntKind.i64 x3)],
    hp := [(0, Blk.box [AV.str x7, AV.int IntKind.i64 x8] false)], nx := 1, k := 0 })
noncomputable def x_u45q : List (TT_u45q → X × St) := [fun w => x_u45q_0 w.1 w.2.1 w.2.2.1 w.2.2.2.1 w.2.2.2.2.1 w.2.2.2.2.2.1 w.2.2.2.2.2.2.1 w.2.2.2.2.2.2.2.1 w.2.2.2.2.2.2.2.2, fun w => x_u45q_1 w.1 w.2.1 w.2.2.1 w.2.2.2.1 w.2.2.2.2.1 w.2.2.2.2.2.1 w.2.2.2.2.2.2.1 w.2.2.2.2.2.2.2.1 w.2.2.2.2.2.2.2.2]
noncomputable def st_u45q_0 (x0 : List AV) (x1 : List AV) (x2 : Int) (x3 : Int) (x4 : List AV) (x5 : Int) (x6 : Int) (x7 : List UInt8) (x8 : Int) : DT (Rd TT_u45q) :=
 .br (decide (x6 < x5))
  (.br (okAt [CS.str, CS.int IntKind.i64] x4 x6)
   (.br (strOf (cellAt x4 x6 0) == x7) (.at (.done 0)) (.at (.next ((x0, x1, x2, x3, x4, x5, IntKind.i64.wrap (x6 + 1), x7, x8)))))
   (.no))
  (.at (.done 1))
noncomputable def st_u45q : TT_u45q → DT (Rd TT_u45q) := (fun v => st_u45q_0 v.1 v.2.1 v.2.2.1 v.2.2.2.1 v.2.2.2.2.1 v.2.2.2.2.2.1 v.2.2.2.2.2.2.1 v.2.2.2.2.2.2.2.1 v.2.2.2.2.2.2.2.2)
noncomputable def l_u45q (v : TT_u45q) : Option (Nat × TT_u45q) := lock (iterO (fun v => (st_u45q v).ev) v)
theorem l_u45q_eq (v : TT_u45q) : l_u45q v = iterO (fun v => (st_u45q v).ev) v := lock_eq _
noncomputable def ll_u45q : LEnt := LE (τ := TT_u45q) (hD hs_u45q) (l_u45q) x_u45q
theorem t_u45q : Go.Eng.Told IP (loopAt F8 1).1 (loopAt F8 1).2 (ll_u45q) := loop_LE (inferInstance : Inhabited TT_u45q) (hs := hs_u45q) (st := st_u45q) (L := []) T44_ok (LOk_of (l := []) (by kernel_rfl) trivial) (l_u45q_eq) (fun v => by kernel_rfl) (fun v => by kernel_rfl)
abbrev B_u63q : Type := Bool
def p_u63q : PArgs := ⟨[.int .i64], []⟩
def r_u63q : List PRes := [⟨false, .bool, []⟩]
noncomputable def tr_u63q (x0 : Int) : DT B_u63q :=
 .bi (br (decide (x0 ≥ 1)) (some (decide (x0 ≤ 5))) (some false)) (fun y0 =>
  .at (y0))
  (.no)
noncomputable def f_u63q (x0 : Int) : Option B_u63q := lock (tr_u63q x0).ev
theorem f_u63q_eq (x0 : Int) : f_u63q x0 = (tr_u63q x0).ev := lock_eq _
theorem c_u63q : FH IP 19 p_u63q r_u63q (fun (v : Int) => (f_u63q v : Option B_u63q)) := fun_FH (F := F19) (L := []) (t := fun (v : Int) => tr_u63q v) T44_ok (LOk_of (l := []) (by kernel_rfl) trivial) (by kernel_rfl) (fun v => by kernel_rfl) (fun v => f_u63q_eq v)
noncomputable def T45 : Tab := (19, FE p_u63q r_u63q (fun (v : Int) => (f_u63q v : Option B_u63q))) :: T44
theorem T45_ok : TabOk IP T45 := ⟨FE_ok c_u63q, T44_ok⟩
abbrev TT_u44q : Type := List AV × List AV × Int × Int
def hs_u44q : List PSt := [⟨[(1000800, .junk), (0, .view 2), (10, .view 2), (11, .int .i64), (12, .int .i64)], [], 0, 0⟩]
noncomputable def x_u44q_0 (x0 : List AV) (x1 : List AV) (x2 : Int) (x3 : Int) : X × St := (X.ret, { tm := [(2, AV.int IntKind.i64 4)], hp := [], nx := 0, k := 0 })
noncomputable def x_u44q_1 (x0 : List AV) (x1 : List AV) (x2 : Int) (x3 : Int) : X × St := (X.ret, { tm := [(2, AV.int IntKind.i64 12)], hp := [], nx := 0, k := 0 })
noncomputable def x_u44q_2 (x0 : List AV) (x1 : List AV) (x2 : Int) (x3 : Int) : X × St := (X.ret, { tm := [(2, AV.int IntKind.i64 3)], hp := [], nx := 0, k := 0 })
noncomputable def x_u44q_3 (x0 : List AV) (x1 : List AV) (x2 : Int) (x3 : Int) : X × St := (X.exit 0, { tm := [(2, AV.junk)], hp := [], nx := 0, k := 0 })
noncomputable def x_u44q : List (TT_u44q → X × St) := [fun w => x_u44q_0 w.1 w.2.1 w.2.2.1 w.2.2.2, fun w => x_u44q_1 w.1 w.2.1 w.2.2.1 w.2.2.2, fun w => x_u44q_2 w.1 w.2.1 w.2.2.1 w.2.2.2, fun w => x_u44q_3 w.1 w.2.1 w.2.2.1 w.2.2.2]
noncomputable def st_u44q_0 (x0 : List AV) (x1 : List AV) (x2 : Int) (x3 : Int) : DT (Rd TT_u44q) :=
 .br (decide (x3 < x2))
  (.br (okAt [CS.str, CS.int IntKind.i64] x1 x3)
   (.bi (f_u35q 4 0 (strOf (cellAt x1 x3 0)) []) (fun y0 =>
    .br (y0 != 0)
     (.at (.done 0))
     (.br (leB x3 x0.length && true)
      (.bi (pj 0 (l_u45q (x0, x1, x2, x3, List.take x3.toNat x0, (↑(List.take x3.toNat x0).length : Int), 0, strOf (cellAt x1 x3 0), intOf (cellAt x1 x3 1)))) (fun y1 =>
       .at (.done 1))
       (.bi (pj 1 (l_u45q (x0, x1, x2, x3, List.take x3.toNat x0, (↑(List.take x3.toNat x0).length : Int), 0, strOf (cellAt x1 x3 0), intOf (cellAt x1 x3 1)))) (fun y1 =>
        .bi (f_u63q y1.snd.snd.snd.snd.snd.snd.snd.snd) (fun y2 =>
         .br (!y2) (.at (.done 2)) (.at (.next ((y1.fst, y1.snd.fst, y1.snd.snd.fst, IntKind.i64.wrap (y1.snd.snd.snd.fst + 1))))))
         (.no))
        (.no)))
      (.no)))
    (.no))
   (.no))
  (.at (.done 3))
noncomputable def st_u44q : TT_u44q → DT (Rd TT_u44q) := (fun v => st_u44q_0 v.1 v.2.1 v.2.2.1 v.2.2.2)
noncomputable def l_u44q (v : TT_u44q) : Option (Nat × TT_u44q) := lock (iterO (fun v => (st_u44q v).ev) v)
theorem l_u44q_eq (v : TT_u44q) : l_u44q v = iterO (fun v => (st_u44q v).ev) v := lock_eq _
noncomputable def ll_u44q : LEnt := LE (τ := TT_u44q) (hD hs_u44q) (l_u44q) x_u44q
theorem t_u44q : Go.Eng.Told IP (loopAt F8 0).1 (loopAt F8 0).2 (ll_u44q) := loop_LE (inferInstance : Inhabited TT_u44q) (hs := hs_u44q) (st := st_u44q) (L := [(1000801, ll_u45q)]) T45_ok (LOk_of (l := [loopAt F8 1]) (by kernel_rfl) ⟨sel_one (by kernel_rfl) t_u45q, trivial⟩) (l_u44q_eq) (fun v => by kernel_rfl) (fun v => by kernel_rfl)
abbrev B_u77q : Type := Int
def p_u77q : PArgs := ⟨[.view 2], []⟩
def r_u77q : List PRes := [⟨false, .int .i64, []⟩]
noncomputable def tr_u77q (x0 : List AV) : DT B_u77q :=
 .br (decide ((↑x0.length : Int) > 64))
  (.at (5))
  (.bi (pj 0 (l_u44q (x0, x0, (↑x0.length : Int), 0))) (fun y0 =>
   .at (4))
   (.bi (pj 1 (l_u44q (x0, x0, (↑x0.length : Int), 0))) (fun y0 =>
    .at (12))
    (.bi (pj 2 (l_u44q (x0, x0, (↑x0.length : Int), 0))) (fun y0 =>
     .at (3))
     (.bi (pj 3 (l_u44q (x0, x0, (↑x0.length : Int), 0))) (fun y0 =>
      .at (0))
      (.no)))))
noncomputable def f_u77q (x0 : List AV) : Option B_u77q := lock (tr_u77q x0).ev
theorem f_u77q_eq (x0 : List AV) : f_u77q x0 = (tr_u77q x0).ev := lock_eq _
theorem c_u77q : FH IP 8 p_u77q r_u77q (fun (v : List AV) => (f_u77q v : Option B_u77q)) := fun_FH (F := F8) (L := [(1000800, ll_u44q)]) (t := fun (v : List AV) => tr_u77q v) T45_ok (LOk_of (l := [loopAt F8 0, loopAt F8 1]) (by kernel_rfl) ⟨sel_one (by kernel_rfl) t_u44q, sel_no (by kernel_rfl), trivial⟩) (by kernel_rfl) (fun v => by kernel_rfl) (fun v => f_u77q_eq v)
noncomputable def T46 : Tab := (8, FE p_u77q r_u77q (fun (v : List AV) => (f_u77q v : Option B_u77q))) :: T45
theorem T46_ok : TabOk IP T46 := ⟨FE_ok c_u77q, T45_ok⟩
abbrev TT_u79q : Type := List UInt8 × Int
def hs_u79q : List PSt := [⟨[(1003500, .junk), (0, .str), (3, .int .i64)], [], 0, 0⟩]
noncomputable def x_u79q_0 (x0 : List UInt8) (x1 : Int) : X × St := (X.ret, { tm := [(2, AV.bool false)], hp := [], nx := 0, k := 0 })
noncomputable def x_u79q_1 (x0 : List UInt8) (x1 : Int) : X × St := (X.exit 0, { tm := [(2, AV.junk)], hp := [], nx := 0, k := 0 })
noncomputable def x_u79q : List (TT_u79q → X × St) := [fun w => x_u79q_0 w.1 w.2, fun w => x_u79q_1 w.1 w.2]
noncomputable def st_u79q_0 (x0 : List UInt8) (x1 : Int) : DT (Rd TT_u79q) :=
 .br (decide (x1 < (↑x0.length : Int)))
  (.br (inB x0.length x1)
   (.bi (br (decide (byteAt x0 x1 < 97)) (some true) (br (inB x0.length x1) (some (decide (byteAt x0 x1 > 122))) none)) (fun y0 =>
    .bi (br y0 (br (inB x0.length x1) (br (decide (byteAt x0 x1 < 48)) (some true) (br (inB x0.length x1) (some (decide (byteAt x0 x1 > 57))) none)) none) (some false)) (fun y1 =>
     .bi (br y1 (br (inB x0.length x1) (some (byteAt x0 x1 != 95)) none) (some false)) (fun y2 =>
      .br (y2) (.at (.done 0)) (.at (.next ((x0, IntKind.i64.wrap (x1 + 1))))))
      (.no))
     (.no))
    (.no))
   (.no))
  (.at (.done 1))
noncomputable def st_u79q : TT_u79q → DT (Rd TT_u79q) := (fun v => st_u79q_0 v.1 v.2)
noncomputable def l_u79q (v : TT_u79q) : Option (Nat × TT_u79q) := lock (iterO (fun v => (st_u79q v).ev) v)
theorem l_u79q_eq (v : TT_u79q) : l_u79q v = iterO (fun v => (st_u79q v).ev) v := lock_eq _
noncomputable def ll_u79q : LEnt := LE (τ := TT_u79q) (hD hs_u79q) (l_u79q) x_u79q
theorem t_u79q : Go.Eng.Told IP (loopAt F35 0).1 (loopAt F35 0).2 (ll_u79q) := loop_LE (inferInstance : Inhabited TT_u79q) (hs := hs_u79q) (st := st_u79q) (L := []) T46_ok (LOk_of (l := []) (by kernel_rfl) trivial) (l_u79q_eq) (fun v => by kernel_rfl) (fun v => by kernel_rfl)
abbrev B_u107q : Type := Bool
def p_u107q : PArgs := ⟨[.str], []⟩
def r_u107q : List PRes := [⟨false, .bool, []⟩]
noncomputable def tr_u107q (x0 : List UInt8) : DT B_u107q :=
 .bi (br (decide ((↑x0.length : Int) < 1)) (some true) (some (decide ((↑x0.length : Int) > 16)))) (fun y0 =>
  .bi (br y0 (some true) (br (inB x0.length 0) (some (decide (byteAt x0 0 < 97))) none)) (fun y1 =>
   .bi (br y1 (some true) (br (inB x0.length 0) (some (decide (byteAt x0 0 > 122))) none)) (fun y2 =>
    .br (y2)
     (.at (false))
     (.bi (pj 0 (l_u79q (x0, 0))) (fun y3 =>
      .at (false))
      (.bi (pj 1 (l_u79q (x0, 0))) (fun y3 =>
       .at (true))
       (.no))))
    (.no))
   (.no))
  (.no)
noncomputable def f_u107q (x0 : List UInt8) : Option B_u107q := lock (tr_u107q x0).ev
theorem f_u107q_eq (x0 : List UInt8) : f_u107q x0 = (tr_u107q x0).ev := lock_eq _
theorem c_u107q : FH IP 35 p_u107q r_u107q (fun (v : List UInt8) => (f_u107q v : Option B_u107q)) := fun_FH (F := F35) (L := [(1003500, ll_u79q)]) (t := fun (v : List UInt8) => tr_u107q v) T46_ok (LOk_of (l := [loopAt F35 0]) (by kernel_rfl) ⟨sel_one (by kernel_rfl) t_u79q, trivial⟩) (by kernel_rfl) (fun v => by kernel_rfl) (fun v => f_u107q_eq v)
noncomputable def T47 : Tab := (35, FE p_u107q r_u107q (fun (v : List UInt8) => (f_u107q v : Option B_u107q))) :: T46
theorem T47_ok : TabOk IP T47 := ⟨FE_ok c_u107q, T46_ok⟩
abbrev B_u97q : Type := List AV
def p_u97q : PArgs := ⟨[], []⟩
def r_u97q : List PRes := [⟨false, .view 1, []⟩]
noncomputable def tr_u97q : DT B_u97q :=
 .at ([AV.str [112, 114, 111, 100, 117, 99, 116], AV.str [99, 117, 114, 114, 101, 110, 99, 121], AV.str [99, 97, 108, 101, 110, 100, 97, 114], AV.str [102, 114, 111, 109],
  AV.str [101, 118, 101, 114, 121], AV.str [111, 118, 101, 114, 100, 114, 97, 102, 116], AV.str [116, 97, 120], AV.str [99, 114, 101, 100, 105, 116],
  AV.str [100, 101, 98, 105, 116], AV.str [109, 97, 114, 103, 105, 110, 97, 108], AV.str [119, 104, 111, 108, 101], AV.str [97, 99, 116, 51, 54, 48],
  AV.str [97, 99, 116, 51, 54, 53], AV.str [97, 99, 116, 117, 97, 108], AV.str [116, 104, 105, 114, 116, 121], AV.str [100, 111, 119, 110], AV.str [117, 112],
  AV.str [102, 108, 111, 111, 114], AV.str [99, 101, 105, 108], AV.str [104, 97, 108, 102, 95, 117, 112], AV.str [104, 97, 108, 102, 95, 101, 118, 101, 110],
  AV.str [107, 101, 101, 112], AV.str [100, 114, 111, 112], AV.str [102, 101, 101], AV.str [108, 105, 109, 105, 116], AV.str [119, 104, 101, 110],
  AV.str [97, 109, 111, 117, 110, 116, 95, 111, 102], AV.str [115, 105, 110, 103, 108, 101], AV.str [100, 97, 105, 108, 121], AV.str [109, 111, 110, 116, 104, 108, 121],
  AV.str [109, 111, 110, 116, 104], AV.str [114, 101, 116, 117, 114, 110], AV.str [99, 108, 111, 115, 101], AV.str [101, 118, 101, 110, 116], AV.str [105, 102],
  AV.str [116, 104, 101, 110], AV.str [101, 108, 115, 101], AV.str [97, 110, 100], AV.str [111, 114], AV.str [110, 111, 116], AV.str [109, 105, 110], AV.str [109, 97, 120]])
noncomputable def f_u97q : Option B_u97q := lock (tr_u97q).ev
theorem f_u97q_eq : f_u97q = (tr_u97q).ev := lock_eq _
theorem c_u97q : FH IP 47 p_u97q r_u97q (fun (v : Unit) => (f_u97q : Option B_u97q)) := fun_FH (F := F47) (L := []) (t := fun (v : Unit) => tr_u97q) T47_ok (LOk_of (l := []) (by kernel_rfl) trivial) (by kernel_rfl) (fun v => by kernel_rfl) (fun v => f_u97q_eq)
noncomputable def T48 : Tab := (47, FE p_u97q r_u97q (fun (v : Unit) => (f_u97q : Option B_u97q))) :: T47
theorem T48_ok : TabOk IP T48 := ⟨FE_ok c_u97q, T47_ok⟩
abbrev TT_u80q : Type := List UInt8 × List AV × Int
def hs_u80q : List PSt := [⟨[(1003600, .junk), (0, .str), (3, .view 1), (4, .int .i64)], [], 0, 0⟩]
noncomputable def x_u80q_0 (x0 : List UInt8) (x1 : List AV) (x2 : Int) : X × St := (X.ret, { tm := [(2, AV.bool true)], hp := [], nx := 0, k := 0 })
noncomputable def x_u80q_1 (x0 : List UInt8) (x1 : List AV) (x2 : Int) : X × St := (X.exit 0, { tm := [(2, AV.junk)], hp := [], nx := 0, k := 0 })
noncomputable def x_u80q : List (TT_u80q → X × St) := [fun w => x_u80q_0 w.1 w.2.1 w.2.2, fun w => x_u80q_1 w.1 w.2.1 w.2.2]
noncomputable def st_u80q_0 (x0 : List UInt8) (x1 : List AV) (x2 : Int) : DT (Rd TT_u80q) :=
 .br (decide (x2 < (↑x1.length : Int)))
  (.br (okAt [CS.str] x1 x2)
   (.br (strOf (cellAt x1 x2 0) == x0) (.at (.done 0)) (.at (.next ((x0, x1, IntKind.i64.wrap (x2 + 1))))))
   (.no))
  (.at (.done 1))
noncomputable def st_u80q : TT_u80q → DT (Rd TT_u80q) := (fun v => st_u80q_0 v.1 v.2.1 v.2.2)
noncomputable def l_u80q (v : TT_u80q) : Option (Nat × TT_u80q) := lock (iterO (fun v => (st_u80q v).ev) v)
theorem l_u80q_eq (v : TT_u80q) : l_u80q v = iterO (fun v => (st_u80q v).ev) v := lock_eq _
noncomputable def ll_u80q : LEnt := LE (τ := TT_u80q) (hD hs_u80q) (l_u80q) x_u80q
theorem t_u80q : Go.Eng.Told IP (loopAt F36 0).1 (loopAt F36 0).2 (ll_u80q) := loop_LE (inferInstance : Inhabited TT_u80q) (hs := hs_u80q) (st := st_u80q) (L := []) T48_ok (LOk_of (l := []) (by kernel_rfl) trivial) (l_u80q_eq) (fun v => by kernel_rfl) (fun v => by kernel_rfl)
abbrev B_u108q : Type := Bool
def p_u108q : PArgs := ⟨[.str], []⟩
def r_u108q : List PRes := [⟨false, .bool, []⟩]
noncomputable def tr_u108q (x0 : List UInt8) : DT B_u108q :=
 .bi (f_u97q) (fun y0 =>
  .bi (pj 0 (l_u80q (x0, y0, 0))) (fun y1 =>
   .at (true))
   (.bi (pj 1 (l_u80q (x0, y0, 0))) (fun y1 =>
    .at (false))
    (.no)))
  (.no)
noncomputable def f_u108q (x0 : List UInt8) : Option B_u108q := lock (tr_u108q x0).ev
theorem f_u108q_eq (x0 : List UInt8) : f_u108q x0 = (tr_u108q x0).ev := lock_eq _
theorem c_u108q : FH IP 36 p_u108q r_u108q (fun (v : List UInt8) => (f_u108q v : Option B_u108q)) := fun_FH (F := F36) (L := [(1003600, ll_u80q)]) (t := fun (v : List UInt8) => tr_u108q v) T48_ok (LOk_of (l := [loopAt F36 0]) (by kernel_rfl) ⟨sel_one (by kernel_rfl) t_u80q, trivial⟩) (by kernel_rfl) (fun v => by kernel_rfl) (fun v => f_u108q_eq v)
noncomputable def T49 : Tab := (36, FE p_u108q r_u108q (fun (v : List UInt8) => (f_u108q v : Option B_u108q))) :: T48
theorem T49_ok : TabOk IP T49 := ⟨FE_ok c_u108q, T48_ok⟩
abbrev B_u49q : Type := Bool
def p_u49q : PArgs := ⟨[.str], []⟩
def r_u49q : List PRes := [⟨false, .bool, []⟩]
noncomputable def tr_u49q (x0 : List UInt8) : DT B_u49q :=
 .bi (f_u107q x0) (fun y0 =>
  .bi (br y0 (br (sm (f_u108q x0)) (some !gv (f_u108q x0)) none) (some false)) (fun y1 =>
   .at (y1))
   (.no))
  (.no)
noncomputable def f_u49q (x0 : List UInt8) : Option B_u49q := lock (tr_u49q x0).ev
theorem f_u49q_eq (x0 : List UInt8) : f_u49q x0 = (tr_u49q x0).ev := lock_eq _
theorem c_u49q : FH IP 20 p_u49q r_u49q (fun (v : List UInt8) => (f_u49q v : Option B_u49q)) := fun_FH (F := F20) (L := []) (t := fun (v : List UInt8) => tr_u49q v) T49_ok (LOk_of (l := []) (by kernel_rfl) trivial) (by kernel_rfl) (fun v => by kernel_rfl) (fun v => f_u49q_eq v)
noncomputable def T50 : Tab := (20, FE p_u49q r_u49q (fun (v : List UInt8) => (f_u49q v : Option B_u49q))) :: T49
theorem T50_ok : TabOk IP T50 := ⟨FE_ok c_u49q, T49_ok⟩
abbrev TT_u84q : Type := List AV × Int × Int
def hs_u84q : List PSt := [⟨[(1000901, .junk), (0, .view 2), (3, .int .i64), (4, .int .i64)], [], 0, 0⟩]
noncomputable def x_u84q_0 (x0 : List AV) (x1 : Int) (x2 : Int) : X × St := (X.ret, { tm := [(0, AV.view 2 x0), (2, AV.int IntKind.i64 12), (3, AV.int IntKind.i64 x1)], hp := [], nx := 0, k := 0 })
noncomputable def x_u84q_1 (x0 : List AV) (x1 : Int) (x2 : Int) : X × St := (X.exit 2, { tm := [(0, AV.view 2 x0), (2, AV.junk), (3, AV.int IntKind.i64 x1)], hp := [], nx := 0, k := 0 })
noncomputable def x_u84q : List (TT_u84q → X × St) := [fun w => x_u84q_0 w.1 w.2.1 w.2.2, fun w => x_u84q_1 w.1 w.2.1 w.2.2]
noncomputable def st_u84q_0 (x0 : List AV) (x1 : Int) (x2 : Int) : DT (Rd TT_u84q) :=
 .br (decide (x2 < x1))
  (.br (okAt [CS.str, CS.int IntKind.i64] x0 x2)
   (.br (okAt [CS.str, CS.int IntKind.i64] x0 x1)
    (.br (strOf (cellAt x0 x2 0) == strOf (cellAt x0 x1 0)) (.at (.done 0)) (.at (.next ((x0, x1, IntKind.i64.wrap (x2 + 1))))))
    (.no))
   (.no))
  (.at (.done 1))
noncomputable def st_u84q : TT_u84q → DT (Rd TT_u84q) := (fun v => st_u84q_0 v.1 v.2.1 v.2.2)
noncomputable def l_u84q (v : TT_u84q) : Option (Nat × TT_u84q) := lock (iterO (fun v => (st_u84q v).ev) v)
theorem l_u84q_eq (v : TT_u84q) : l_u84q v = iterO (fun v => (st_u84q v).ev) v := lock_eq _
noncomputable def ll_u84q : LEnt := LE (τ := TT_u84q) (hD hs_u84q) (l_u84q) x_u84q
theorem t_u84q : Go.Eng.Told IP (loopAt F9 1).1 (loopAt F9 1).2 (ll_u84q) := loop_LE (inferInstance : Inhabited TT_u84q) (hs := hs_u84q) (st := st_u84q) (L := []) T50_ok (LOk_of (l := []) (by kernel_rfl) trivial) (l_u84q_eq) (fun v => by kernel_rfl) (fun v => by kernel_rfl)
abbrev B_u110q : Type := Bool
def p_u110q : PArgs := ⟨[.int .i64], []⟩
def r_u110q : List PRes := [⟨false, .bool, []⟩]
noncomputable def tr_u110q (x0 : Int) : DT B_u110q :=
 .bi (br (decide (x0 ≥ 1)) (some (decide (x0 ≤ 5))) (some false)) (fun y0 =>
  .at (y0))
  (.no)
noncomputable def f_u110q (x0 : Int) : Option B_u110q := lock (tr_u110q x0).ev
theorem f_u110q_eq (x0 : Int) : f_u110q x0 = (tr_u110q x0).ev := lock_eq _
theorem c_u110q : FH IP 21 p_u110q r_u110q (fun (v : Int) => (f_u110q v : Option B_u110q)) := fun_FH (F := F21) (L := []) (t := fun (v : Int) => tr_u110q v) T50_ok (LOk_of (l := []) (by kernel_rfl) trivial) (by kernel_rfl) (fun v => by kernel_rfl) (fun v => f_u110q_eq v)
noncomputable def T51 : Tab := (21, FE p_u110q r_u110q (fun (v : Int) => (f_u110q v : Option B_u110q))) :: T50
theorem T51_ok : TabOk IP T51 := ⟨FE_ok c_u110q, T50_ok⟩
abbrev TT_u83q : Type := List AV × Int
def hs_u83q : List PSt := [⟨[(1000900, .junk), (0, .view 2), (3, .int .i64)], [], 0, 0⟩]
noncomputable def x_u83q_0 (x0 : List AV) (x1 : Int) : X × St := (X.ret, { tm := [(2, AV.int IntKind.i64 4)], hp := [], nx := 0, k := 0 })
noncomputable def x_u83q_1 (x0 : List AV) (x1 : Int) : X × St := (X.ret, { tm := [(2, AV.int IntKind.i64 12)], hp := [], nx := 0, k := 0 })
noncomputable def x_u83q_2 (x0 : List AV) (x1 : Int) : X × St := (X.ret, { tm := [(2, AV.int IntKind.i64 3)], hp := [], nx := 0, k := 0 })
noncomputable def x_u83q_3 (x0 : List AV) (x1 : Int) : X × St := (X.exit 0, { tm := [(2, AV.junk)], hp := [], nx := 0, k := 0 })
noncomputable def x_u83q : List (TT_u83q → X × St) := [fun w => x_u83q_0 w.1 w.2, fun w => x_u83q_1 w.1 w.2, fun w => x_u83q_2 w.1 w.2, fun w => x_u83q_3 w.1 w.2]
noncomputable def st_u83q_0 (x0 : List AV) (x1 : Int) : DT (Rd TT_u83q) :=
 .br (decide (x1 < (↑x0.length : Int)))
  (.br (okAt [CS.str, CS.int IntKind.i64] x0 x1)
   (.bi (f_u49q (strOf (cellAt x0 x1 0))) (fun y0 =>
    .br (!y0)
     (.at (.done 0))
     (.bi (pj 0 (l_u84q (x0, x1, 0))) (fun y1 =>
      .at (.done 1))
      (.bi (pj 1 (l_u84q (x0, x1, 0))) (fun y1 =>
       .br (okAt [CS.str, CS.int IntKind.i64] y1.fst y1.snd.fst)
        (.bi (f_u110q (intOf (cellAt y1.fst y1.snd.fst 1))) (fun y2 =>
         .br (!y2) (.at (.done 2)) (.at (.next ((y1.fst, IntKind.i64.wrap (y1.snd.fst + 1))))))
         (.no))
        (.no))
       (.no))))
    (.no))
   (.no))
  (.at (.done 3))
noncomputable def st_u83q : TT_u83q → DT (Rd TT_u83q) := (fun v => st_u83q_0 v.1 v.2)
noncomputable def l_u83q (v : TT_u83q) : Option (Nat × TT_u83q) := lock (iterO (fun v => (st_u83q v).ev) v)
theorem l_u83q_eq (v : TT_u83q) : l_u83q v = iterO (fun v => (st_u83q v).ev) v := lock_eq _
noncomputable def ll_u83q : LEnt := LE (τ := TT_u83q) (hD hs_u83q) (l_u83q) x_u83q
theorem t_u83q : Go.Eng.Told IP (loopAt F9 0).1 (loopAt F9 0).2 (ll_u83q) := loop_LE (inferInstance : Inhabited TT_u83q) (hs := hs_u83q) (st := st_u83q) (L := [(1000901, ll_u84q)]) T51_ok (LOk_of (l := [loopAt F9 1]) (by kernel_rfl) ⟨sel_one (by kernel_rfl) t_u84q, trivial⟩) (l_u83q_eq) (fun v => by kernel_rfl) (fun v => by kernel_rfl)
abbrev B_u111q : Type := Int
def p_u111q : PArgs := ⟨[.view 2], []⟩
def r_u111q : List PRes := [⟨false, .int .i64, []⟩]
noncomputable def tr_u111q (x0 : List AV) : DT B_u111q :=
 .br (decide ((↑x0.length : Int) > 64))
  (.at (5))
  (.bi (pj 0 (l_u83q (x0, 0))) (fun y0 =>
   .at (4))
   (.bi (pj 1 (l_u83q (x0, 0))) (fun y0 =>
    .at (12))
    (.bi (pj 2 (l_u83q (x0, 0))) (fun y0 =>
     .at (3))
     (.bi (pj 3 (l_u83q (x0, 0))) (fun y0 =>
      .at (0))
      (.no)))))
noncomputable def f_u111q (x0 : List AV) : Option B_u111q := lock (tr_u111q x0).ev
theorem f_u111q_eq (x0 : List AV) : f_u111q x0 = (tr_u111q x0).ev := lock_eq _
theorem c_u111q : FH IP 9 p_u111q r_u111q (fun (v : List AV) => (f_u111q v : Option B_u111q)) := fun_FH (F := F9) (L := [(1000900, ll_u83q)]) (t := fun (v : List AV) => tr_u111q v) T51_ok (LOk_of (l := [loopAt F9 0, loopAt F9 1]) (by kernel_rfl) ⟨sel_one (by kernel_rfl) t_u83q, sel_no (by kernel_rfl), trivial⟩) (by kernel_rfl) (fun v => by kernel_rfl) (fun v => f_u111q_eq v)
noncomputable def T52 : Tab := (9, FE p_u111q r_u111q (fun (v : List AV) => (f_u111q v : Option B_u111q))) :: T51
theorem T52_ok : TabOk IP T52 := ⟨FE_ok c_u111q, T51_ok⟩
abbrev TT_u26q : Type := Int × List AV × List AV × Int × Int
def hs_u26q : List PSt := [⟨[(1001400, .junk), (0, .int .i64), (1, .view 1), (10, .view 1), (11, .int .i64), (12, .int .i64)], [], 0, 0⟩]
noncomputable def x_u26q_0 (x0 : Int) (x1 : List AV) (x2 : List AV) (x3 : Int) (x4 : Int) : X × St := (X.ret, { tm := [(0, AV.int IntKind.i64 x0), (1, AV.view 1 x1), (4, AV.int IntKind.i64 0), (5, AV.bool false)], hp := [], nx := 0, k := 0 })
noncomputable def x_u26q_1 (x0 : Int) (x1 : List AV) (x2 : List AV) (x3 : Int) (x4 : Int) : X × St := (X.exit 0, { tm := [(0, AV.int IntKind.i64 x0), (1, AV.view 1 x1), (4, AV.junk), (5, AV.junk)], hp := [], nx := 0, k := 0 })
noncomputable def x_u26q : List (TT_u26q → X × St) := [fun w => x_u26q_0 w.1 w.2.1 w.2.2.1 w.2.2.2.1 w.2.2.2.2, fun w => x_u26q_1 w.1 w.2.1 w.2.2.1 w.2.2.2.1 w.2.2.2.2]
noncomputable def st_u26q_0 (x0 : Int) (x1 : List AV) (x2 : List AV) (x3 : Int) (x4 : Int) : DT (Rd TT_u26q) :=
 .br (decide (x4 < x3))
  (.br (okAt [CS.int IntKind.i64] x2 x4)
   (.bi (f_u63q (intOf (cellAt x2 x4 0))) (fun y0 =>
    .br (!y0) (.at (.done 0)) (.at (.next ((x0, x1, x2, x3, IntKind.i64.wrap (x4 + 1))))))
    (.no))
   (.no))
  (.at (.done 1))
noncomputable def st_u26q : TT_u26q → DT (Rd TT_u26q) := (fun v => st_u26q_0 v.1 v.2.1 v.2.2.1 v.2.2.2.1 v.2.2.2.2)
noncomputable def l_u26q (v : TT_u26q) : Option (Nat × TT_u26q) := lock (iterO (fun v => (st_u26q v).ev) v)
theorem l_u26q_eq (v : TT_u26q) : l_u26q v = iterO (fun v => (st_u26q v).ev) v := lock_eq _
noncomputable def ll_u26q : LEnt := LE (τ := TT_u26q) (hD hs_u26q) (l_u26q) x_u26q
theorem t_u26q : Go.Eng.Told IP (loopAt F14 0).1 (loopAt F14 0).2 (ll_u26q) := loop_LE (inferInstance : Inhabited TT_u26q) (hs := hs_u26q) (st := st_u26q) (L := []) T52_ok (LOk_of (l := []) (by kernel_rfl) trivial) (l_u26q_eq) (fun v => by kernel_rfl) (fun v => by kernel_rfl)
abbrev B_u94q : Type := Int × Bool
def p_u94q : PArgs := ⟨[.int .i64, .int .i64], []⟩
def r_u94q : List PRes := [⟨false, .tup [.int .i64, .bool], []⟩]
noncomputable def tr_u94q (x0 : Int) (x1 : Int) : DT B_u94q :=
 .br (x0 == 16)
  (.at ((5, x1 == 5)))
  (.br (x0 == 9)
   (.bi (br (x1 == 1) (some true) (some (x1 == 2))) (fun y0 =>
    .bi (br y0 (some true) (some (x1 == 3))) (fun y1 =>
     .at ((x1, y1)))
     (.no))
    (.no))
   (.at ((0, false))))
noncomputable def f_u94q (x0 : Int) (x1 : Int) : Option B_u94q := lock (tr_u94q x0 x1).ev
theorem f_u94q_eq (x0 : Int) (x1 : Int) : f_u94q x0 x1 = (tr_u94q x0 x1).ev := lock_eq _
theorem c_u94q : FH IP 27 p_u94q r_u94q (fun (v : Int × Int) => (f_u94q v.1 v.2 : Option B_u94q)) := fun_FH (F := F27) (L := []) (t := fun (v : Int × Int) => tr_u94q v.1 v.2) T52_ok (LOk_of (l := []) (by kernel_rfl) trivial) (by kernel_rfl) (fun v => by kernel_rfl) (fun v => f_u94q_eq v.1 v.2)
noncomputable def T53 : Tab := (27, FE p_u94q r_u94q (fun (v : Int × Int) => (f_u94q v.1 v.2 : Option B_u94q))) :: T52
theorem T53_ok : TabOk IP T53 := ⟨FE_ok c_u94q, T52_ok⟩
abbrev B_u18q : Type := List (AV × AV)
def p_u18q : PArgs := ⟨[], []⟩
def r_u18q : List PRes := [⟨false, .mref 0, [(0, .mp)]⟩]
noncomputable def tr_u18q : DT B_u18q :=
 .at ([(AV.agg [AV.int IntKind.i64 5, AV.int IntKind.i64 1, AV.int IntKind.i64 1], AV.int IntKind.i64 1),
  (AV.agg [AV.int IntKind.i64 5, AV.int IntKind.i64 2, AV.int IntKind.i64 2], AV.int IntKind.i64 2),
  (AV.agg [AV.int IntKind.i64 5, AV.int IntKind.i64 3, AV.int IntKind.i64 3], AV.int IntKind.i64 3),
  (AV.agg [AV.int IntKind.i64 5, AV.int IntKind.i64 4, AV.int IntKind.i64 1], AV.int IntKind.i64 4),
  (AV.agg [AV.int IntKind.i64 6, AV.int IntKind.i64 1, AV.int IntKind.i64 1], AV.int IntKind.i64 1),
  (AV.agg [AV.int IntKind.i64 6, AV.int IntKind.i64 2, AV.int IntKind.i64 2], AV.int IntKind.i64 2),
  (AV.agg [AV.int IntKind.i64 6, AV.int IntKind.i64 3, AV.int IntKind.i64 3], AV.int IntKind.i64 3),
  (AV.agg [AV.int IntKind.i64 6, AV.int IntKind.i64 4, AV.int IntKind.i64 1], AV.int IntKind.i64 4),
  (AV.agg [AV.int IntKind.i64 6, AV.int IntKind.i64 4, AV.int IntKind.i64 4], AV.int IntKind.i64 1),
  (AV.agg [AV.int IntKind.i64 7, AV.int IntKind.i64 1, AV.int IntKind.i64 1], AV.int IntKind.i64 1),
  (AV.agg [AV.int IntKind.i64 7, AV.int IntKind.i64 1, AV.int IntKind.i64 2], AV.int IntKind.i64 2),
  (AV.agg [AV.int IntKind.i64 7, AV.int IntKind.i64 1, AV.int IntKind.i64 3], AV.int IntKind.i64 3),
  (AV.agg [AV.int IntKind.i64 7, AV.int IntKind.i64 2, AV.int IntKind.i64 1], AV.int IntKind.i64 2),
  (AV.agg [AV.int IntKind.i64 7, AV.int IntKind.i64 2, AV.int IntKind.i64 3], AV.int IntKind.i64 2),
  (AV.agg [AV.int IntKind.i64 7, AV.int IntKind.i64 3, AV.int IntKind.i64 1], AV.int IntKind.i64 3),
  (AV.agg [AV.int IntKind.i64 7, AV.int IntKind.i64 3, AV.int IntKind.i64 2], AV.int IntKind.i64 2),
  (AV.agg [AV.int IntKind.i64 8, AV.int IntKind.i64 1, AV.int IntKind.i64 1], AV.int IntKind.i64 1),
  (AV.agg [AV.int IntKind.i64 8, AV.int IntKind.i64 2, AV.int IntKind.i64 1], AV.int IntKind.i64 2),
  (AV.agg [AV.int IntKind.i64 8, AV.int IntKind.i64 2, AV.int IntKind.i64 2], AV.int IntKind.i64 1),
  (AV.agg [AV.int IntKind.i64 8, AV.int IntKind.i64 3, AV.int IntKind.i64 1], AV.int IntKind.i64 3)])
noncomputable def f_u18q : Option B_u18q := lock (tr_u18q).ev
theorem f_u18q_eq : f_u18q = (tr_u18q).ev := lock_eq _
theorem c_u18q : FH IP 41 p_u18q r_u18q (fun (v : Unit) => (f_u18q : Option B_u18q)) := cst_FH (fun v => f_u18q_eq) (fun v => by kernel_rfl)
noncomputable def T54 : Tab := (41, FE p_u18q r_u18q (fun (v : Unit) => (f_u18q : Option B_u18q))) :: T53
theorem T54_ok : TabOk IP T54 := ⟨FE_ok c_u18q, T53_ok⟩
abbrev B_u95q : Type := Int × Bool
def p_u95q : PArgs := ⟨[.int .i64, .int .i64, .int .i64], []⟩
def r_u95q : List PRes := [⟨false, .tup [.int .i64, .bool], []⟩]
noncomputable def tr_u95q (x0 : Int) (x1 : Int) (x2 : Int) : DT B_u95q :=
 .br (x0 == 10)
  (.br (x0 == 10)
   (.at ((5, x1 == x2)))
   (.br (x0 == 12)
    (.br (x0 == 12)
     (.bi (br (x1 == x2) (some (x1 != 5)) (some false)) (fun y0 =>
      .at ((5, y0)))
      (.no))
     (.br (x0 == 14)
      (.br (x0 == 14)
       (.bi (br (x1 == x2) (some (x1 == 5)) (some false)) (fun y0 =>
        .at ((5, y0)))
        (.no))
       (.br (x0 == 17)
        (.br (x0 == 17)
         (.bi (br (x1 == x2) (some (x1 != 5)) (some false)) (fun y0 =>
          .at ((x1, y0)))
          (.no))
         (.bi (f_u18q) (fun y0 =>
          .br (mhas (true, [EK.i, EK.i, EK.i]) y0 (AV.agg [AV.int IntKind.i64 x0, AV.int IntKind.i64 x1, AV.int IntKind.i64 x2]))
           (.br (okE false [CS.int IntKind.i64] [mval (true, [EK.i, EK.i, EK.i]) y0 (AV.agg [AV.int IntKind.i64 x0, AV.int IntKind.i64 x1, AV.int IntKind.i64 x2])] 0)
            (.at ((intOf (cellAt [mval (true, [EK.i, EK.i, EK.i]) y0 (AV.agg [AV.int IntKind.i64 x0, AV.int IntKind.i64 x1, AV.int IntKind.i64 x2])] 0 0), intOf (cellAt [mval (true, [EK.i, EK.i, EK.i]) y0 (AV.agg [AV.int IntKind.i64 x0, AV.int IntKind.i64 x1, AV.int IntKind.i64 x2])] 0 0) != 0)))
            (.no))
           (.br (mnot (true, [EK.i, EK.i, EK.i]) y0 (AV.agg [AV.int IntKind.i64 x0, AV.int IntKind.i64 x1, AV.int IntKind.i64 x2])) (.at ((0, false))) (.no)))
          (.no)))
        (.br (x0 == 18)
         (.bi (br (x1 == x2) (some (x1 != 5)) (some false)) (fun y0 =>
          .at ((x1, y0)))
          (.no))
         (.bi (f_u18q) (fun y0 =>
          .br (mhas (true, [EK.i, EK.i, EK.i]) y0 (AV.agg [AV.int IntKind.i64 x0, AV.int IntKind.i64 x1, AV.int IntKind.i64 x2]))
           (.br (okE false [CS.int IntKind.i64] [mval (true, [EK.i, EK.i, EK.i]) y0 (AV.agg [AV.int IntKind.i64 x0, AV.int IntKind.i64 x1, AV.int IntKind.i64 x2])] 0)
            (.at ((intOf (cellAt [mval (true, [EK.i, EK.i, EK.i]) y0 (AV.agg [AV.int IntKind.i64 x0, AV.int IntKind.i64 x1, AV.int IntKind.i64 x2])] 0 0), intOf (cellAt [mval (true, [EK.i, EK.i, EK.i]) y0 (AV.agg [AV.int IntKind.i64 x0, AV.int IntKind.i64 x1, AV.int IntKind.i64 x2])] 0 0) != 0)))
            (.no))
           (.br (mnot (true, [EK.i, EK.i, EK.i]) y0 (AV.agg [AV.int IntKind.i64 x0, AV.int IntKind.i64 x1, AV.int IntKind.i64 x2])) (.at ((0, false))) (.no)))
          (.no)))))
      (.br (x0 == 15)
       (.bi (br (x1 == x2) (some (x1 == 5)) (some false)) (fun y0 =>
        .at ((5, y0)))
        (.no))
       (.br (x0 == 17)
        (.br (x0 == 17)
         (.bi (br (x1 == x2) (some (x1 != 5)) (some false)) (fun y0 =>
          .at ((x1, y0)))
          (.no))
         (.bi (f_u18q) (fun y0 =>
          .br (mhas (true, [EK.i, EK.i, EK.i]) y0 (AV.agg [AV.int IntKind.i64 x0, AV.int IntKind.i64 x1, AV.int IntKind.i64 x2]))
           (.br (okE false [CS.int IntKind.i64] [mval (true, [EK.i, EK.i, EK.i]) y0 (AV.agg [AV.int IntKind.i64 x0, AV.int IntKind.i64 x1, AV.int IntKind.i64 x2])] 0)
            (.at ((intOf (cellAt [mval (true, [EK.i, EK.i, EK.i]) y0 (AV.agg [AV.int IntKind.i64 x0, AV.int IntKind.i64 x1, AV.int IntKind.i64 x2])] 0 0), intOf (cellAt [mval (true, [EK.i, EK.i, EK.i]) y0 (AV.agg [AV.int IntKind.i64 x0, AV.int IntKind.i64 x1, AV.int IntKind.i64 x2])] 0 0) != 0)))
            (.no))
           (.br (mnot (true, [EK.i, EK.i, EK.i]) y0 (AV.agg [AV.int IntKind.i64 x0, AV.int IntKind.i64 x1, AV.int IntKind.i64 x2])) (.at ((0, false))) (.no)))
          (.no)))
        (.br (x0 == 18)
         (.bi (br (x1 == x2) (some (x1 != 5)) (some false)) (fun y0 =>
          .at ((x1, y0)))
          (.no))
         (.bi (f_u18q) (fun y0 =>
          .br (mhas (true, [EK.i, EK.i, EK.i]) y0 (AV.agg [AV.int IntKind.i64 x0, AV.int IntKind.i64 x1, AV.int IntKind.i64 x2]))
           (.br (okE false [CS.int IntKind.i64] [mval (true, [EK.i, EK.i, EK.i]) y0 (AV.agg [AV.int IntKind.i64 x0, AV.int IntKind.i64 x1, AV.int IntKind.i64 x2])] 0)
            (.at ((intOf (cellAt [mval (true, [EK.i, EK.i, EK.i]) y0 (AV.agg [AV.int IntKind.i64 x0, AV.int IntKind.i64 x1, AV.int IntKind.i64 x2])] 0 0), intOf (cellAt [mval (true, [EK.i, EK.i, EK.i]) y0 (AV.agg [AV.int IntKind.i64 x0, AV.int IntKind.i64 x1, AV.int IntKind.i64 x2])] 0 0) != 0)))
            (.no))
           (.br (mnot (true, [EK.i, EK.i, EK.i]) y0 (AV.agg [AV.int IntKind.i64 x0, AV.int IntKind.i64 x1, AV.int IntKind.i64 x2])) (.at ((0, false))) (.no)))
          (.no)))))))
    (.br (x0 == 13)
     (.bi (br (x1 == x2) (some (x1 != 5)) (some false)) (fun y0 =>
      .at ((5, y0)))
      (.no))
     (.br (x0 == 14)
      (.br (x0 == 14)
       (.bi (br (x1 == x2) (some (x1 == 5)) (some false)) (fun y0 =>
        .at ((5, y0)))
        (.no))
       (.br (x0 == 17)
        (.br (x0 == 17)
         (.bi (br (x1 == x2) (some (x1 != 5)) (some false)) (fun y0 =>
          .at ((x1, y0)))
          (.no))
         (.bi (f_u18q) (fun y0 =>
          .br (mhas (true, [EK.i, EK.i, EK.i]) y0 (AV.agg [AV.int IntKind.i64 x0, AV.int IntKind.i64 x1, AV.int IntKind.i64 x2]))
           (.br (okE false [CS.int IntKind.i64] [mval (true, [EK.i, EK.i, EK.i]) y0 (AV.agg [AV.int IntKind.i64 x0, AV.int IntKind.i64 x1, AV.int IntKind.i64 x2])] 0)
            (.at ((intOf (cellAt [mval (true, [EK.i, EK.i, EK.i]) y0 (AV.agg [AV.int IntKind.i64 x0, AV.int IntKind.i64 x1, AV.int IntKind.i64 x2])] 0 0), intOf (cellAt [mval (true, [EK.i, EK.i, EK.i]) y0 (AV.agg [AV.int IntKind.i64 x0, AV.int IntKind.i64 x1, AV.int IntKind.i64 x2])] 0 0) != 0)))
            (.no))
           (.br (mnot (true, [EK.i, EK.i, EK.i]) y0 (AV.agg [AV.int IntKind.i64 x0, AV.int IntKind.i64 x1, AV.int IntKind.i64 x2])) (.at ((0, false))) (.no)))
          (.no)))
        (.br (x0 == 18)
         (.bi (br (x1 == x2) (some (x1 != 5)) (some false)) (fun y0 =>
          .at ((x1, y0)))
          (.no))
         (.bi (f_u18q) (fun y0 =>
          .br (mhas (true, [EK.i, EK.i, EK.i]) y0 (AV.agg [AV.int IntKind.i64 x0, AV.int IntKind.i64 x1, AV.int IntKind.i64 x2]))
           (.br (okE false [CS.int IntKind.i64] [mval (true, [EK.i, EK.i, EK.i]) y0 (AV.agg [AV.int IntKind.i64 x0, AV.int IntKind.i64 x1, AV.int IntKind.i64 x2])] 0)
            (.at ((intOf (cellAt [mval (true, [EK.i, EK.i, EK.i]) y0 (AV.agg [AV.int IntKind.i64 x0, AV.int IntKind.i64 x1, AV.int IntKind.i64 x2])] 0 0), intOf (cellAt [mval (true, [EK.i, EK.i, EK.i]) y0 (AV.agg [AV.int IntKind.i64 x0, AV.int IntKind.i64 x1, AV.int IntKind.i64 x2])] 0 0) != 0)))
            (.no))
           (.br (mnot (true, [EK.i, EK.i, EK.i]) y0 (AV.agg [AV.int IntKind.i64 x0, AV.int IntKind.i64 x1, AV.int IntKind.i64 x2])) (.at ((0, false))) (.no)))
          (.no)))))
      (.br (x0 == 15)
       (.bi (br (x1 == x2) (some (x1 == 5)) (some false)) (fun y0 =>
        .at ((5, y0)))
        (.no))
       (.br (x0 == 17)
        (.br (x0 == 17)
         (.bi (br (x1 == x2) (some (x1 != 5)) (some false)) (fun y0 =>
          .at ((x1, y0)))
          (.no))
         (.bi (f_u18q) (fun y0 =>
          .br (mhas (true, [EK.i, EK.i, EK.i]) y0 (AV.agg [AV.int IntKind.i64 x0, AV.int IntKind.i64 x1, AV.int IntKind.i64 x2]))
           (.br (okE false [CS.int IntKind.i64] [mval (true, [EK.i, EK.i, EK.i]) y0 (AV.agg [AV.int IntKind.i64 x0, AV.int IntKind.i64 x1, AV.int IntKind.i64 x2])] 0)
            (.at ((intOf (cellAt [mval (true, [EK.i, EK.i, EK.i]) y0 (AV.agg [AV.int IntKind.i64 x0, AV.int IntKind.i64 x1, AV.int IntKind.i64 x2])] 0 0), intOf (cellAt [mval (true, [EK.i, EK.i, EK.i]) y0 (AV.agg [AV.int IntKind.i64 x0, AV.int IntKind.i64 x1, AV.int IntKind.i64 x2])] 0 0) != 0)))
            (.no))
           (.br (mnot (true, [EK.i, EK.i, EK.i]) y0 (AV.agg [AV.int IntKind.i64 x0, AV.int IntKind.i64 x1, AV.int IntKind.i64 x2])) (.at ((0, false))) (.no)))
          (.no)))
        (.br (x0 == 18)
         (.bi (br (x1 == x2) (some (x1 != 5)) (some false)) (fun y0 =>
          .at ((x1, y0)))
          (.no))
         (.bi (f_u18q) (fun y0 =>
          .br (mhas (true, [EK.i, EK.i, EK.i]) y0 (AV.agg [AV.int IntKind.i64 x0, AV.int IntKind.i64 x1, AV.int IntKind.i64 x2]))
           (.br (okE false [CS.int IntKind.i64] [mval (true, [EK.i, EK.i, EK.i]) y0 (AV.agg [AV.int IntKind.i64 x0, AV.int IntKind.i64 x1, AV.int IntKind.i64 x2])] 0)
            (.at ((intOf (cellAt [mval (true, [EK.i, EK.i, EK.i]) y0 (AV.agg [AV.int IntKind.i64 x0, AV.int IntKind.i64 x1, AV.int IntKind.i64 x2])] 0 0), intOf (cellAt [mval (true, [EK.i, EK.i, EK.i]) y0 (AV.agg [AV.int IntKind.i64 x0, AV.int IntKind.i64 x1, AV.int IntKind.i64 x2])] 0 0) != 0)))
            (.no))
           (.br (mnot (true, [EK.i, EK.i, EK.i]) y0 (AV.agg [AV.int IntKind.i64 x0, AV.int IntKind.i64 x1, AV.int IntKind.i64 x2])) (.at ((0, false))) (.no)))
          (.no)))))))))
  (.br (x0 == 11)
   (.at ((5, x1 == x2)))
   (.br (x0 == 12)
    (.br (x0 == 12)
     (.bi (br (x1 == x2) (some (x1 != 5)) (some false)) (fun y0 =>
      .at ((5, y0)))
      (.no))
     (.br (x0 == 14)
      (.br (x0 == 14)
       (.bi (br (x1 == x2) (some (x1 == 5)) (some false)) (fun y0 =>
        .at ((5, y0)))
        (.no))
       (.br (x0 == 17)
        (.br (x0 == 17)
         (.bi (br (x1 == x2) (some (x1 != 5)) (some false)) (fun y0 =>
          .at ((x1, y0)))
          (.no))
         (.bi (f_u18q) (fun y0 =>
          .br (mhas (true, [EK.i, EK.i, EK.i]) y0 (AV.agg [AV.int IntKind.i64 x0, AV.int IntKind.i64 x1, AV.int IntKind.i64 x2]))
           (.br (okE false [CS.int IntKind.i64] [mval (true, [EK.i, EK.i, EK.i]) y0 (AV.agg [AV.int IntKind.i64 x0, AV.int IntKind.i64 x1, AV.int IntKind.i64 x2])] 0)
            (.at ((intOf (cellAt [mval (true, [EK.i, EK.i, EK.i]) y0 (AV.agg [AV.int IntKind.i64 x0, AV.int IntKind.i64 x1, AV.int IntKind.i64 x2])] 0 0), intOf (cellAt [mval (true, [EK.i, EK.i, EK.i]) y0 (AV.agg [AV.int IntKind.i64 x0, AV.int IntKind.i64 x1, AV.int IntKind.i64 x2])] 0 0) != 0)))
            (.no))
           (.br (mnot (true, [EK.i, EK.i, EK.i]) y0 (AV.agg [AV.int IntKind.i64 x0, AV.int IntKind.i64 x1, AV.int IntKind.i64 x2])) (.at ((0, false))) (.no)))
          (.no)))
        (.br (x0 == 18)
         (.bi (br (x1 == x2) (some (x1 != 5)) (some false)) (fun y0 =>
          .at ((x1, y0)))
          (.no))
         (.bi (f_u18q) (fun y0 =>
          .br (mhas (true, [EK.i, EK.i, EK.i]) y0 (AV.agg [AV.int IntKind.i64 x0, AV.int IntKind.i64 x1, AV.int IntKind.i64 x2]))
           (.br (okE false [CS.int IntKind.i64] [mval (true, [EK.i, EK.i, EK.i]) y0 (AV.agg [AV.int IntKind.i64 x0, AV.int IntKind.i64 x1, AV.int IntKind.i64 x2])] 0)
            (.at ((intOf (cellAt [mval (true, [EK.i, EK.i, EK.i]) y0 (AV.agg [AV.int IntKind.i64 x0, AV.int IntKind.i64 x1, AV.int IntKind.i64 x2])] 0 0), intOf (cellAt [mval (true, [EK.i, EK.i, EK.i]) y0 (AV.agg [AV.int IntKind.i64 x0, AV.int IntKind.i64 x1, AV.int IntKind.i64 x2])] 0 0) != 0)))
            (.no))
           (.br (mnot (true, [EK.i, EK.i, EK.i]) y0 (AV.agg [AV.int IntKind.i64 x0, AV.int IntKind.i64 x1, AV.int IntKind.i64 x2])) (.at ((0, false))) (.no)))
          (.no)))))
      (.br (x0 == 15)
       (.bi (br (x1 == x2) (some (x1 == 5)) (some false)) (fun y0 =>
        .at ((5, y0)))
        (.no))
       (.br (x0 == 17)
        (.br (x0 == 17)
         (.bi (br (x1 == x2) (some (x1 != 5)) (some false)) (fun y0 =>
          .at ((x1, y0)))
          (.no))
         (.bi (f_u18q) (fun y0 =>
          .br (mhas (true, [EK.i, EK.i, EK.i]) y0 (AV.agg [AV.int IntKind.i64 x0, AV.int IntKind.i64 x1, AV.int IntKind.i64 x2]))
           (.br (okE false [CS.int IntKind.i64] [mval (true, [EK.i, EK.i, EK.i]) y0 (AV.agg [AV.int IntKind.i64 x0, AV.int IntKind.i64 x1, AV.int IntKind.i64 x2])] 0)
            (.at ((intOf (cellAt [mval (true, [EK.i, EK.i, EK.i]) y0 (AV.agg [AV.int IntKind.i64 x0, AV.int IntKind.i64 x1, AV.int IntKind.i64 x2])] 0 0), intOf (cellAt [mval (true, [EK.i, EK.i, EK.i]) y0 (AV.agg [AV.int IntKind.i64 x0, AV.int IntKind.i64 x1, AV.int IntKind.i64 x2])] 0 0) != 0)))
            (.no))
           (.br (mnot (true, [EK.i, EK.i, EK.i]) y0 (AV.agg [AV.int IntKind.i64 x0, AV.int IntKind.i64 x1, AV.int IntKind.i64 x2])) (.at ((0, false))) (.no)))
          (.no)))
        (.br (x0 == 18)
         (.bi (br (x1 == x2) (some (x1 != 5)) (some false)) (fun y0 =>
          .at ((x1, y0)))
          (.no))
         (.bi (f_u18q) (fun y0 =>
          .br (mhas (true, [EK.i, EK.i, EK.i]) y0 (AV.agg [AV.int IntKind.i64 x0, AV.int IntKind.i64 x1, AV.int IntKind.i64 x2]))
           (.br (okE false [CS.int IntKind.i64] [mval (true, [EK.i, EK.i, EK.i]) y0 (AV.agg [AV.int IntKind.i64 x0, AV.int IntKind.i64 x1, AV.int IntKind.i64 x2])] 0)
            (.at ((intOf (cellAt [mval (true, [EK.i, EK.i, EK.i]) y0 (AV.agg [AV.int IntKind.i64 x0, AV.int IntKind.i64 x1, AV.int IntKind.i64 x2])] 0 0), intOf (cellAt [mval (true, [EK.i, EK.i, EK.i]) y0 (AV.agg [AV.int IntKind.i64 x0, AV.int IntKind.i64 x1, AV.int IntKind.i64 x2])] 0 0) != 0)))
            (.no))
           (.br (mnot (true, [EK.i, EK.i, EK.i]) y0 (AV.agg [AV.int IntKind.i64 x0, AV.int IntKind.i64 x1, AV.int IntKind.i64 x2])) (.at ((0, false))) (.no)))
          (.no)))))))
    (.br (x0 == 13)
     (.bi (br (x1 == x2) (some (x1 != 5)) (some false)) (fun y0 =>
      .at ((5, y0)))
      (.no))
     (.br (x0 == 14)
      (.br (x0 == 14)
       (.bi (br (x1 == x2) (some (x1 == 5)) (some false)) (fun y0 =>
        .at ((5, y0)))
        (.no))
       (.br (x0 == 17)
        (.br (x0 == 17)
         (.bi (br (x1 == x2) (some (x1 != 5)) (some false)) (fun y0 =>
          .at ((x1, y0)))
          (.no))
         (.bi (f_u18q) (fun y0 =>
          .br (mhas (true, [EK.i, EK.i, EK.i]) y0 (AV.agg [AV.int IntKind.i64 x0, AV.int IntKind.i64 x1, AV.int IntKind.i64 x2]))
           (.br (okE false [CS.int IntKind.i64] [mval (true, [EK.i, EK.i, EK.i]) y0 (AV.agg [AV.int IntKind.i64 x0, AV.int IntKind.i64 x1, AV.int IntKind.i64 x2])] 0)
            (.at ((intOf (cellAt [mval (true, [EK.i, EK.i, EK.i]) y0 (AV.agg [AV.int IntKind.i64 x0, AV.int IntKind.i64 x1, AV.int IntKind.i64 x2])] 0 0), intOf (cellAt [mval (true, [EK.i, EK.i, EK.i]) y0 (AV.agg [AV.int IntKind.i64 x0, AV.int IntKind.i64 x1, AV.int IntKind.i64 x2])] 0 0) != 0)))
            (.no))
           (.br (mnot (true, [EK.i, EK.i, EK.i]) y0 (AV.agg [AV.int IntKind.i64 x0, AV.int IntKind.i64 x1, AV.int IntKind.i64 x2])) (.at ((0, false))) (.no)))
          (.no)))
        (.br (x0 == 18)
         (.bi (br (x1 == x2) (some (x1 != 5)) (some false)) (fun y0 =>
          .at ((x1, y0)))
          (.no))
         (.bi (f_u18q) (fun y0 =>
          .br (mhas (true, [EK.i, EK.i, EK.i]) y0 (AV.agg [AV.int IntKind.i64 x0, AV.int IntKind.i64 x1, AV.int IntKind.i64 x2]))
           (.br (okE false [CS.int IntKind.i64] [mval (true, [EK.i, EK.i, EK.i]) y0 (AV.agg [AV.int IntKind.i64 x0, AV.int IntKind.i64 x1, AV.int IntKind.i64 x2])] 0)
            (.at ((intOf (cellAt [mval (true, [EK.i, EK.i, EK.i]) y0 (AV.agg [AV.int IntKind.i64 x0, AV.int IntKind.i64 x1, AV.int IntKind.i64 x2])] 0 0), intOf (cellAt [mval (true, [EK.i, EK.i, EK.i]) y0 (AV.agg [AV.int IntKind.i64 x0, AV.int IntKind.i64 x1, AV.int IntKind.i64 x2])] 0 0) != 0)))
            (.no))
           (.br (mnot (true, [EK.i, EK.i, EK.i]) y0 (AV.agg [AV.int IntKind.i64 x0, AV.int IntKind.i64 x1, AV.int IntKind.i64 x2])) (.at ((0, false))) (.no)))
          (.no)))))
      (.br (x0 == 15)
       (.bi (br (x1 == x2) (some (x1 == 5)) (some false)) (fun y0 =>
        .at ((5, y0)))
        (.no))
       (.br (x0 == 17)
        (.br (x0 == 17)
         (.bi (br (x1 == x2) (some (x1 != 5)) (some false)) (fun y0 =>
          .at ((x1, y0)))
          (.no))
         (.bi (f_u18q) (fun y0 =>
          .br (mhas (true, [EK.i, EK.i, EK.i]) y0 (AV.agg [AV.int IntKind.i64 x0, AV.int IntKind.i64 x1, AV.int IntKind.i64 x2]))
           (.br (okE false [CS.int IntKind.i64] [mval (true, [EK.i, EK.i, EK.i]) y0 (AV.agg [AV.int IntKind.i64 x0, AV.int IntKind.i64 x1, AV.int IntKind.i64 x2])] 0)
            (.at ((intOf (cellAt [mval (true, [EK.i, EK.i, EK.i]) y0 (AV.agg [AV.int IntKind.i64 x0, AV.int IntKind.i64 x1, AV.int IntKind.i64 x2])] 0 0), intOf (cellAt [mval (true, [EK.i, EK.i, EK.i]) y0 (AV.agg [AV.int IntKind.i64 x0, AV.int IntKind.i64 x1, AV.int IntKind.i64 x2])] 0 0) != 0)))
            (.no))
           (.br (mnot (true, [EK.i, EK.i, EK.i]) y0 (AV.agg [AV.int IntKind.i64 x0, AV.int IntKind.i64 x1, AV.int IntKind.i64 x2])) (.at ((0, false))) (.no)))
          (.no)))
        (.br (x0 == 18)
         (.bi (br (x1 == x2) (some (x1 != 5)) (some false)) (fun y0 =>
          .at ((x1, y0)))
          (.no))
         (.bi (f_u18q) (fun y0 =>
          .br (mhas (true, [EK.i, EK.i, EK.i]) y0 (AV.agg [AV.int IntKind.i64 x0, AV.int IntKind.i64 x1, AV.int IntKind.i64 x2]))
           (.br (okE false [CS.int IntKind.i64] [mval (true, [EK.i, EK.i, EK.i]) y0 (AV.agg [AV.int IntKind.i64 x0, AV.int IntKind.i64 x1, AV.int IntKind.i64 x2])] 0)
            (.at ((intOf (cellAt [mval (true, [EK.i, EK.i, EK.i]) y0 (AV.agg [AV.int IntKind.i64 x0, AV.int IntKind.i64 x1, AV.int IntKind.i64 x2])] 0 0), intOf (cellAt [mval (true, [EK.i, EK.i, EK.i]) y0 (AV.agg [AV.int IntKind.i64 x0, AV.int IntKind.i64 x1, AV.int IntKind.i64 x2])] 0 0) != 0)))
            (.no))
           (.br (mnot (true, [EK.i, EK.i, EK.i]) y0 (AV.agg [AV.int IntKind.i64 x0, AV.int IntKind.i64 x1, AV.int IntKind.i64 x2])) (.at ((0, false))) (.no)))
          (.no)))))))))
noncomputable def f_u95q (x0 : Int) (x1 : Int) (x2 : Int) : Option B_u95q := lock (tr_u95q x0 x1 x2).ev
theorem f_u95q_eq (x0 : Int) (x1 : Int) (x2 : Int) : f_u95q x0 x1 x2 = (tr_u95q x0 x1 x2).ev := lock_eq _
theorem c_u95q : FH IP 28 p_u95q r_u95q (fun (v : Int × Int × Int) => (f_u95q v.1 v.2.1 v.2.2 : Option B_u95q)) := fun_FH (F := F28) (L := []) (t := fun (v : Int × Int × Int) => tr_u95q v.1 v.2.1 v.2.2) T54_ok (LOk_of (l := []) (by kernel_rfl) trivial) (by kernel_rfl) (fun v => by kernel_rfl) (fun v => f_u95q_eq v.1 v.2.1 v.2.2)
noncomputable def T55 : Tab := (28, FE p_u95q r_u95q (fun (v : Int × Int × Int) => (f_u95q v.1 v.2.1 v.2.2 : Option B_u95q))) :: T54
theorem T55_ok : TabOk IP T55 := ⟨FE_ok c_u95q, T54_ok⟩
end Go.Proofs.H11

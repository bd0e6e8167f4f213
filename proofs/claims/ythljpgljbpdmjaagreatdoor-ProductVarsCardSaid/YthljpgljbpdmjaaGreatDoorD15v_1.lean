/- Functions over plain data. Printed by a program of mine. -/
import Derived.Test.YthljpgljbpdmjaaGreatDoorE3
import Derived.Test.YthljpgljbpdmjaaGreatDoorIP15v
import Derived.KernelRfl
set_option linter.unusedVariables false
set_option linter.unusedSimpArgs false
set_option linter.unnecessarySimpa false
namespace Go.Proofs.H15v
open Go Go.Eng
set_option maxRecDepth 100000
noncomputable def T0 : Tab := [(152, countE), (188, fieldsE), (191, idxE), (186, parseE 223), (200, atoiE 223), (38, cloneE 2 16), (58, cloneE 4 56), (70, cloneE 1 8)]
theorem T0_ok : TabOk IP T0 := ⟨sp152, sp188, sp191, sp186, sp200, sp38, sp58, sp70, trivial⟩
abbrev TT_u46q : Type := (List UInt8 × List UInt8 × List UInt8 × List UInt8 × Int) ⊕ (List UInt8 × List UInt8 × List UInt8 × List UInt8 × Int × List AV)
def hs_u46q : List PSt := [⟨[(1000800, .junk), (1, .nils 2), (6, .agg [.str, .str, .str, .str]), (7, .int .i64)], [], 0, 0⟩, ⟨[(1000800, .junk), (1, .own 0 0), (6, .agg [.str, .str, .str, .str]), (7, .int .i64)], [(0, .arr 2 false)], 1, 0⟩]
noncomputable def x_u46q_0 (x0 : List UInt8) (x1 : List UInt8) (x2 : List UInt8) (x3 : List UInt8) (x4 : Int) : X × St := (X.exit 0, { tm := [(1, AV.nils { sz := 2, kd := NKd.nil })], hp := [], nx := 0, k := 0 })
noncomputable def x_u46q_1 (x0 : List UInt8) (x1 : List UInt8) (x2 : List UInt8) (x3 : List UInt8) (x4 : Int) (x5 : List AV) : X × St := (X.exit 0, { tm := [(1, AV.own 0 0 none)], hp := [(0, Blk.arr 2 x5 false)], nx := 1, k := 0 })
noncomputable def x_u46q : List (TT_u46q → X × St) := [fun w => x_u46q_0 (sl w).1 (sl w).2.1 (sl w).2.2.1 (sl w).2.2.2.1 (sl w).2.2.2.2, fun w => x_u46q_1 (sr w).1 (sr w).2.1 (sr w).2.2.1 (sr w).2.2.2.1 (sr w).2.2.2.2.1 (sr w).2.2.2.2.2]
noncomputable def st_u46q_0 (x0 : List UInt8) (x1 : List UInt8) (x2 : List UInt8) (x3 : List UInt8) (x4 : Int) : DT (Rd TT_u46q) :=
 .br (decide (x4 < 4))
  (.br (decide (x4 = Int.ofNat 0))
   (.at (.next ((.inr (x0, x1, x2, x3, IntKind.i64.wrap (x4 + 1), [AV.agg [AV.str x0, AV.int IntKind.i64 2]])))))
   (.br (decide (x4 = Int.ofNat 1))
    (.at (.next ((.inr (x0, x1, x2, x3, IntKind.i64.wrap (x4 + 1), [AV.agg [AV.str x1, AV.int IntKind.i64 2]])))))
    (.br (decide (x4 = Int.ofNat 2))
     (.at (.next ((.inr (x0, x1, x2, x3, IntKind.i64.wrap (x4 + 1), [AV.agg [AV.str x2, AV.int IntKind.i64 2]])))))
     (.br (decide (x4 = Int.ofNat 3)) (.at (.next ((.inr (x0, x1, x2, x3, IntKind.i64.wrap (x4 + 1), [AV.agg [AV.str x3, AV.int IntKind.i64 2]]))))) (.no)))))
  (.at (.done 0))
noncomputable def st_u46q_1 (x0 : List UInt8) (x1 : List UInt8) (x2 : List UInt8) (x3 : List UInt8) (x4 : Int) (x5 : List AV) : DT (Rd TT_u46q) :=
 .br (decide (x4 < 4))
  (.br (decide (x4 = Int.ofNat 0))
   (.br (room (x5.length + 1) 24) (.at (.next ((.inr (x0, x1, x2, x3, IntKind.i64.wrap (x4 + 1), x5 ++ [AV.agg [AV.str x0, AV.int IntKind.i64 2]]))))) (.no))
   (.br (decide (x4 = Int.ofNat 1))
    (.br (room (x5.length + 1) 24) (.at (.next ((.inr (x0, x1, x2, x3, IntKind.i64.wrap (x4 + 1), x5 ++ [AV.agg [AV.str x1, AV.int IntKind.i64 2]]))))) (.no))
    (.br (decide (x4 = Int.ofNat 2))
     (.br (room (x5.length + 1) 24) (.at (.next ((.inr (x0, x1, x2, x3, IntKind.i64.wrap (x4 + 1), x5 ++ [AV.agg [AV.str x2, AV.int IntKind.i64 2]]))))) (.no))
     (.br (decide (x4 = Int.ofNat 3))
      (.br (room (x5.length + 1) 24) (.at (.next ((.inr (x0, x1, x2, x3, IntKind.i64.wrap (x4 + 1), x5 ++ [AV.agg [AV.str x3, AV.int IntKind.i64 2]]))))) (.no))
      (.no)))))
  (.at (.done 1))
noncomputable def st_u46q : TT_u46q → DT (Rd TT_u46q) := (Sum.elim (fun v => st_u46q_0 v.1 v.2.1 v.2.2.1 v.2.2.2.1 v.2.2.2.2) (fun v => st_u46q_1 v.1 v.2.1 v.2.2.1 v.2.2.2.1 v.2.2.2.2.1 v.2.2.2.2.2))
noncomputable def l_u46q (v : TT_u46q) : Option (Nat × TT_u46q) := lock (iterO (fun v => (st_u46q v).ev) v)
theorem l_u46q_eq (v : TT_u46q) : l_u46q v = iterO (fun v => (st_u46q v).ev) v := lock_eq _
noncomputable def ll_u46q : LEnt := LE (τ := TT_u46q) (hD hs_u46q) (l_u46q) x_u46q
theorem t_u46q : Go.Eng.Told IP (loopAt F8 0).1 (loopAt F8 0).2 (ll_u46q) := loop_LE (inferInstance : Inhabited TT_u46q) (hs := hs_u46q) (st := st_u46q) (L := []) T0_ok (LOk_of (l := []) (by kernel_rfl) trivial) (l_u46q_eq) (fun v => match v with | (.inl v) => by kernel_rfl | (.inr v) => by kernel_rfl) (fun v => match v with | (.inl v) => by kernel_rfl | (.inr v) => by kernel_rfl)
abbrev TT_u47q : Type := (List UInt8 × List UInt8 × Int) ⊕ (List UInt8 × List UInt8 × Int × List AV)
def hs_u47q : List PSt := [⟨[(1000801, .junk), (1, .nils 2), (16, .agg [.str, .str]), (17, .int .i64)], [], 0, 0⟩, ⟨[(1000801, .junk), (1, .own 0 0), (16, .agg [.str, .str]), (17, .int .i64)], [(0, .arr 2 false)], 1, 0⟩]
noncomputable def x_u47q_0 (x0 : List UInt8) (x1 : List UInt8) (x2 : Int) : X × St := (X.exit 2, { tm := [(1, AV.nils { sz := 2, kd := NKd.nil })], hp := [], nx := 0, k := 0 })
noncomputable def x_u47q_1 (x0 : List UInt8) (x1 : List UInt8) (x2 : Int) (x3 : List AV) : X × St := (X.exit 2, { tm := [(1, AV.own 0 0 none)], hp := [(0, Blk.arr 2 x3 false)], nx := 1, k := 0 })
noncomputable def x_u47q : List (TT_u47q → X × St) := [fun w => x_u47q_0 (sl w).1 (sl w).2.1 (sl w).2.2, fun w => x_u47q_1 (sr w).1 (sr w).2.1 (sr w).2.2.1 (sr w).2.2.2]
noncomputable def st_u47q_0 (x0 : List UInt8) (x1 : List UInt8) (x2 : Int) : DT (Rd TT_u47q) :=
 .br (decide (x2 < 2))
  (.br (decide (x2 = Int.ofNat 0))
   (.at (.next ((.inr (x0, x1, IntKind.i64.wrap (x2 + 1), [AV.agg [AV.str x0, AV.int IntKind.i64 1]])))))
   (.br (decide (x2 = Int.ofNat 1)) (.at (.next ((.inr (x0, x1, IntKind.i64.wrap (x2 + 1), [AV.agg [AV.str x1, AV.int IntKind.i64 1]]))))) (.no)))
  (.at (.done 0))
noncomputable def st_u47q_1 (x0 : List UInt8) (x1 : List UInt8) (x2 : Int) (x3 : List AV) : DT (Rd TT_u47q) :=
 .br (decide (x2 < 2))
  (.br (decide (x2 = Int.ofNat 0))
   (.br (room (x3.length + 1) 24) (.at (.next ((.inr (x0, x1, IntKind.i64.wrap (x2 + 1), x3 ++ [AV.agg [AV.str x0, AV.int IntKind.i64 1]]))))) (.no))
   (.br (decide (x2 = Int.ofNat 1))
    (.br (room (x3.length + 1) 24) (.at (.next ((.inr (x0, x1, IntKind.i64.wrap (x2 + 1), x3 ++ [AV.agg [AV.str x1, AV.int IntKind.i64 1]]))))) (.no))
    (.no)))
  (.at (.done 1))
noncomputable def st_u47q : TT_u47q → DT (Rd TT_u47q) := (Sum.elim (fun v => st_u47q_0 v.1 v.2.1 v.2.2) (fun v => st_u47q_1 v.1 v.2.1 v.2.2.1 v.2.2.2))
noncomputable def l_u47q (v : TT_u47q) : Option (Nat × TT_u47q) := lock (iterO (fun v => (st_u47q v).ev) v)
theorem l_u47q_eq (v : TT_u47q) : l_u47q v = iterO (fun v => (st_u47q v).ev) v := lock_eq _
noncomputable def ll_u47q : LEnt := LE (τ := TT_u47q) (hD hs_u47q) (l_u47q) x_u47q
theorem t_u47q : Go.Eng.Told IP (loopAt F8 1).1 (loopAt F8 1).2 (ll_u47q) := loop_LE (inferInstance : Inhabited TT_u47q) (hs := hs_u47q) (st := st_u47q) (L := []) T0_ok (LOk_of (l := []) (by kernel_rfl) trivial) (l_u47q_eq) (fun v => match v with | (.inl v) => by kernel_rfl | (.inr v) => by kernel_rfl) (fun v => match v with | (.inl v) => by kernel_rfl | (.inr v) => by kernel_rfl)
abbrev B_u73q : Type := List AV
def p_u73q : PArgs := ⟨[], []⟩
def r_u73q : List PRes := [⟨false, .view 2, []⟩]
noncomputable def tr_u73q : DT B_u73q :=
 .bi (pj 0 (l_u46q (Sum.inl ([98, 97, 108, 97, 110, 99, 101], [108, 111, 119, 101, 115, 116], [118, 111, 108, 117, 109, 101], [97, 109, 111, 117, 110, 116], 0)))) (fun y0 =>
  .bi (pj 0 (l_u47q (Sum.inl ([99, 111, 117, 110, 116], [97, 103, 101], 0)))) (fun y1 =>
   .at ([AV.agg [AV.str [100, 97, 121], AV.int IntKind.i64 4]]))
   (.bi (pj 1 (l_u47q (Sum.inl ([99, 111, 117, 110, 116], [97, 103, 101], 0)))) (fun y1 =>
    .br (room ((sr y1).snd.snd.snd.length + 1) 24) (.at ((sr y1).snd.snd.snd ++ [AV.agg [AV.str [100, 97, 121], AV.int IntKind.i64 4]])) (.no))
    (.no)))
  (.bi (pj 1 (l_u46q (Sum.inl ([98, 97, 108, 97, 110, 99, 101], [108, 111, 119, 101, 115, 116], [118, 111, 108, 117, 109, 101], [97, 109, 111, 117, 110, 116], 0)))) (fun y0 =>
   .bi (pj 0 (l_u47q (Sum.inr ([99, 111, 117, 110, 116], [97, 103, 101], 0, (sr y0).snd.snd.snd.snd.snd)))) (fun y1 =>
    .at ([AV.agg [AV.str [100, 97, 121], AV.int IntKind.i64 4]]))
    (.bi (pj 1 (l_u47q (Sum.inr ([99, 111, 117, 110, 116], [97, 103, 101], 0, (sr y0).snd.snd.snd.snd.snd)))) (fun y1 =>
     .br (room ((sr y1).snd.snd.snd.length + 1) 24) (.at ((sr y1).snd.snd.snd ++ [AV.agg [AV.str [100, 97, 121], AV.int IntKind.i64 4]])) (.no))
     (.no)))
   (.no))
noncomputable def f_u73q : Option B_u73q := lock (tr_u73q).ev
theorem f_u73q_eq : f_u73q = (tr_u73q).ev := lock_eq _
theorem c_u73q : FH IP 8 p_u73q r_u73q (fun (v : Unit) => (f_u73q : Option B_u73q)) := fun_FH (F := F8) (L := [(1000800, ll_u46q), (1000801, ll_u47q)]) (t := fun (v : Unit) => tr_u73q) T0_ok (LOk_of (l := [loopAt F8 0, loopAt F8 1]) (by kernel_rfl) ⟨sel_one (by kernel_rfl) t_u46q, sel_one (by kernel_rfl) t_u47q, trivial⟩) (by kernel_rfl) (fun v => by kernel_rfl) (fun v => f_u73q_eq)
noncomputable def T1 : Tab := (8, FE p_u73q r_u73q (fun (v : Unit) => (f_u73q : Option B_u73q))) :: T0
theorem T1_ok : TabOk IP T1 := ⟨FE_ok c_u73q, T0_ok⟩
abbrev B_u113q : Type := List AV
def p_u113q : PArgs := ⟨[], []⟩
def r_u113q : List PRes := [⟨false, .view 2, []⟩]
noncomputable def tr_u113q : DT B_u113q :=
 .at ([AV.agg [AV.str [98, 97, 108, 97, 110, 99, 101], AV.int IntKind.i64 2], AV.agg [AV.str [108, 111, 119, 101, 115, 116], AV.int IntKind.i64 2],
  AV.agg [AV.str [118, 111, 108, 117, 109, 101], AV.int IntKind.i64 2], AV.agg [AV.str [97, 109, 111, 117, 110, 116], AV.int IntKind.i64 2],
  AV.agg [AV.str [99, 111, 117, 110, 116], AV.int IntKind.i64 1], AV.agg [AV.str [97, 103, 101], AV.int IntKind.i64 1], AV.agg [AV.str [100, 97, 121], AV.int IntKind.i64 4]])
noncomputable def f_u113q : Option B_u113q := lock (tr_u113q).ev
theorem f_u113q_eq : f_u113q = (tr_u113q).ev := lock_eq _
theorem c_u113q : FH IP 9 p_u113q r_u113q (fun (v : Unit) => (f_u113q : Option B_u113q)) := fun_FH (F := F9) (L := []) (t := fun (v : Unit) => tr_u113q) T1_ok (LOk_of (l := []) (by kernel_rfl) trivial) (by kernel_rfl) (fun v => by kernel_rfl) (fun v => f_u113q_eq)
noncomputable def T2 : Tab := (9, FE p_u113q r_u113q (fun (v : Unit) => (f_u113q : Option B_u113q))) :: T1
theorem T2_ok : TabOk IP T2 := ⟨FE_ok c_u113q, T1_ok⟩
abbrev B_u112q : Type := List UInt8 × List UInt8 × List UInt8 × Int × Int × Int × Int × List AV × Bool × Int × Int × Bool × List AV × Bool × Int × Int × Bool × List AV × List AV
def p_u112q : PArgs := ⟨[], []⟩
def r_u112q : List PRes := [⟨false, .agg [.str, .str, .str, .int .i64, .int .i64, .int .i64, .int .i64, .view 2, .bool, .int .i64, .int .i64, .bool, .view 2, .bool, .int .i64, .int .i64, .bool, .view 10, .view 6], []⟩]
noncomputable def tr_u112q : DT B_u112q :=
 .at (([103, 105, 114, 111], [69, 85, 82], [104, 111, 109, 101], 0, 1, 0, 0, [], false, 2, 6, false, [], false, 2, 6, false, [AV.agg
    [AV.str [108, 111, 119], AV.int IntKind.i64 1, AV.int IntKind.i64 12, AV.int IntKind.i64 0, AV.str [],
      AV.view 4
        [AV.agg [AV.int IntKind.i64 4, AV.int IntKind.i64 0, AV.str [98, 97, 108, 97, 110, 99, 101], AV.view 4 []],
          AV.agg [AV.int IntKind.i64 2, AV.int IntKind.i64 100, AV.str [], AV.view 4 []]],
      AV.int IntKind.i64 2, AV.int IntKind.i64 5, AV.str [], AV.view 4 []]], []))
noncomputable def f_u112q : Option B_u112q := lock (tr_u112q).ev
theorem f_u112q_eq : f_u112q = (tr_u112q).ev := lock_eq _
theorem c_u112q : FH IP 25 p_u112q r_u112q (fun (v : Unit) => (f_u112q : Option B_u112q)) := fun_FH (F := F25) (L := []) (t := fun (v : Unit) => tr_u112q) T2_ok (LOk_of (l := []) (by kernel_rfl) trivial) (by kernel_rfl) (fun v => by kernel_rfl) (fun v => f_u112q_eq)
noncomputable def T3 : Tab := (25, FE p_u112q r_u112q (fun (v : Unit) => (f_u112q : Option B_u112q))) :: T2
theorem T3_ok : TabOk IP T3 := ⟨FE_ok c_u112q, T2_ok⟩
abbrev TT_u69q : Type := List UInt8 × List AV × Int × Int × List UInt8 × Int
def hs_u69q : List PSt := [⟨[(1005000, .junk), (1, .str), (4, .ref 0 0 0), (8, .view 2), (9, .int .i64), (10, .int .i64)], [(0, .box [.str, .int .i64] false)], 1, 0⟩]
noncomputable def x_u69q_0 (x0 : List UInt8) (x1 : List AV) (x2 : Int) (x3 : Int) (x4 : List UInt8) (x5 : Int) : X × St := (X.ret,
  { tm := [(4, AV.ref 0 0 0), (5, AV.bool true)], hp := [(0, Blk.box [AV.str (strOf (cellAt x1 x3 0)), AV.int IntKind.i64 (intOf (cellAt x1 x3 1))] false)], nx := 1, k := 0 })
noncomputable def x_u69q_1 (x0 : List UInt8) (x1 : List AV) (x2 : Int) (x3 : Int) (x4 : List UInt8) (x5 : Int) : X × St := (X.exit 0, { tm := [(4, AV.ref 0 0 0), (5, AV.junk)], hp := [(0, Blk.box [AV.str x4, AV.int IntKind.i64 x5] false)], nx := 1, k := 0 })
noncomputable def x_u69q : List (TT_u69q → X × St) := [fun w => x_u69q_0 w.1 w.2.1 w.2.2.1 w.2.2.2.1 w.2.2.2.2.1 w.2.2.2.2.2, fun w => x_u69q_1 w.1 w.2.1 w.2.2.1 w.2.2.2.1 w.2.2.2.2.1 w.2.2.2.2.2]
noncomputable def st_u69q_0 (x0 : List UInt8) (x1 : List AV) (x2 : Int) (x3 : Int) (x4 : List UInt8) (x5 : Int) : DT (Rd TT_u69q) :=
 .br (decide (x3 < x2))
  (.br (okAt [CS.str, CS.int IntKind.i64] x1 x3)
   (.br (strOf (cellAt x1 x3 0) == x0) (.at (.done 0)) (.at (.next ((x0, x1, x2, IntKind.i64.wrap (x3 + 1), x4, x5)))))
   (.no))
  (.at (.done 1))
noncomputable def st_u69q : TT_u69q → DT (Rd TT_u69q) := (fun v => st_u69q_0 v.1 v.2.1 v.2.2.1 v.2.2.2.1 v.2.2.2.2.1 v.2.2.2.2.2)
noncomputable def l_u69q (v : TT_u69q) : Option (Nat × TT_u69q) := lock (iterO (fun v => (st_u69q v).ev) v)
theorem l_u69q_eq (v : TT_u69q) : l_u69q v = iterO (fun v => (st_u69q v).ev) v := lock_eq _
noncomputable def ll_u69q : LEnt := LE (τ := TT_u69q) (hD hs_u69q) (l_u69q) x_u69q
theorem t_u69q : Go.Eng.Told IP (loopAt F50 0).1 (loopAt F50 0).2 (ll_u69q) := loop_LE (inferInstance : Inhabited TT_u69q) (hs := hs_u69q) (st := st_u69q) (L := []) T3_ok (LOk_of (l := []) (by kernel_rfl) trivial) (l_u69q_eq) (fun v => by kernel_rfl) (fun v => by kernel_rfl)
abbrev B_u101q : Type := List UInt8 × Int × Bool
def p_u101q : PArgs := ⟨[.view 2, .str], []⟩
def r_u101q : List PRes := [⟨false, .tup [.agg [.str, .int .i64], .bool], []⟩]
noncomputable def tr_u101q (x0 : List AV) (x1 : List UInt8) : DT B_u101q :=
 .bi (pj 0 (l_u69q (x1, x0, (↑x0.length : Int), 0, [], 0))) (fun y0 =>
  .at ((strOf (cellAt y0.snd.fst y0.snd.snd.snd.fst 0), intOf (cellAt y0.snd.fst y0.snd.snd.snd.fst 1), true)))
  (.bi (pj 1 (l_u69q (x1, x0, (↑x0.length : Int), 0, [], 0))) (fun y0 =>
   .at (([], 0, false)))
   (.no))
noncomputable def f_u101q (x0 : List AV) (x1 : List UInt8) : Option B_u101q := lock (tr_u101q x0 x1).ev
theorem f_u101q_eq (x0 : List AV) (x1 : List UInt8) : f_u101q x0 x1 = (tr_u101q x0 x1).ev := lock_eq _
theorem c_u101q : FH IP 50 p_u101q r_u101q (fun (v : List AV × List UInt8) => (f_u101q v.1 v.2 : Option B_u101q)) := fun_FH (F := F50) (L := [(1005000, ll_u69q)]) (t := fun (v : List AV × List UInt8) => tr_u101q v.1 v.2) T3_ok (LOk_of (l := [loopAt F50 0]) (by kernel_rfl) ⟨sel_one (by kernel_rfl) t_u69q, trivial⟩) (by kernel_rfl) (fun v => by kernel_rfl) (fun v => f_u101q_eq v.1 v.2)
noncomputable def T4 : Tab := (50, FE p_u101q r_u101q (fun (v : List AV × List UInt8) => (f_u101q v.1 v.2 : Option B_u101q))) :: T3
theorem T4_ok : TabOk IP T4 := ⟨FE_ok c_u101q, T3_ok⟩
abbrev B_u34q : Type := Bool
def p_u34q : PArgs := ⟨[.agg [.str, .view 1, .view 1], .ptr [.str]], []⟩
def r_u34q : List PRes := [⟨false, .bool, []⟩]
noncomputable def tr_u34q (x0 : List UInt8) (x1 : List AV) (x2 : List AV) (x3 : List UInt8) : DT B_u34q :=
 .at (x0 == x3)
noncomputable def f_u34q (x0 : List UInt8) (x1 : List AV) (x2 : List AV) (x3 : List UInt8) : Option B_u34q := lock (tr_u34q x0 x1 x2 x3).ev
theorem f_u34q_eq (x0 : List UInt8) (x1 : List AV) (x2 : List AV) (x3 : List UInt8) : f_u34q x0 x1 x2 x3 = (tr_u34q x0 x1 x2 x3).ev := lock_eq _
theorem c_u34q : FH IP 69 p_u34q r_u34q (fun (v : List UInt8 × List AV × List AV × List UInt8) => (f_u34q v.1 v.2.1 v.2.2.1 v.2.2.2 : Option B_u34q)) := fun_FH (F := F69) (L := []) (t := fun (v : List UInt8 × List AV × List AV × List UInt8) => tr_u34q v.1 v.2.1 v.2.2.1 v.2.2.2) T4_ok (LOk_of (l := []) (by kernel_rfl) trivial) (by kernel_rfl) (fun v => by kernel_rfl) (fun v => f_u34q_eq v.1 v.2.1 v.2.2.1 v.2.2.2)
noncomputable def T5 : Tab := (69, FE p_u34q r_u34q (fun (v : List UInt8 × List AV × List AV × List UInt8) => (f_u34q v.1 v.2.1 v.2.2.1 v.2.2.2 : Option B_u34q))) :: T4
theorem T5_ok : TabOk IP T5 := ⟨FE_ok c_u34q, T4_ok⟩
abbrev TT_u6q : Type := List AV × List UInt8 × Int × Int
def hs_u6q : List PSt := [⟨[(1006800, .junk), (0, .view 3), (1, .fn (.func 69) [.ptr [.str]]), (7, .int .i64), (8, .int .i64)], [], 0, 0⟩]
noncomputable def x_u6q_0 (x0 : List AV) (x1 : List UInt8) (x2 : Int) (x3 : Int) : X × St := (X.ret, { tm := [(4, AV.int IntKind.i64 x3)], hp := [], nx := 0, k := 0 })
noncomputable def x_u6q_1 (x0 : List AV) (x1 : List UInt8) (x2 : Int) (x3 : Int) : X × St := (X.exit 0, { tm := [(4, AV.junk)], hp := [], nx := 0, k := 0 })
noncomputable def x_u6q : List (TT_u6q → X × St) := [fun w => x_u6q_0 w.1 w.2.1 w.2.2.1 w.2.2.2, fun w => x_u6q_1 w.1 w.2.1 w.2.2.1 w.2.2.2]
noncomputable def st_u6q_0 (x0 : List AV) (x1 : List UInt8) (x2 : Int) (x3 : Int) : DT (Rd TT_u6q) :=
 .br (decide (x3 < x2))
  (.br (okAt [CS.str, CS.slice 1, CS.slice 1] x0 x3)
   (.bi (f_u34q (strOf (cellAt x0 x3 0)) (viewOf (cellAt x0 x3 1)) (viewOf (cellAt x0 x3 2)) x1) (fun y0 =>
    .br (y0) (.at (.done 0)) (.at (.next ((x0, x1, x2, IntKind.i64.wrap (x3 + 1))))))
    (.no))
   (.no))
  (.at (.done 1))
noncomputable def st_u6q : TT_u6q → DT (Rd TT_u6q) := (fun v => st_u6q_0 v.1 v.2.1 v.2.2.1 v.2.2.2)
noncomputable def l_u6q (v : TT_u6q) : Option (Nat × TT_u6q) := lock (iterO (fun v => (st_u6q v).ev) v)
theorem l_u6q_eq (v : TT_u6q) : l_u6q v = iterO (fun v => (st_u6q v).ev) v := lock_eq _
noncomputable def ll_u6q : LEnt := LE (τ := TT_u6q) (hD hs_u6q) (l_u6q) x_u6q
theorem t_u6q : Go.Eng.Told IP (loopAt F68 0).1 (loopAt F68 0).2 (ll_u6q) := loop_LE (inferInstance : Inhabited TT_u6q) (hs := hs_u6q) (st := st_u6q) (L := []) T5_ok (LOk_of (l := []) (by kernel_rfl) trivial) (l_u6q_eq) (fun v => by kernel_rfl) (fun v => by kernel_rfl)
abbrev B_u7q : Type := Int
def p_u7q : PArgs := ⟨[.view 3, .fn (.func 69) [.ptr [.str]]], []⟩
def r_u7q : List PRes := [⟨false, .int .i64, []⟩]
noncomputable def tr_u7q (x0 : List AV) (x1 : List UInt8) : DT B_u7q :=
 .bi (pj 0 (l_u6q (x0, x1, (↑x0.length : Int), 0))) (fun y0 =>
  .at (y0.snd.snd.snd))
  (.bi (pj 1 (l_u6q (x0, x1, (↑x0.length : Int), 0))) (fun y0 =>
   .at (-1))
   (.no))
noncomputable def f_u7q (x0 : List AV) (x1 : List UInt8) : Option B_u7q := lock (tr_u7q x0 x1).ev
theorem f_u7q_eq (x0 : List AV) (x1 : List UInt8) : f_u7q x0 x1 = (tr_u7q x0 x1).ev := lock_eq _
theorem c_u7q : FH IP 68 p_u7q r_u7q (fun (v : List AV × List UInt8) => (f_u7q v.1 v.2 : Option B_u7q)) := fun_FH (F := F68) (L := [(1006800, ll_u6q)]) (t := fun (v : List AV × List UInt8) => tr_u7q v.1 v.2) T5_ok (LOk_of (l := [loopAt F68 0]) (by kernel_rfl) ⟨sel_one (by kernel_rfl) t_u6q, trivial⟩) (by kernel_rfl) (fun v => by kernel_rfl) (fun v => f_u7q_eq v.1 v.2)
noncomputable def T6 : Tab := (68, FE p_u7q r_u7q (fun (v : List AV × List UInt8) => (f_u7q v.1 v.2 : Option B_u7q))) :: T5
theorem T6_ok : TabOk IP T6 := ⟨FE_ok c_u7q, T5_ok⟩
abbrev B_u55q : Type := List UInt8 × List AV × List AV × Bool
def p_u55q : PArgs := ⟨[.view 3, .str], []⟩
def r_u55q : List PRes := [⟨false, .tup [.agg [.str, .view 1, .view 1], .bool], []⟩]
noncomputable def tr_u55q (x0 : List AV) (x1 : List UInt8) : DT B_u55q :=
 .bi (f_u7q x0 x1) (fun y0 =>
  .br (decide (y0 < 0))
   (.at (([], [], [], false)))
   (.br (okAt [CS.str, CS.slice 1, CS.slice 1] x0 y0)
    (.br (decide ((viewOf (cellAt x0 y0 1)).length = 0))
     (.br (decide ((viewOf (cellAt x0 y0 2)).length = 0))
      (.at ((strOf (cellAt x0 y0 0), [], [], true)))
      (.br (decide ((viewOf (cellAt x0 y0 2)).length ≠ 0) && decide ((viewOf (cellAt x0 y0 2)).length * 8 ≤ lim))
       (.at ((strOf (cellAt x0 y0 0), [], viewOf (cellAt x0 y0 2), true)))
       (.no)))
     (.br (decide ((viewOf (cellAt x0 y0 1)).length ≠ 0) && decide ((viewOf (cellAt x0 y0 1)).length * 8 ≤ lim))
      (.br (decide ((viewOf (cellAt x0 y0 2)).length = 0))
       (.at ((strOf (cellAt x0 y0 0), viewOf (cellAt x0 y0 1), [], true)))
       (.br (decide ((viewOf (cellAt x0 y0 2)).length ≠ 0) && decide ((viewOf (cellAt x0 y0 2)).length * 8 ≤ lim))
        (.at ((strOf (cellAt x0 y0 0), viewOf (cellAt x0 y0 1), viewOf (cellAt x0 y0 2), true)))
        (.no)))
      (.no)))
    (.no)))
  (.no)
noncomputable def f_u55q (x0 : List AV) (x1 : List UInt8) : Option B_u55q := lock (tr_u55q x0 x1).ev
theorem f_u55q_eq (x0 : List AV) (x1 : List UInt8) : f_u55q x0 x1 = (tr_u55q x0 x1).ev := lock_eq _
theorem c_u55q : FH IP 51 p_u55q r_u55q (fun (v : List AV × List UInt8) => (f_u55q v.1 v.2 : Option B_u55q)) := fun_FH (F := F51) (L := []) (t := fun (v : List AV × List UInt8) => tr_u55q v.1 v.2) T6_ok (LOk_of (l := []) (by kernel_rfl) trivial) (by kernel_rfl) (fun v => by kernel_rfl) (fun v => f_u55q_eq v.1 v.2)
noncomputable def T7 : Tab := (51, FE p_u55q r_u55q (fun (v : List AV × List UInt8) => (f_u55q v.1 v.2 : Option B_u55q))) :: T6
theorem T7_ok : TabOk IP T7 := ⟨FE_ok c_u55q, T6_ok⟩
abbrev TT_u49q : Type := List UInt8 × Int × Int
def hs_u49q : List PSt := [⟨[(1005200, .junk), (0, .str), (7, .int .i64), (8, .int .i64)], [], 0, 0⟩]
noncomputable def x_u49q_0 (x0 : List UInt8) (x1 : Int) (x2 : Int) : X × St := (X.ret, { tm := [(0, AV.str x0), (2, AV.bool false)], hp := [], nx := 0, k := 0 })
noncomputable def x_u49q_1 (x0 : List UInt8) (x1 : Int) (x2 : Int) : X × St := (X.exit 0, { tm := [(0, AV.str x0), (2, AV.junk)], hp := [], nx := 0, k := 0 })
noncomputable def x_u49q : List (TT_u49q → X × St) := [fun w => x_u49q_0 w.1 w.2.1 w.2.2, fun w => x_u49q_1 w.1 w.2.1 w.2.2]
noncomputable def st_u49q_0 (x0 : List UInt8) (x1 : Int) (x2 : Int) : DT (Rd TT_u49q) :=
 .br (decide (x2 < x1))
  (.br (inB x0.length x2)
   (.bi (br (decide (byteAt x0 x2 ≥ 97)) (some (decide (byteAt x0 x2 ≤ 122))) (some false)) (fun y0 =>
    .bi (br (!y0) (br (x2 == 0) (some true) (br (byteAt x0 x2 != 95) (br (decide (byteAt x0 x2 < 48)) (some true) (some (decide (byteAt x0 x2 > 57)))) (some false))) (some false)) (fun y1 =>
     .br (y1) (.at (.done 0)) (.at (.next ((x0, x1, IntKind.i64.wrap (x2 + 1))))))
     (.no))
    (.no))
   (.no))
  (.at (.done 1))
noncomputable def st_u49q : TT_u49q → DT (Rd TT_u49q) := (fun v => st_u49q_0 v.1 v.2.1 v.2.2)
noncomputable def l_u49q (v : TT_u49q) : Option (Nat × TT_u49q) := lock (iterO (fun v => (st_u49q v).ev) v)
theorem l_u49q_eq (v : TT_u49q) : l_u49q v = iterO (fun v => (st_u49q v).ev) v := lock_eq _
noncomputable def ll_u49q : LEnt := LE (τ := TT_u49q) (hD hs_u49q) (l_u49q) x_u49q
theorem t_u49q : Go.Eng.Told IP (loopAt F52 0).1 (loopAt F52 0).2 (ll_u49q) := loop_LE (inferInstance : Inhabited TT_u49q) (hs := hs_u49q) (st := st_u49q) (L := []) T7_ok (LOk_of (l := []) (by kernel_rfl) trivial) (l_u49q_eq) (fun v => by kernel_rfl) (fun v => by kernel_rfl)
abbrev B_u75q : Type := Bool
def p_u75q : PArgs := ⟨[.str], []⟩
def r_u75q : List PRes := [⟨false, .bool, []⟩]
noncomputable def tr_u75q (x0 : List UInt8) : DT B_u75q :=
 .bi (pj 0 (l_u49q (x0, (↑x0.length : Int), 0))) (fun y0 =>
  .at (false))
  (.bi (pj 1 (l_u49q (x0, (↑x0.length : Int), 0))) (fun y0 =>
   .bi (br (decide ((↑y0.fst.length : Int) ≥ 1)) (some (decide ((↑y0.fst.length : Int) ≤ 16))) (some false)) (fun y1 =>
    .at (y1))
    (.no))
   (.no))
noncomputable def f_u75q (x0 : List UInt8) : Option B_u75q := lock (tr_u75q x0).ev
theorem f_u75q_eq (x0 : List UInt8) : f_u75q x0 = (tr_u75q x0).ev := lock_eq _
theorem c_u75q : FH IP 52 p_u75q r_u75q (fun (v : List UInt8) => (f_u75q v : Option B_u75q)) := fun_FH (F := F52) (L := [(1005200, ll_u49q)]) (t := fun (v : List UInt8) => tr_u75q v) T7_ok (LOk_of (l := [loopAt F52 0]) (by kernel_rfl) ⟨sel_one (by kernel_rfl) t_u49q, trivial⟩) (by kernel_rfl) (fun v => by kernel_rfl) (fun v => f_u75q_eq v)
noncomputable def T8 : Tab := (52, FE p_u75q r_u75q (fun (v : List UInt8) => (f_u75q v : Option B_u75q))) :: T7
theorem T8_ok : TabOk IP T8 := ⟨FE_ok c_u75q, T7_ok⟩
abbrev B_u96q : Type := Bool
def p_u96q : PArgs := ⟨[.int .i64], []⟩
def r_u96q : List PRes := [⟨false, .bool, []⟩]
noncomputable def tr_u96q (x0 : Int) : DT B_u96q :=
 .bi (br (decide (x0 ≥ 0)) (some (decide (x0 ≤ 73048))) (some false)) (fun y0 =>
  .at (y0))
  (.no)
noncomputable def f_u96q (x0 : Int) : Option B_u96q := lock (tr_u96q x0).ev
theorem f_u96q_eq (x0 : Int) : f_u96q x0 = (tr_u96q x0).ev := lock_eq _
theorem c_u96q : FH IP 53 p_u96q r_u96q (fun (v : Int) => (f_u96q v : Option B_u96q)) := fun_FH (F := F53) (L := []) (t := fun (v : Int) => tr_u96q v) T8_ok (LOk_of (l := []) (by kernel_rfl) trivial) (by kernel_rfl) (fun v => by kernel_rfl) (fun v => f_u96q_eq v)
noncomputable def T9 : Tab := (53, FE p_u96q r_u96q (fun (v : Int) => (f_u96q v : Option B_u96q))) :: T8
theorem T9_ok : TabOk IP T9 := ⟨FE_ok c_u96q, T8_ok⟩
abbrev B_u74q : Type := Int
def p_u74q : PArgs := ⟨[.agg [.str, .str, .str, .int .i64, .int .i64, .int .i64, .int .i64, .view 2, .bool, .int .i64, .int .i64, .bool, .view 2, .bool, .int .i64, .int .i64, .bool, .view 10, .view 6], .view 2, .view 3], []⟩
def r_u74q : List PRes := [⟨false, .int .i64, []⟩]
noncomputable def tr_u74q (x0 : List UInt8) (x1 : List UInt8) (x2 : List UInt8) (x3 : Int) (x4 : Int) (x5 : Int) (x6 : Int) (x7 : List AV) (x8 : Bool) (x9 : Int) (x10 : Int) (x11 : Bool) (x12 : List AV) (x13 : Bool) (x14 : Int) (x15 : Int) (x16 : Bool) (x17 : List AV) (x18 : List AV) (x19 : List AV) (x20 : List AV) : DT B_u74q :=
 .bi (f_u101q x19 x1) (fun y0 =>
  .bi (f_u55q x20 x2) (fun y1 =>
   .bi (br (x4 == 1) (some true) (some (x4 == 3))) (fun y2 =>
    .bi (br y2 (some true) (some (x4 == 6))) (fun y3 =>
     .bi (br y3 (some true) (some (x4 == 12))) (fun y4 =>
      .bi (f_u75q x0) (fun y5 =>
       .br (!y5)
        (.at (4))
        (.br (!y0.snd.snd)
         (.at (14))
         (.br (!y1.snd.snd.snd)
          (.at (11))
          (.bi (f_u96q x3) (fun y6 =>
           .bi (br (!y6) (some true) (some !y4)) (fun y7 =>
            .bi (br y7 (some true) (some (decide (x5 < 0)))) (fun y8 =>
             .bi (br y8 (some true) (some (decide (x5 > 1000000000000)))) (fun y9 =>
              .bi (br y9 (some true) (some (decide (x6 < 0)))) (fun y10 =>
               .bi (br y10 (some true) (some (decide (x6 > 1000000)))) (fun y11 =>
                .br (y11) (.at (1)) (.at (0)))
                (.no))
               (.no))
              (.no))
             (.no))
            (.no))
           (.no)))))
       (.no))
      (.no))
     (.no))
    (.no))
   (.no))
  (.no)
noncomputable def f_u74q (x0 : List UInt8) (x1 : List UInt8) (x2 : List UInt8) (x3 : Int) (x4 : Int) (x5 : Int) (x6 : Int) (x7 : List AV) (x8 : Bool) (x9 : Int) (x10 : Int) (x11 : Bool) (x12 : List AV) (x13 : Bool) (x14 : Int) (x15 : Int) (x16 : Bool) (x17 : List AV) (x18 : List AV) (x19 : List AV) (x20 : List AV) : Option B_u74q := lock (tr_u74q x0 x1 x2 x3 x4 x5 x6 x7 x8 x9 x10 x11 x12 x13 x14 x15 x16 x17 x18 x19 x20).ev
theorem f_u74q_eq (x0 : List UInt8) (x1 : List UInt8) (x2 : List UInt8) (x3 : Int) (x4 : Int) (x5 : Int) (x6 : Int) (x7 : List AV) (x8 : Bool) (x9 : Int) (x10 : Int) (x11 : Bool) (x12 : List AV) (x13 : Bool) (x14 : Int) (x15 : Int) (x16 : Bool) (x17 : List AV) (x18 : List AV) (x19 : List AV) (x20 : List AV) : f_u74q x0 x1 x2 x3 x4 x5 x6 x7 x8 x9 x10 x11 x12 x13 x14 x15 x16 x17 x18 x19 x20 = (tr_u74q x0 x1 x2 x3 x4 x5 x6 x7 x8 x9 x10 x11 x12 x13 x14 x15 x16 x17 x18 x19 x20).ev := lock_eq _
theorem c_u74q : FH IP 27 p_u74q r_u74q (fun (v : List UInt8 × List UInt8 × List UInt8 × Int × Int × Int × Int × List AV × Bool × Int × Int × Bool × List AV × Bool × Int × Int × Bool × List AV × List AV × List AV × List AV) => (f_u74q v.1 v.2.1 v.2.2.1 v.2.2.2.1 v.2.2.2.2.1 v.2.2.2.2.2.1 v.2.2.2.2.2.2.1 v.2.2.2.2.2.2.2.1 v.2.2.2.2.2.2.2.2.1 v.2.2.2.2.2.2.2.2.2.1 v.2.2.2.2.2.2.2.2.2.2.1 v.2.2.2.2.2.2.2.2.2.2.2.1 v.2.2.2.2.2.2.2.2.2.2.2.2.1 v.2.2.2.2.2.2.2.2.2.2.2.2.2.1 v.2.2.2.2.2.2.2.2.2.2.2.2.2.2.1 v.2.2.2.2.2.2.2.2.2.2.2.2.2.2.2.1 v.2.2.2.2.2.2.2.2.2.2.2.2.2.2.2.2.1 v.2.2.2.2.2.2.2.2.2.2.2.2.2.2.2.2.2.1 v.2.2.2.2.2.2.2.2.2.2.2.2.2.2.2.2.2.2.1 v.2.2.2.2.2.2.2.2.2.2.2.2.2.2.2.2.2.2.2.1 v.2.2.2.2.2.2.2.2.2.2.2.2.2.2.2.2.2.2.2.2 : Option B_u74q)) := fun_FH (F := F27) (L := []) (t := fun (v : List UInt8 × List UInt8 × List UInt8 × Int × Int × Int × Int × List AV × Bool × Int × Int × Bool × List AV × Bool × Int × Int × Bool × List AV × List AV × List AV × List AV) => tr_u74q v.1 v.2.1 v.2.2.1 v.2.2.2.1 v.2.2.2.2.1 v.2.2.2.2.2.1 v.2.2.2.2.2.2.1 v.2.2.2.2.2.2.2.1 v.2.2.2.2.2.2.2.2.1 v.2.2.2.2.2.2.2.2.2.1 v.2.2.2.2.2.2.2.2.2.2.1 v.2.2.2.2.2.2.2.2.2.2.2.1 v.2.2.2.2.2.2.2.2.2.2.2.2.1 v.2.2.2.2.2.2.2.2.2.2.2.2.2.1 v.2.2.2.2.2.2.2.2.2.2.2.2.2.2.1 v.2.2.2.2.2.2.2.2.2.2.2.2.2.2.2.1 v.2.2.2.2.2.2.2.2.2.2.2.2.2.2.2.2.1 v.2.2.2.2.2.2.2.2.2.2.2.2.2.2.2.2.2.1 v.2.2.2.2.2.2.2.2.2.2.2.2.2.2.2.2.2.2.1 v.2.2.2.2.2.2.2.2.2.2.2.2.2.2.2.2.2.2.2.1 v.2.2.2.2.2.2.2.2.2.2.2.2.2.2.2.2.2.2.2.2) T9_ok (LOk_of (l := []) (by kernel_rfl) trivial) (by kernel_rfl) (fun v => by kernel_rfl) (fun v => f_u74q_eq v.1 v.2.1 v.2.2.1 v.2.2.2.1 v.2.2.2.2.1 v.2.2.2.2.2.1 v.2.2.2.2.2.2.1 v.2.2.2.2.2.2.2.1 v.2.2.2.2.2.2.2.2.1 v.2.2.2.2.2.2.2.2.2.1 v.2.2.2.2.2.2.2.2.2.2.1 v.2.2.2.2.2.2.2.2.2.2.2.1 v.2.2.2.2.2.2.2.2.2.2.2.2.1 v.2.2.2.2.2.2.2.2.2.2.2.2.2.1 v.2.2.2.2.2.2.2.2.2.2.2.2.2.2.1 v.2.2.2.2.2.2.2.2.2.2.2.2.2.2.2.1 v.2.2.2.2.2.2.2.2.2.2.2.2.2.2.2.2.1 v.2.2.2.2.2.2.2.2.2.2.2.2.2.2.2.2.2.1 v.2.2.2.2.2.2.2.2.2.2.2.2.2.2.2.2.2.2.1 v.2.2.2.2.2.2.2.2.2.2.2.2.2.2.2.2.2.2.2.1 v.2.2.2.2.2.2.2.2.2.2.2.2.2.2.2.2.2.2.2.2)
noncomputable def T10 : Tab := (27, FE p_u74q r_u74q (fun (v : List UInt8 × List UInt8 × List UInt8 × Int × Int × Int × Int × List AV × Bool × Int × Int × Bool × List AV × Bool × Int × Int × Bool × List AV × List AV × List AV × List AV) => (f_u74q v.1 v.2.1 v.2.2.1 v.2.2.2.1 v.2.2.2.2.1 v.2.2.2.2.2.1 v.2.2.2.2.2.2.1 v.2.2.2.2.2.2.2.1 v.2.2.2.2.2.2.2.2.1 v.2.2.2.2.2.2.2.2.2.1 v.2.2.2.2.2.2.2.2.2.2.1 v.2.2.2.2.2.2.2.2.2.2.2.1 v.2.2.2.2.2.2.2.2.2.2.2.2.1 v.2.2.2.2.2.2.2.2.2.2.2.2.2.1 v.2.2.2.2.2.2.2.2.2.2.2.2.2.2.1 v.2.2.2.2.2.2.2.2.2.2.2.2.2.2.2.1 v.2.2.2.2.2.2.2.2.2.2.2.2.2.2.2.2.1 v.2.2.2.2.2.2.2.2.2.2.2.2.2.2.2.2.2.1 v.2.2.2.2.2.2.2.2.2.2.2.2.2.2.2.2.2.2.1 v.2.2.2.2.2.2.2.2.2.2.2.2.2.2.2.2.2.2.2.1 v.2.2.2.2.2.2.2.2.2.2.2.2.2.2.2.2.2.2.2.2 : Option B_u74q))) :: T9
theorem T10_ok : TabOk IP T10 := ⟨FE_ok c_u74q, T9_ok⟩
abbrev TT_u77q : Type := List AV × List AV × Int × Int
def hs_u77q : List PSt := [⟨[(1005400, .junk), (0, .view 2), (8, .view 2), (9, .int .i64), (10, .int .i64)], [], 0, 0⟩]
noncomputable def x_u77q_0 (x0 : List AV) (x1 : List AV) (x2 : Int) (x3 : Int) : X × St := (X.ret, { tm := [(0, AV.view 2 x0), (2, AV.int IntKind.i64 1)], hp := [], nx := 0, k := 0 })
noncomputable def x_u77q_1 (x0 : List AV) (x1 : List AV) (x2 : Int) (x3 : Int) : X × St := (X.exit 0, { tm := [(0, AV.view 2 x0), (2, AV.junk)], hp := [], nx := 0, k := 0 })
noncomputable def x_u77q : List (TT_u77q → X × St) := [fun w => x_u77q_0 w.1 w.2.1 w.2.2.1 w.2.2.2, fun w => x_u77q_1 w.1 w.2.1 w.2.2.1 w.2.2.2]
noncomputable def st_u77q_0 (x0 : List AV) (x1 : List AV) (x2 : Int) (x3 : Int) : DT (Rd TT_u77q) :=
 .br (decide (x3 < x2))
  (.br (okAt [CS.int IntKind.i64, CS.int IntKind.i64] x1 x3)
   (.bi (br (decide (intOf (cellAt x1 x3 0) < 0)) (some true) (some (decide (intOf (cellAt x1 x3 0) > 1000000000000)))) (fun y0 =>
    .bi (br y0 (some true) (some (decide (intOf (cellAt x1 x3 1) < 0)))) (fun y1 =>
     .bi (br y1 (some true) (some (decide (intOf (cellAt x1 x3 1) > 1000000)))) (fun y2 =>
      .br (y2) (.at (.done 0)) (.at (.next ((x0, x1, x2, IntKind.i64.wrap (x3 + 1))))))
      (.no))
     (.no))
    (.no))
   (.no))
  (.at (.done 1))
noncomputable def st_u77q : TT_u77q → DT (Rd TT_u77q) := (fun v => st_u77q_0 v.1 v.2.1 v.2.2.1 v.2.2.2)
noncomputable def l_u77q (v : TT_u77q) : Option (Nat × TT_u77q) := lock (iterO (fun v => (st_u77q v).ev) v)
theorem l_u77q_eq (v : TT_u77q) : l_u77q v = iterO (fun v => (st_u77q v).ev) v := lock_eq _
noncomputable def ll_u77q : LEnt := LE (τ := TT_u77q) (hD hs_u77q) (l_u77q) x_u77q
theorem t_u77q : Go.Eng.Told IP (loopAt F54 0).1 (loopAt F54 0).2 (ll_u77q) := loop_LE (inferInstance : Inhabited TT_u77q) (hs := hs_u77q) (st := st_u77q) (L := []) T10_ok (LOk_of (l := []) (by kernel_rfl) trivial) (l_u77q_eq) (fun v => by kernel_rfl) (fun v => by kernel_rfl)
abbrev B_u78q : Type := Int
def p_u78q : PArgs := ⟨[.agg [.int .i64, .int .i64]], []⟩
def r_u78q : List PRes := [⟨false, .int .i64, []⟩]
noncomputable def tr_u78q (x0 : Int) (x1 : Int) : DT B_u78q :=
 .at (x0)
noncomputable def f_u78q (x0 : Int) (x1 : Int) : Option B_u78q := lock (tr_u78q x0 x1).ev
theorem f_u78q_eq (x0 : Int) (x1 : Int) : f_u78q x0 x1 = (tr_u78q x0 x1).ev := lock_eq _
theorem c_u78q : FH IP 72 p_u78q r_u78q (fun (v : Int × Int) => (f_u78q v.1 v.2 : Option B_u78q)) := fun_FH (F := F72) (L := []) (t := fun (v : Int × Int) => tr_u78q v.1 v.2) T10_ok (LOk_of (l := []) (by kernel_rfl) trivial) (by kernel_rfl) (fun v => by kernel_rfl) (fun v => f_u78q_eq v.1 v.2)
noncomputable def T11 : Tab := (72, FE p_u78q r_u78q (fun (v : Int × Int) => (f_u78q v.1 v.2 : Option B_u78q))) :: T10
theorem T11_ok : TabOk IP T11 := ⟨FE_ok c_u78q, T10_ok⟩
abbrev TT_u21q : Type := List AV × Int
def hs_u21q : List PSt := [⟨[(1007100, .junk), (0, .view 2), (1, .fn (.func 72) []), (5, .int .i64)], [], 0, 0⟩]
noncomputable def x_u21q_0 (x0 : List AV) (x1 : Int) : X × St := (X.ret, { tm := [(4, AV.bool false)], hp := [], nx := 0, k := 0 })
noncomputable def x_u21q_1 (x0 : List AV) (x1 : Int) : X × St := (X.exit 0, { tm := [(4, AV.junk)], hp := [], nx := 0, k := 0 })
noncomputable def x_u21q : List (TT_u21q → X × St) := [fun w => x_u21q_0 w.1 w.2, fun w => x_u21q_1 w.1 w.2]
noncomputable def st_u21q_0 (x0 : List AV) (x1 : Int) : DT (Rd TT_u21q) :=
 .br (decide (x1 < (↑x0.length : Int)))
  (.br (okAt [CS.int IntKind.i64, CS.int IntKind.i64] x0 x1)
   (.bi (f_u78q (intOf (cellAt x0 x1 0)) (intOf (cellAt x0 x1 1))) (fun y0 =>
    .br (okAt [CS.int IntKind.i64, CS.int IntKind.i64] x0 (IntKind.i64.wrap (x1 - 1)))
     (.bi (f_u78q (intOf (cellAt x0 (IntKind.i64.wrap (x1 - 1)) 0)) (intOf (cellAt x0 (IntKind.i64.wrap (x1 - 1)) 1))) (fun y1 =>
      .br (decide (y0 ≤ y1)) (.at (.done 0)) (.at (.next ((x0, IntKind.i64.wrap (x1 + 1))))))
      (.no))
     (.no))
    (.no))
   (.no))
  (.at (.done 1))
noncomputable def st_u21q : TT_u21q → DT (Rd TT_u21q) := (fun v => st_u21q_0 v.1 v.2)
noncomputable def l_u21q (v : TT_u21q) : Option (Nat × TT_u21q) := lock (iterO (fun v => (st_u21q v).ev) v)
theorem l_u21q_eq (v : TT_u21q) : l_u21q v = iterO (fun v => (st_u21q v).ev) v := lock_eq _
noncomputable def ll_u21q : LEnt := LE (τ := TT_u21q) (hD hs_u21q) (l_u21q) x_u21q
theorem t_u21q : Go.Eng.Told IP (loopAt F71 0).1 (loopAt F71 0).2 (ll_u21q) := loop_LE (inferInstance : Inhabited TT_u21q) (hs := hs_u21q) (st := st_u21q) (L := []) T11_ok (LOk_of (l := []) (by kernel_rfl) trivial) (l_u21q_eq) (fun v => by kernel_rfl) (fun v => by kernel_rfl)
abbrev B_u23q : Type := Bool
def p_u23q : PArgs := ⟨[.view 2, .fn (.func 72) []], []⟩
def r_u23q : List PRes := [⟨false, .bool, []⟩]
noncomputable def tr_u23q (x0 : List AV) : DT B_u23q :=
 .bi (pj 0 (l_u21q (x0, 1))) (fun y0 =>
  .at (false))
  (.bi (pj 1 (l_u21q (x0, 1))) (fun y0 =>
   .at (true))
   (.no))
noncomputable def f_u23q (x0 : List AV) : Option B_u23q := lock (tr_u23q x0).ev
theorem f_u23q_eq (x0 : List AV) : f_u23q x0 = (tr_u23q x0).ev := lock_eq _
theorem c_u23q : FH IP 71 p_u23q r_u23q (fun (v : List AV) => (f_u23q v : Option B_u23q)) := fun_FH (F := F71) (L := [(1007100, ll_u21q)]) (t := fun (v : List AV) => tr_u23q v) T11_ok (LOk_of (l := [loopAt F71 0]) (by kernel_rfl) ⟨sel_one (by kernel_rfl) t_u21q, trivial⟩) (by kernel_rfl) (fun v => by kernel_rfl) (fun v => f_u23q_eq v)
noncomputable def T12 : Tab := (71, FE p_u23q r_u23q (fun (v : List AV) => (f_u23q v : Option B_u23q))) :: T11
theorem T12_ok : TabOk IP T12 := ⟨FE_ok c_u23q, T11_ok⟩
abbrev B_u102q : Type := Int
def p_u102q : PArgs := ⟨[.view 2], []⟩
def r_u102q : List PRes := [⟨false, .int .i64, []⟩]
noncomputable def tr_u102q (x0 : List AV) : DT B_u102q :=
 .br (decide ((↑x0.length : Int) > 6))
  (.at (5))
  (.bi (pj 0 (l_u77q (x0, x0, (↑x0.length : Int), 0))) (fun y0 =>
   .at (1))
   (.bi (pj 1 (l_u77q (x0, x0, (↑x0.length : Int), 0))) (fun y0 =>
    .bi (f_u23q y0.fst) (fun y1 =>
     .br (!y1)
      (.at (10))
      (.bi (br (decide ((↑y0.fst.length : Int) > 0)) (br (okAt [CS.int IntKind.i64, CS.int IntKind.i64] y0.fst 0) (some (intOf (cellAt y0.fst 0 0) != 0)) none) (some false)) (fun y2 =>
       .br (y2) (.at (1)) (.at (0)))
       (.no)))
     (.no))
    (.no)))
noncomputable def f_u102q (x0 : List AV) : Option B_u102q := lock (tr_u102q x0).ev
theorem f_u102q_eq (x0 : List AV) : f_u102q x0 = (tr_u102q x0).ev := lock_eq _
theorem c_u102q : FH IP 54 p_u102q r_u102q (fun (v : List AV) => (f_u102q v : Option B_u102q)) := fun_FH (F := F54) (L := [(1005400, ll_u77q)]) (t := fun (v : List AV) => tr_u102q v) T12_ok (LOk_of (l := [loopAt F54 0]) (by kernel_rfl) ⟨sel_one (by kernel_rfl) t_u77q, trivial⟩) (by kernel_rfl) (fun v => by kernel_rfl) (fun v => f_u102q_eq v)
noncomputable def T13 : Tab := (54, FE p_u102q r_u102q (fun (v : List AV) => (f_u102q v : Option B_u102q))) :: T12
theorem T13_ok : TabOk IP T13 := ⟨FE_ok c_u102q, T12_ok⟩
abbrev B_u31q : Type := Int
def p_u31q : PArgs := ⟨[.agg [.view 2, .bool, .int .i64, .int .i64, .bool]], []⟩
def r_u31q : List PRes := [⟨false, .int .i64, []⟩]
noncomputable def tr_u31q (x0 : List AV) (x1 : Bool) (x2 : Int) (x3 : Int) (x4 : Bool) : DT B_u31q :=
 .bi (f_u102q x0) (fun y0 =>
  .br (y0 != 0)
   (.at (y0))
   (.bi (br (decide (x2 < 1)) (some true) (some (decide (x2 > 4)))) (fun y1 =>
    .bi (br y1 (some true) (some (decide (x3 < 1)))) (fun y2 =>
     .bi (br y2 (some true) (some (decide (x3 > 6)))) (fun y3 =>
      .br (y3) (.at (1)) (.at (0)))
      (.no))
     (.no))
    (.no)))
  (.no)
noncomputable def f_u31q (x0 : List AV) (x1 : Bool) (x2 : Int) (x3 : Int) (x4 : Bool) : Option B_u31q := lock (tr_u31q x0 x1 x2 x3 x4).ev
theorem f_u31q_eq (x0 : List AV) (x1 : Bool) (x2 : Int) (x3 : Int) (x4 : Bool) : f_u31q x0 x1 x2 x3 x4 = (tr_u31q x0 x1 x2 x3 x4).ev := lock_eq _
theorem c_u31q : FH IP 28 p_u31q r_u31q (fun (v : List AV × Bool × Int × Int × Bool) => (f_u31q v.1 v.2.1 v.2.2.1 v.2.2.2.1 v.2.2.2.2 : Option B_u31q)) := fun_FH (F := F28) (L := []) (t := fun (v : List AV × Bool × Int × Int × Bool) => tr_u31q v.1 v.2.1 v.2.2.1 v.2.2.2.1 v.2.2.2.2) T13_ok (LOk_of (l := []) (by kernel_rfl) trivial) (by kernel_rfl) (fun v => by kernel_rfl) (fun v => f_u31q_eq v.1 v.2.1 v.2.2.1 v.2.2.2.1 v.2.2.2.2)
noncomputable def T14 : Tab := (28, FE p_u31q r_u31q (fun (v : List AV × Bool × Int × Int × Bool) => (f_u31q v.1 v.2.1 v.2.2.1 v.2.2.2.1 v.2.2.2.2 : Option B_u31q))) :: T13
theorem T14_ok : TabOk IP T14 := ⟨FE_ok c_u31q, T13_ok⟩
abbrev TT_u35q : Type := List AV × Bool × Int × Int × Bool × List AV × Bool × Int × Int × Bool × Int × List UInt8 × List UInt8 × List UInt8 × Int × Int × Int × Int × List AV × Bool × Int × Int × Bool × List AV × Bool × Int × Int × Bool × List AV × List AV
def hs_u35q : List PSt := [⟨[(1001200, .junk), (3, .ref 0 0 0), (28, .agg [.view 2, .bool, .int .i64, .int .i64, .bool, .view 2, .bool, .int .i64, .int .i64, .bool]), (29, .int .i64)], [(0, .box [.str, .str, .str, .int .i64, .int .i64, .int .i64, .int .i64, .view 2, .bool, .int .i64, .int .i64, .bool, .view 2, .bool, .int .i64, .int .i64, .bool, .view 10, .view 6] false)], 1, 0⟩]
noncomputable def x_u35q_0 (x0 : List AV) (x1 : Bool) (x2 : Int) (x3 : Int) (x4 : Bool) (x5 : List AV) (x6 : Bool) (x7 : Int) (x8 : Int) (x9 : Bool) (x10 : Int) (x11 : List UInt8) (x12 : List UInt8) (x13 : List UInt8) (x14 : Int) (x15 : Int) (x16 : Int) (x17 : Int) (x18 : List AV) (x19 : Bool) (x20 : Int) (x21 : Int) (x22 : Bool) (x23 : List AV) (x24 : Bool) (x25 : Int) (x26 : Int) (x27 : Bool) (x28 : List AV) (x29 : List AV) : X × St := (X.ret,
  { tm := [(3, AV.ref 0 0 0), (6, AV.int IntKind.i64 (gv (f_u31q x0 x1 x2 x3 x4)))],
    hp :=
      [(0,
          Blk.box
            [AV.str x11, AV.str x12, AV.str x13, AV.int IntKind.i64 x14, AV.int IntKind.i64 x15, AV.int IntKind.i64 x16, AV.int IntKind.i64 x17, AV.view 2 x18, AV.bool x19,
              AV.int IntKind.i64 x20, AV.int IntKind.i64 x21, AV.bool x22, AV.view 2 x23, AV.bool x24, AV.int IntKind.i64 x25, AV.int IntKind.i64 x26, AV.bool x27, AV.view 10 x28,
              AV.view 6 x29]
            false)],
    nx := 1, k := 0 })
noncomputable def x_u35q_1 (x0 : List AV) (x1 : Bool) (x2 : Int) (x3 : Int) (x4 : Bool) (x5 : List AV) (x6 : Bool) (x7 : Int) (x8 : Int) (x9 : Bool) (x10 : Int) (x11 : List UInt8) (x12 : List UInt8) (x13 : List UInt8) (x14 : Int) (x15 : Int) (x16 : Int) (x17 : Int) (x18 : List AV) (x19 : Bool) (x20 : Int) (x21 : Int) (x22 : Bool) (x23 : List AV) (x24 : Bool) (x25 : Int) (x26 : Int) (x27 : Bool) (x28 : List AV) (x29 : List AV) : X × St := (X.ret,
  { tm := [(3, AV.ref 0 0 0), (6, AV.int IntKind.i64 (gv (f_u31q x5 x6 x7 x8 x9)))],
    hp :=
      [(0,
          Blk.box
            [AV.str x11, AV.str x12, AV.str x13, AV.int IntKind.i64 x14, AV.int IntKind.i64 x15, AV.int IntKind.i64 x16, AV.int IntKind.i64 x17, AV.view 2 x18, AV.bool x19,
              AV.int IntKind.i64 x20, AV.int IntKind.i64 x21, AV.bool x22, AV.view 2 x23, AV.bool x24, AV.int IntKind.i64 x25, AV.int IntKind.i64 x26, AV.bool x27, AV.view 10 x28,
              AV.view 6 x29]
            false)],
    nx := 1, k := 0 })
noncomputable def x_u35q_2 (x0 : List AV) (x1 : Bool) (x2 : Int) (x3 : Int) (x4 : Bool) (x5 : List AV) (x6 : Bool) (x7 : Int) (x8 : Int) (x9 : Bool) (x10 : Int) (x11 : List UInt8) (x12 : List UInt8) (x13 : List UInt8) (x14 : Int) (x15 : Int) (x16 : Int) (x17 : Int) (x18 : List AV) (x19 : Bool) (x20 : Int) (x21 : Int) (x22 : Bool) (x23 : List AV) (x24 : Bool) (x25 : Int) (x26 : Int) (x27 : Bool) (x28 : List AV) (x29 : List AV) : X × St := (X.exit 0,
  { tm := [(3, AV.ref 0 0 0), (6, AV.junk)],
    hp :=
      [(0,
          Blk.box
            [AV.str x11, AV.str x12, AV.str x13, AV.int IntKind.i64 x14, AV.int IntKind.i64 x15, AV.int IntKind.i64 x16, AV.int IntKind.i64 x17, AV.view 2 x18, AV.bool x19,
              AV.int IntKind.i64 x20, AV.int IntKind.i64 x21, AV.bool x22, AV.view 2 x23, AV.bool x24, AV.int IntKind.i64 x25, AV.int IntKind.i64 x26, AV.bool x27, AV.view 10 x28,
              AV.view 6 x29]
            false)],
    nx := 1, k := 0 })
noncomputable def x_u35q : List (TT_u35q → X × St) := [fun w => x_u35q_0 w.1 w.2.1 w.2.2.1 w.2.2.2.1 w.2.2.2.2.1 w.2.2.2.2.2.1 w.2.2.2.2.2.2.1 w.2.2.2.2.2.2.2.1 w.2.2.2.2.2.2.2.2.1 w.2.2.2.2.2.2.2.2.2.1 w.2.2.2.2.2.2.2.2.2.2.1 w.2.2.2.2.2.2.2.2.2.2.2.1 w.2.2.2.2.2.2.2.2.2.2.2.2.1 w.2.2.2.2.2.2.2.2.2.2.2.2.2.1 w.2.2.2.2.2.2.2.2.2.2.2.2.2.2.1 w.2.2.2.2.2.2.2.2.2.2.2.2.2.2.2.1 w.2.2.2.2.2.2.2.2.2.2.2.2.2.2.2.2.1 w.2.2.2.2.2.2.2.2.2.2.2.2.2.2.2.2.2.1 w.2.2.2.2.2.2.2.2.2.2.2.2.2.2.2.2.2.2.1 w.2.2.2.2.2.2.2.2.2.2.2.2.2.2.2.2.2.2.2.1 w.2.2.2.2.2.2.2.2.2.2.2.2.2.2.2.2.2.2.2.2.1 w.2.2.2.2.2.2.2.2.2.2.2.2.2.2.2.2.2.2.2.2.2.1 w.2.2.2.2.2.2.2.2.2.2.2.2.2.2.2.2.2.2.2.2.2.2.1 w.2.2.2.2.2.2.2.2.2.2.2.2.2.2.2.2.2.2.2.2.2.2.2.1 w.2.2.2.2.2.2.2.2.2.2.2.2.2.2.2.2.2.2.2.2.2.2.2.2.1 w.2.2.2.2.2.2.2.2.2.2.2.2.2.2.2.2.2.2.2.2.2.2.2.2.2.1 w.2.2.2.2.2.2.2.2.2.2.2.2.2.2.2.2.2.2.2.2.2.2.2.2.2.2.1 w.2.2.2.2.2.2.2.2.2.2.2.2.2.2.2.2.2.2.2.2.2.2.2.2.2.2.2.1 w.2.2.2.2.2.2.2.2.2.2.2.2.2.2.2.2.2.2.2.2.2.2.2.2.2.2.2.2.1 w.2.2.2.2.2.2.2.2.2.2.2.2.2.2.2.2.2.2.2.2.2.2.2.2.2.2.2.2.2, fun w => x_u35q_1 w.1 w.2.1 w.2.2.1 w.2.2.2.1 w.2.2.2.2.1 w.2.2.2.2.2.1 w.2.2.2.2.2.2.1 w.2.2.2.2.2.2.2.1 w.2.2.2.2.2.2.2.2.1 w.2.2.2.2.2.2.2.2.2.1 w.2.2.2.2.2.2.2.2.2.2.1 w.2.2.2.2.2.2.2.2.2.2.2.1 w.2.2.2.2.2.2.2.2.2.2.2.2.1 w.2.2.2.2.2.2.2.2.2.2.2.2.2.1 w.2.2.2.2.2.2.2.2.2.2.2.2.2.2.1 w.2.2.2.2.2.2.2.2.2.2.2.2.2.2.2.1 w.2.2.2.2.2.2.2.2.2.2.2.2.2.2.2.2.1 w.2.2.2.2.2.2.2.2.2.2.2.2.2.2.2.2.2.1 w.2.2.2.2.2.2.2.2.2.2.2.2.2.2.2.2.2.2.1 w.2.2.2.2.2.2.2.2.2.2.2.2.2.2.2.2.2.2.2.1 w.2.2.2.2.2.2.2.2.2.2.2.2.2.2.2.2.2.2.2.2.1 w.2.2.2.2.2.2.2.2.2.2.2.2.2.2.2.2.2.2.2.2.2.1 w.2.2.2.2.2.2.2.2.2.2.2.2.2.2.2.2.2.2.2.2.2.2.1 w.2.2.2.2.2.2.2.2.2.2.2.2.2.2.2.2.2.2.2.2.2.2.2.1 w.2.2.2.2.2.2.2.2.2.2.2.2.2.2.2.2.2.2.2.2.2.2.2.2.1 w.2.2.2.2.2.2.2.2.2.2.2.2.2.2.2.2.2.2.2.2.2.2.2.2.2.1 w.2.2.2.2.2.2.2.2.2.2.2.2.2.2.2.2.2.2.2.2.2.2.2.2.2.2.1 w.2.2.2.2.2.2.2.2.2.2.2.2.2.2.2.2.2.2.2.2.2.2.2.2.2.2.2.1 w.2.2.2.2.2.2.2.2.2.2.2.2.2.2.2.2.2.2.2.2.2.2.2.2.2.2.2.2.1 w.2.2.2.2.2.2.2.2.2.2.2.2.2.2.2.2.2.2.2.2.2.2.2.2.2.2.2.2.2, fun w => x_u35q_2 w.1 w.2.1 w.2.2.1 w.2.2.2.1 w.2.2.2.2.1 w.2.2.2.2.2.1 w.2.2.2.2.2.2.1 w.2.2.2.2.2.2.2.1 w.2.2.2.2.2.2.2.2.1 w.2.2.2.2.2.2.2.2.2.1 w.2.2.2.2.2.2.2.2.2.2.1 w.2.2.2.2.2.2.2.2.2.2.2.1 w.2.2.2.2.2.2.2.2.2.2.2.2.1 w.2.2.2.2.2.2.2.2.2.2.2.2.2.1 w.2.2.2.2.2.2.2.2.2.2.2.2.2.2.1 w.2.2.2.2.2.2.2.2.2.2.2.2.2.2.2.1 w.2.2.2.2.2.2.2.2.2.2.2.2.2.2.2.2.1 w.2.2.2.2.2.2.2.2.2.2.2.2.2.2.2.2.2.1 w.2.2.2.2.2.2.2.2.2.2.2.2.2.2.2.2.2.2.1 w.2.2.2.2.2.2.2.2.2.2.2.2.2.2.2.2.2.2.2.1 w.2.2.2.2.2.2.2.2.2.2.2.2.2.2.2.2.2.2.2.2.1 w.2.2.2.2.2.2.2.2.2.2.2.2.2.2.2.2.2.2.2.2.2.1 w.2.2.2.2.2.2.2.2.2.2.2.2.2.2.2.2.2.2.2.2.2.2.1 w.2.2.2.2.2.2.2.2.2.2.2.2.2.2.2.2.2.2.2.2.2.2.2.1 w.2.2.2.2.2.2.2.2.2.2.2.2.2.2.2.2.2.2.2.2.2.2.2.2.1 w.2.2.2.2.2.2.2.2.2.2.2.2.2.2.2.2.2.2.2.2.2.2.2.2.2.1 w.2.2.2.2.2.2.2.2.2.2.2.2.2.2.2.2.2.2.2.2.2.2.2.2.2.2.1 w.2.2.2.2.2.2.2.2.2.2.2.2.2.2.2.2.2.2.2.2.2.2.2.2.2.2.2.1 w.2.2.2.2.2.2.2.2.2.2.2.2.2.2.2.2.2.2.2.2.2.2.2.2.2.2.2.2.1 w.2.2.2.2.2.2.2.2.2.2.2.2.2.2.2.2.2.2.2.2.2.2.2.2.2.2.2.2.2]
noncomputable def st_u35q_0 (x0 : List AV) (x1 : Bool) (x2 : Int) (x3 : Int) (x4 : Bool) (x5 : List AV) (x6 : Bool) (x7 : Int) (x8 : Int) (x9 : Bool) (x10 : Int) (x11 : List UInt8) (x12 : List UInt8) (x13 : List UInt8) (x14 : Int) (x15 : Int) (x16 : Int) (x17 : Int) (x18 : List AV) (x19 : Bool) (x20 : Int) (x21 : Int) (x22 : Bool) (x23 : List AV) (x24 : Bool) (x25 : Int) (x26 : Int) (x27 : Bool) (x28 : List AV) (x29 : List AV) : DT (Rd TT_u35q) :=
 .br (decide (x10 < 2))
  (.br (decide (x10 = Int.ofNat 0))
   (.bi (f_u31q x0 x1 x2 x3 x4) (fun y0 =>
    .br (y0 != 0)
     (.at (.done 0))
     (.at (.next ((x0, x1, x2, x3, x4, x5, x6, x7, x8, x9, IntKind.i64.wrap (x10 + 1), x11, x12, x13, x14, x15, x16, x17, x18, x19, x20, x21, x22, x23, x24, x25, x26, x27, x28, x29)))))
    (.no))
   (.br (decide (x10 = Int.ofNat 1))
    (.bi (f_u31q x5 x6 x7 x8 x9) (fun y0 =>
     .br (y0 != 0)
      (.at (.done 1))
      (.at (.next ((x0, x1, x2, x3, x4, x5, x6, x7, x8, x9, IntKind.i64.wrap (x10 + 1), x11, x12, x13, x14, x15, x16, x17, x18, x19, x20, x21, x22, x23, x24, x25, x26, x27, x28, x29)))))
     (.no))
    (.no)))
  (.at (.done 2))
noncomputable def st_u35q : TT_u35q → DT (Rd TT_u35q) := (fun v => st_u35q_0 v.1 v.2.1 v.2.2.1 v.2.2.2.1 v.2.2.2.2.1 v.2.2.2.2.2.1 v.2.2.2.2.2.2.1 v.2.2.2.2.2.2.2.1 v.2.2.2.2.2.2.2.2.1 v.2.2.2.2.2.2.2.2.2.1 v.2.2.2.2.2.2.2.2.2.2.1 v.2.2.2.2.2.2.2.2.2.2.2.1 v.2.2.2.2.2.2.2.2.2.2.2.2.1 v.2.2.2.2.2.2.2.2.2.2.2.2.2.1 v.2.2.2.2.2.2.2.2.2.2.2.2.2.2.1 v.2.2.2.2.2.2.2.2.2.2.2.2.2.2.2.1 v.2.2.2.2.2.2.2.2.2.2.2.2.2.2.2.2.1 v.2.2.2.2.2.2.2.2.2.2.2.2.2.2.2.2.2.1 v.2.2.2.2.2.2.2.2.2.2.2.2.2.2.2.2.2.2.1 v.2.2.2.2.2.2.2.2.2.2.2.2.2.2.2.2.2.2.2.1 v.2.2.2.2.2.2.2.2.2.2.2.2.2.2.2.2.2.2.2.2.1 v.2.2.2.2.2.2.2.2.2.2.2.2.2.2.2.2.2.2.2.2.2.1 v.2.2.2.2.2.2.2.2.2.2.2.2.2.2.2.2.2.2.2.2.2.2.1 v.2.2.2.2.2.2.2.2.2.2.2.2.2.2.2.2.2.2.2.2.2.2.2.1 v.2.2.2.2.2.2.2.2.2.2.2.2.2.2.2.2.2.2.2.2.2.2.2.2.1 v.2.2.2.2.2.2.2.2.2.2.2.2.2.2.2.2.2.2.2.2.2.2.2.2.2.1 v.2.2.2.2.2.2.2.2.2.2.2.2.2.2.2.2.2.2.2.2.2.2.2.2.2.2.1 v.2.2.2.2.2.2.2.2.2.2.2.2.2.2.2.2.2.2.2.2.2.2.2.2.2.2.2.1 v.2.2.2.2.2.2.2.2.2.2.2.2.2.2.2.2.2.2.2.2.2.2.2.2.2.2.2.2.1 v.2.2.2.2.2.2.2.2.2.2.2.2.2.2.2.2.2.2.2.2.2.2.2.2.2.2.2.2.2)
noncomputable def l_u35q (v : TT_u35q) : Option (Nat × TT_u35q) := lock (iterO (fun v => (st_u35q v).ev) v)
theorem l_u35q_eq (v : TT_u35q) : l_u35q v = iterO (fun v => (st_u35q v).ev) v := lock_eq _
noncomputable def ll_u35q : LEnt := LE (τ := TT_u35q) (hD hs_u35q) (l_u35q) x_u35q
theorem t_u35q : Go.Eng.Told IP (loopAt F12 0).1 (loopAt F12 0).2 (ll_u35q) := loop_LE (inferInstance : Inhabited TT_u35q) (hs := hs_u35q) (st := st_u35q) (L := []) T14_ok (LOk_of (l := []) (by kernel_rfl) trivial) (l_u35q_eq) (fun v => by kernel_rfl) (fun v => by kernel_rfl)
abbrev B_u97q : Type := Int
def p_u97q : PArgs := ⟨[.agg [.int .i64, .int .i64, .str, .view 4]], []⟩
def r_u97q : List PRes := [⟨false, .int .i64, []⟩]
abbrev GT_u97q : Type := Int → Int → (List UInt8) → (List AV) → Option B_u97q
def GH_u97q (G_u97q : GT_u97q) : Prop := FH IP 84 p_u97q r_u97q (fun (v : Int × Int × List UInt8 × List AV) => (G_u97q v.1 v.2.1 v.2.2.1 v.2.2.2 : Option B_u97q))
noncomputable def TG_u97q (G_u97q : GT_u97q) : Tab := (84, FE p_u97q r_u97q (fun (v : Int × Int × List UInt8 × List AV) => (G_u97q v.1 v.2.1 v.2.2.1 v.2.2.2 : Option B_u97q))) :: T14
theorem TG_u97q_ok (G_u97q : GT_u97q) (hG : GH_u97q G_u97q) : TabOk IP (TG_u97q G_u97q) := ⟨FE_ok (hG), T14_ok⟩
end Go.Proofs.H15v

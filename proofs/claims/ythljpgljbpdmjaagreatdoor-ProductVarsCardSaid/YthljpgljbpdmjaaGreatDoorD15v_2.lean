/- Functions over plain data. Printed by a program of mine. -/
import Derived.Test.YthljpgljbpdmjaaGreatDoorD15v_1
import Derived.KernelRfl
set_option linter.unusedVariables false
set_option linter.unusedSimpArgs false
set_option linter.unnecessarySimpa false
namespace Go.Proofs.H15v
open Go Go.Eng
set_option maxRecDepth 100000
abbrev TT_u66q : Type := Int × List AV × Int × Int
def hs_u66q : List PSt := [⟨[(1008400, .junk), (3, .int .i64), (7, .view 4), (8, .int .i64), (9, .int .i64)], [], 0, 0⟩]
noncomputable def x_u66q_0 (x0 : Int) (x1 : List AV) (x2 : Int) (x3 : Int) : X × St := (X.exit 0, { tm := [(3, AV.int IntKind.i64 x0)], hp := [], nx := 0, k := 0 })
noncomputable def x_u66q : List (TT_u66q → X × St) := [fun w => x_u66q_0 w.1 w.2.1 w.2.2.1 w.2.2.2]
noncomputable def st_u66q_0 (G_u97q : GT_u97q) (x0 : Int) (x1 : List AV) (x2 : Int) (x3 : Int) : DT (Rd TT_u66q) :=
 .br (decide (x3 < x2))
  (.br (okAt [CS.int IntKind.i64, CS.int IntKind.i64, CS.str, CS.slice 4] x1 x3)
   (.bi (G_u97q (intOf (cellAt x1 x3 0)) (intOf (cellAt x1 x3 1)) (strOf (cellAt x1 x3 2)) (viewOf (cellAt x1 x3 3))) (fun y0 =>
    .at (.next ((IntKind.i64.wrap (x0 + y0), x1, x2, IntKind.i64.wrap (x3 + 1)))))
    (.no))
   (.no))
  (.at (.done 0))
noncomputable def st_u66q (G_u97q : GT_u97q) : TT_u66q → DT (Rd TT_u66q) := (fun v => st_u66q_0 G_u97q v.1 v.2.1 v.2.2.1 v.2.2.2)
noncomputable def l_u66q (G_u97q : GT_u97q) (v : TT_u66q) : Option (Nat × TT_u66q) := lock (iterO (fun v => (st_u66q G_u97q v).ev) v)
theorem l_u66q_eq (G_u97q : GT_u97q) (v : TT_u66q) : l_u66q G_u97q v = iterO (fun v => (st_u66q G_u97q v).ev) v := lock_eq _
noncomputable def ll_u66q (G_u97q : GT_u97q) : LEnt := LE (τ := TT_u66q) (hD hs_u66q) (l_u66q G_u97q) x_u66q
theorem t_u66q (G_u97q : GT_u97q) (hG : GH_u97q G_u97q) : Go.Eng.Told IP (loopAt F84 0).1 (loopAt F84 0).2 (ll_u66q G_u97q) := loop_LE (inferInstance : Inhabited TT_u66q) (hs := hs_u66q) (st := st_u66q G_u97q) (L := []) (TG_u97q_ok G_u97q hG) (LOk_of (l := []) (by kernel_rfl) trivial) (l_u66q_eq G_u97q) (fun v => by kernel_rfl) (fun v => by kernel_rfl)
noncomputable def tr_u97q (G_u97q : GT_u97q) (x0 : Int) (x1 : Int) (x2 : List UInt8) (x3 : List AV) : DT B_u97q :=
 .bi (pj 0 (l_u66q G_u97q (1, x3, (↑x3.length : Int), 0))) (fun y0 =>
  .at (y0.fst))
  (.no)
noncomputable def N_u97q : Nat → GT_u97q
  | 0 => fun _ _ _ _ => none
  | n + 1 => fun x0 x1 x2 x3 => (tr_u97q ((N_u97q n)) x0 x1 x2 x3).ev
noncomputable def f_u97q (x0 : Int) (x1 : Int) (x2 : List UInt8) (x3 : List AV) : Option B_u97q := limO fun n => (N_u97q n) x0 x1 x2 x3
theorem N_u97q_ok : ∀ n, GH_u97q ((N_u97q n))
  | 0 => (fun v y h => nomatch h)
  | n + 1 => have hG := N_u97q_ok n
    fun_FH (F := F84) (L := [(1008400, ll_u66q ((N_u97q n)))]) (t := fun (v : Int × Int × List UInt8 × List AV) => tr_u97q ((N_u97q n)) v.1 v.2.1 v.2.2.1 v.2.2.2) (TG_u97q_ok ((N_u97q n)) hG) (LOk_of (l := [loopAt F84 0]) (by kernel_rfl) ⟨sel_one (by kernel_rfl) (t_u66q ((N_u97q n)) hG), trivial⟩) (by kernel_rfl) (fun v => by kernel_rfl) (fun v => rfl)
theorem c_u97q : FH IP 84 p_u97q r_u97q (fun (v : Int × Int × List UInt8 × List AV) => (f_u97q v.1 v.2.1 v.2.2.1 v.2.2.2 : Option B_u97q)) := lim_FH (p := p_u97q) (rs := r_u97q) (s := fun n (v : Int × Int × List UInt8 × List AV) => (N_u97q n) v.1 v.2.1 v.2.2.1 v.2.2.2) fun n => (N_u97q_ok n)
noncomputable def T15 : Tab := (84, FE p_u97q r_u97q (fun (v : Int × Int × List UInt8 × List AV) => (f_u97q v.1 v.2.1 v.2.2.1 v.2.2.2 : Option B_u97q))) :: T14
theorem T15_ok : TabOk IP T15 := ⟨FE_ok c_u97q, T14_ok⟩
abbrev B_u98q : Type := Int
def p_u98q : PArgs := ⟨[.agg [.int .i64, .int .i64, .str, .view 4]], []⟩
def r_u98q : List PRes := [⟨false, .int .i64, []⟩]
abbrev GT_u98q : Type := Int → Int → (List UInt8) → (List AV) → Option B_u98q
def GH_u98q (G_u98q : GT_u98q) : Prop := FH IP 85 p_u98q r_u98q (fun (v : Int × Int × List UInt8 × List AV) => (G_u98q v.1 v.2.1 v.2.2.1 v.2.2.2 : Option B_u98q))
noncomputable def TG_u98q (G_u98q : GT_u98q) : Tab := (85, FE p_u98q r_u98q (fun (v : Int × Int × List UInt8 × List AV) => (G_u98q v.1 v.2.1 v.2.2.1 v.2.2.2 : Option B_u98q))) :: T15
theorem TG_u98q_ok (G_u98q : GT_u98q) (hG : GH_u98q G_u98q) : TabOk IP (TG_u98q G_u98q) := ⟨FE_ok (hG), T15_ok⟩
abbrev TT_u67q : Type := Int × List AV × Int × Int
def hs_u67q : List PSt := [⟨[(1008500, .junk), (3, .int .i64), (7, .view 4), (8, .int .i64), (9, .int .i64)], [], 0, 0⟩]
noncomputable def x_u67q_0 (x0 : Int) (x1 : List AV) (x2 : Int) (x3 : Int) : X × St := (X.exit 0, { tm := [(3, AV.int IntKind.i64 x0)], hp := [], nx := 0, k := 0 })
noncomputable def x_u67q : List (TT_u67q → X × St) := [fun w => x_u67q_0 w.1 w.2.1 w.2.2.1 w.2.2.2]
noncomputable def st_u67q_0 (G_u98q : GT_u98q) (x0 : Int) (x1 : List AV) (x2 : Int) (x3 : Int) : DT (Rd TT_u67q) :=
 .br (decide (x3 < x2))
  (.br (okAt [CS.int IntKind.i64, CS.int IntKind.i64, CS.str, CS.slice 4] x1 x3)
   (.bi (G_u98q (intOf (cellAt x1 x3 0)) (intOf (cellAt x1 x3 1)) (strOf (cellAt x1 x3 2)) (viewOf (cellAt x1 x3 3))) (fun y0 =>
    .at (.next ((if y0 > x0 then y0 else x0, x1, x2, IntKind.i64.wrap (x3 + 1)))))
    (.no))
   (.no))
  (.at (.done 0))
noncomputable def st_u67q (G_u98q : GT_u98q) : TT_u67q → DT (Rd TT_u67q) := (fun v => st_u67q_0 G_u98q v.1 v.2.1 v.2.2.1 v.2.2.2)
noncomputable def l_u67q (G_u98q : GT_u98q) (v : TT_u67q) : Option (Nat × TT_u67q) := lock (iterO (fun v => (st_u67q G_u98q v).ev) v)
theorem l_u67q_eq (G_u98q : GT_u98q) (v : TT_u67q) : l_u67q G_u98q v = iterO (fun v => (st_u67q G_u98q v).ev) v := lock_eq _
noncomputable def ll_u67q (G_u98q : GT_u98q) : LEnt := LE (τ := TT_u67q) (hD hs_u67q) (l_u67q G_u98q) x_u67q
theorem t_u67q (G_u98q : GT_u98q) (hG : GH_u98q G_u98q) : Go.Eng.Told IP (loopAt F85 0).1 (loopAt F85 0).2 (ll_u67q G_u98q) := loop_LE (inferInstance : Inhabited TT_u67q) (hs := hs_u67q) (st := st_u67q G_u98q) (L := []) (TG_u98q_ok G_u98q hG) (LOk_of (l := []) (by kernel_rfl) trivial) (l_u67q_eq G_u98q) (fun v => by kernel_rfl) (fun v => by kernel_rfl)
noncomputable def tr_u98q (G_u98q : GT_u98q) (x0 : Int) (x1 : Int) (x2 : List UInt8) (x3 : List AV) : DT B_u98q :=
 .bi (pj 0 (l_u67q G_u98q (0, x3, (↑x3.length : Int), 0))) (fun y0 =>
  .at (IntKind.i64.wrap (y0.fst + 1)))
  (.no)
noncomputable def N_u98q : Nat → GT_u98q
  | 0 => fun _ _ _ _ => none
  | n + 1 => fun x0 x1 x2 x3 => (tr_u98q ((N_u98q n)) x0 x1 x2 x3).ev
noncomputable def f_u98q (x0 : Int) (x1 : Int) (x2 : List UInt8) (x3 : List AV) : Option B_u98q := limO fun n => (N_u98q n) x0 x1 x2 x3
theorem N_u98q_ok : ∀ n, GH_u98q ((N_u98q n))
  | 0 => (fun v y h => nomatch h)
  | n + 1 => have hG := N_u98q_ok n
    fun_FH (F := F85) (L := [(1008500, ll_u67q ((N_u98q n)))]) (t := fun (v : Int × Int × List UInt8 × List AV) => tr_u98q ((N_u98q n)) v.1 v.2.1 v.2.2.1 v.2.2.2) (TG_u98q_ok ((N_u98q n)) hG) (LOk_of (l := [loopAt F85 0]) (by kernel_rfl) ⟨sel_one (by kernel_rfl) (t_u67q ((N_u98q n)) hG), trivial⟩) (by kernel_rfl) (fun v => by kernel_rfl) (fun v => rfl)
theorem c_u98q : FH IP 85 p_u98q r_u98q (fun (v : Int × Int × List UInt8 × List AV) => (f_u98q v.1 v.2.1 v.2.2.1 v.2.2.2 : Option B_u98q)) := lim_FH (p := p_u98q) (rs := r_u98q) (s := fun n (v : Int × Int × List UInt8 × List AV) => (N_u98q n) v.1 v.2.1 v.2.2.1 v.2.2.2) fun n => (N_u98q_ok n)
noncomputable def T16 : Tab := (85, FE p_u98q r_u98q (fun (v : Int × Int × List UInt8 × List AV) => (f_u98q v.1 v.2.1 v.2.2.1 v.2.2.2 : Option B_u98q))) :: T15
theorem T16_ok : TabOk IP T16 := ⟨FE_ok c_u98q, T15_ok⟩
abbrev B_u58q : Type := Int
def p_u58q : PArgs := ⟨[.int .i64], []⟩
def r_u58q : List PRes := [⟨false, .int .i64, []⟩]
noncomputable def tr_u58q (x0 : Int) : DT B_u58q :=
 .br (x0 == 1)
  (.br (x0 == 1)
   (.at (0))
   (.br (x0 == 9)
    (.br (x0 == 9)
     (.at (1))
     (.br (x0 == 19)
      (.at (3))
      (.bi (br (decide (x0 ≥ 5)) (some (decide (x0 ≤ 18))) (some false)) (fun y0 =>
       .br (y0) (.at (2)) (.at (-1)))
       (.no))))
    (.br (x0 == 16)
     (.at (1))
     (.br (x0 == 19)
      (.at (3))
      (.bi (br (decide (x0 ≥ 5)) (some (decide (x0 ≤ 18))) (some false)) (fun y0 =>
       .br (y0) (.at (2)) (.at (-1)))
       (.no))))))
  (.br (x0 == 2)
   (.br (x0 == 2)
    (.at (0))
    (.br (x0 == 9)
     (.br (x0 == 9)
      (.at (1))
      (.br (x0 == 19)
       (.at (3))
       (.bi (br (decide (x0 ≥ 5)) (some (decide (x0 ≤ 18))) (some false)) (fun y0 =>
        .br (y0) (.at (2)) (.at (-1)))
        (.no))))
     (.br (x0 == 16)
      (.at (1))
      (.br (x0 == 19)
       (.at (3))
       (.bi (br (decide (x0 ≥ 5)) (some (decide (x0 ≤ 18))) (some false)) (fun y0 =>
        .br (y0) (.at (2)) (.at (-1)))
        (.no))))))
   (.br (x0 == 3)
    (.br (x0 == 3)
     (.at (0))
     (.br (x0 == 9)
      (.br (x0 == 9)
       (.at (1))
       (.br (x0 == 19)
        (.at (3))
        (.bi (br (decide (x0 ≥ 5)) (some (decide (x0 ≤ 18))) (some false)) (fun y0 =>
         .br (y0) (.at (2)) (.at (-1)))
         (.no))))
      (.br (x0 == 16)
       (.at (1))
       (.br (x0 == 19)
        (.at (3))
        (.bi (br (decide (x0 ≥ 5)) (some (decide (x0 ≤ 18))) (some false)) (fun y0 =>
         .br (y0) (.at (2)) (.at (-1)))
         (.no))))))
    (.br (x0 == 4)
     (.at (0))
     (.br (x0 == 9)
      (.br (x0 == 9)
       (.at (1))
       (.br (x0 == 19)
        (.at (3))
        (.bi (br (decide (x0 ≥ 5)) (some (decide (x0 ≤ 18))) (some false)) (fun y0 =>
         .br (y0) (.at (2)) (.at (-1)))
         (.no))))
      (.br (x0 == 16)
       (.at (1))
       (.br (x0 == 19)
        (.at (3))
        (.bi (br (decide (x0 ≥ 5)) (some (decide (x0 ≤ 18))) (some false)) (fun y0 =>
         .br (y0) (.at (2)) (.at (-1)))
         (.no))))))))
noncomputable def f_u58q (x0 : Int) : Option B_u58q := lock (tr_u58q x0).ev
theorem f_u58q_eq (x0 : Int) : f_u58q x0 = (tr_u58q x0).ev := lock_eq _
theorem c_u58q : FH IP 110 p_u58q r_u58q (fun (v : Int) => (f_u58q v : Option B_u58q)) := fun_FH (F := F110) (L := []) (t := fun (v : Int) => tr_u58q v) T16_ok (LOk_of (l := []) (by kernel_rfl) trivial) (by kernel_rfl) (fun v => by kernel_rfl) (fun v => f_u58q_eq v)
noncomputable def T17 : Tab := (110, FE p_u58q r_u58q (fun (v : Int) => (f_u58q v : Option B_u58q))) :: T16
theorem T17_ok : TabOk IP T17 := ⟨FE_ok c_u58q, T16_ok⟩
abbrev B_u89q : Type := Bool
def p_u89q : PArgs := ⟨[.agg [.int .i64, .int .i64, .str, .view 4]], []⟩
def r_u89q : List PRes := [⟨false, .bool, []⟩]
noncomputable def tr_u89q (x0 : Int) (x1 : Int) (x2 : List UInt8) (x3 : List AV) : DT B_u89q :=
 .br (x0 == 1)
  (.bi (f_u58q x0) (fun y0 =>
   .br (y0 == (↑x3.length : Int))
    (.br (decide (x1 ≥ 0))
     (.br (decide (x1 ≤ 9223372036854775807))
      (.br (x2 == []) (.at (true)) (.at (x0 == 4)))
      (.at (false)))
     (.at (false)))
    (.at (false)))
   (.no))
  (.br (x0 == 2)
   (.bi (f_u58q x0) (fun y0 =>
    .br (y0 == (↑x3.length : Int))
     (.br (decide (x1 ≥ 0))
      (.br (decide (x1 ≤ 1000000000000))
       (.br (x2 == []) (.at (true)) (.at (x0 == 4)))
       (.at (false)))
      (.at (false)))
     (.at (false)))
    (.no))
   (.br (x0 == 3)
    (.bi (f_u58q x0) (fun y0 =>
     .br (y0 == (↑x3.length : Int))
      (.br (decide (x1 ≥ 0))
       (.br (decide (x1 ≤ 1000000))
        (.br (x2 == []) (.at (true)) (.at (x0 == 4)))
        (.at (false)))
       (.at (false)))
      (.at (false)))
     (.no))
    (.bi (f_u58q x0) (fun y0 =>
     .br (y0 == (↑x3.length : Int))
      (.br (decide (x1 ≥ 0))
       (.br (decide (x1 ≤ 0))
        (.br (x2 == []) (.at (true)) (.at (x0 == 4)))
        (.at (false)))
       (.at (false)))
      (.at (false)))
     (.no))))
noncomputable def f_u89q (x0 : Int) (x1 : Int) (x2 : List UInt8) (x3 : List AV) : Option B_u89q := lock (tr_u89q x0 x1 x2 x3).ev
theorem f_u89q_eq (x0 : Int) (x1 : Int) (x2 : List UInt8) (x3 : List AV) : f_u89q x0 x1 x2 x3 = (tr_u89q x0 x1 x2 x3).ev := lock_eq _
theorem c_u89q : FH IP 87 p_u89q r_u89q (fun (v : Int × Int × List UInt8 × List AV) => (f_u89q v.1 v.2.1 v.2.2.1 v.2.2.2 : Option B_u89q)) := fun_FH (F := F87) (L := []) (t := fun (v : Int × Int × List UInt8 × List AV) => tr_u89q v.1 v.2.1 v.2.2.1 v.2.2.2) T17_ok (LOk_of (l := []) (by kernel_rfl) trivial) (by kernel_rfl) (fun v => by kernel_rfl) (fun v => f_u89q_eq v.1 v.2.1 v.2.2.1 v.2.2.2)
noncomputable def T18 : Tab := (87, FE p_u89q r_u89q (fun (v : Int × Int × List UInt8 × List AV) => (f_u89q v.1 v.2.1 v.2.2.1 v.2.2.2 : Option B_u89q))) :: T17
theorem T18_ok : TabOk IP T18 := ⟨FE_ok c_u89q, T17_ok⟩
abbrev B_u99q : Type := Bool
def p_u99q : PArgs := ⟨[.agg [.int .i64, .int .i64, .str, .view 4], .fn (.func 87) []], []⟩
def r_u99q : List PRes := [⟨false, .bool, []⟩]
abbrev GT_u99q : Type := Int → Int → (List UInt8) → (List AV) → Option B_u99q
abbrev B_u9q : Type := Bool
def p_u9q : PArgs := ⟨[.view 4, .fn (.func 109) [.ptr [.fn (.func 87) []]]], []⟩
def r_u9q : List PRes := [⟨false, .bool, []⟩]
abbrev GT_u9q : Type := (List AV) → Option B_u9q
abbrev B_u13q : Type := Int
def p_u13q : PArgs := ⟨[.view 4, .fn (.func 109) [.ptr [.fn (.func 87) []]]], []⟩
def r_u13q : List PRes := [⟨false, .int .i64, []⟩]
abbrev GT_u13q : Type := (List AV) → Option B_u13q
abbrev B_u68q : Type := Bool
def p_u68q : PArgs := ⟨[.agg [.int .i64, .int .i64, .str, .view 4], .ptr [.fn (.func 87) []]], []⟩
def r_u68q : List PRes := [⟨false, .bool, []⟩]
abbrev GT_u68q : Type := Int → Int → (List UInt8) → (List AV) → Option B_u68q
def GH_u99q (G_u99q : GT_u99q) (G_u9q : GT_u9q) (G_u13q : GT_u13q) (G_u68q : GT_u68q) : Prop := FH IP 86 p_u99q r_u99q (fun (v : Int × Int × List UInt8 × List AV) => (G_u99q v.1 v.2.1 v.2.2.1 v.2.2.2 : Option B_u99q)) ∧ FH IP 108 p_u9q r_u9q (fun (v : List AV) => (G_u9q v : Option B_u9q)) ∧ FH IP 133 p_u13q r_u13q (fun (v : List AV) => (G_u13q v : Option B_u13q)) ∧ FH IP 109 p_u68q r_u68q (fun (v : Int × Int × List UInt8 × List AV) => (G_u68q v.1 v.2.1 v.2.2.1 v.2.2.2 : Option B_u68q))
noncomputable def TG_u99q (G_u99q : GT_u99q) (G_u9q : GT_u9q) (G_u13q : GT_u13q) (G_u68q : GT_u68q) : Tab := (86, FE p_u99q r_u99q (fun (v : Int × Int × List UInt8 × List AV) => (G_u99q v.1 v.2.1 v.2.2.1 v.2.2.2 : Option B_u99q))) :: (108, FE p_u9q r_u9q (fun (v : List AV) => (G_u9q v : Option B_u9q))) :: (133, FE p_u13q r_u13q (fun (v : List AV) => (G_u13q v : Option B_u13q))) :: (109, FE p_u68q r_u68q (fun (v : Int × Int × List UInt8 × List AV) => (G_u68q v.1 v.2.1 v.2.2.1 v.2.2.2 : Option B_u68q))) :: T18
theorem TG_u99q_ok (G_u99q : GT_u99q) (G_u9q : GT_u9q) (G_u13q : GT_u13q) (G_u68q : GT_u68q) (hG : GH_u99q G_u99q G_u9q G_u13q G_u68q) : TabOk IP (TG_u99q G_u99q G_u9q G_u13q G_u68q) := ⟨FE_ok (hG.1), FE_ok (hG.2.1), FE_ok (hG.2.2.1), FE_ok (hG.2.2.2), T18_ok⟩
abbrev TT_u11q : Type := List AV × Int × Int
def hs_u11q : List PSt := [⟨[(1013300, .junk), (0, .view 4), (1, .fn (.func 109) [.ptr [.fn (.func 87) []]]), (7, .int .i64), (8, .int .i64)], [], 0, 0⟩]
noncomputable def x_u11q_0 (x0 : List AV) (x1 : Int) (x2 : Int) : X × St := (X.ret, { tm := [(4, AV.int IntKind.i64 x2)], hp := [], nx := 0, k := 0 })
noncomputable def x_u11q_1 (x0 : List AV) (x1 : Int) (x2 : Int) : X × St := (X.exit 0, { tm := [(4, AV.junk)], hp := [], nx := 0, k := 0 })
noncomputable def x_u11q : List (TT_u11q → X × St) := [fun w => x_u11q_0 w.1 w.2.1 w.2.2, fun w => x_u11q_1 w.1 w.2.1 w.2.2]
noncomputable def st_u11q_0 (G_u99q : GT_u99q) (G_u9q : GT_u9q) (G_u13q : GT_u13q) (G_u68q : GT_u68q) (x0 : List AV) (x1 : Int) (x2 : Int) : DT (Rd TT_u11q) :=
 .br (decide (x2 < x1))
  (.br (okAt [CS.int IntKind.i64, CS.int IntKind.i64, CS.str, CS.slice 4] x0 x2)
   (.bi (G_u68q (intOf (cellAt x0 x2 0)) (intOf (cellAt x0 x2 1)) (strOf (cellAt x0 x2 2)) (viewOf (cellAt x0 x2 3))) (fun y0 =>
    .br (y0) (.at (.done 0)) (.at (.next ((x0, x1, IntKind.i64.wrap (x2 + 1))))))
    (.no))
   (.no))
  (.at (.done 1))
noncomputable def st_u11q (G_u99q : GT_u99q) (G_u9q : GT_u9q) (G_u13q : GT_u13q) (G_u68q : GT_u68q) : TT_u11q → DT (Rd TT_u11q) := (fun v => st_u11q_0 G_u99q G_u9q G_u13q G_u68q v.1 v.2.1 v.2.2)
noncomputable def l_u11q (G_u99q : GT_u99q) (G_u9q : GT_u9q) (G_u13q : GT_u13q) (G_u68q : GT_u68q) (v : TT_u11q) : Option (Nat × TT_u11q) := lock (iterO (fun v => (st_u11q G_u99q G_u9q G_u13q G_u68q v).ev) v)
theorem l_u11q_eq (G_u99q : GT_u99q) (G_u9q : GT_u9q) (G_u13q : GT_u13q) (G_u68q : GT_u68q) (v : TT_u11q) : l_u11q G_u99q G_u9q G_u13q G_u68q v = iterO (fun v => (st_u11q G_u99q G_u9q G_u13q G_u68q v).ev) v := lock_eq _
noncomputable def ll_u11q (G_u99q : GT_u99q) (G_u9q : GT_u9q) (G_u13q : GT_u13q) (G_u68q : GT_u68q) : LEnt := LE (τ := TT_u11q) (hD hs_u11q) (l_u11q G_u99q G_u9q G_u13q G_u68q) x_u11q
theorem t_u11q (G_u99q : GT_u99q) (G_u9q : GT_u9q) (G_u13q : GT_u13q) (G_u68q : GT_u68q) (hG : GH_u99q G_u99q G_u9q G_u13q G_u68q) : Go.Eng.Told IP (loopAt F133 0).1 (loopAt F133 0).2 (ll_u11q G_u99q G_u9q G_u13q G_u68q) := loop_LE (inferInstance : Inhabited TT_u11q) (hs := hs_u11q) (st := st_u11q G_u99q G_u9q G_u13q G_u68q) (L := []) (TG_u99q_ok G_u99q G_u9q G_u13q G_u68q hG) (LOk_of (l := []) (by kernel_rfl) trivial) (l_u11q_eq G_u99q G_u9q G_u13q G_u68q) (fun v => by kernel_rfl) (fun v => by kernel_rfl)
noncomputable def tr_u99q (G_u99q : GT_u99q) (G_u9q : GT_u9q) (G_u13q : GT_u13q) (G_u68q : GT_u68q) (x0 : Int) (x1 : Int) (x2 : List UInt8) (x3 : List AV) : DT B_u99q :=
 .bi (f_u89q x0 x1 x2 x3) (fun y0 =>
  .bi (br y0 (br (sm (G_u9q x3)) (some !gv (G_u9q x3)) none) (some false)) (fun y1 =>
   .at (y1))
   (.no))
  (.no)
noncomputable def tr_u9q (G_u99q : GT_u99q) (G_u9q : GT_u9q) (G_u13q : GT_u13q) (G_u68q : GT_u68q) (x0 : List AV) : DT B_u9q :=
 .bi (G_u13q x0) (fun y0 =>
  .at (decide (y0 ≥ 0)))
  (.no)
noncomputable def tr_u13q (G_u99q : GT_u99q) (G_u9q : GT_u9q) (G_u13q : GT_u13q) (G_u68q : GT_u68q) (x0 : List AV) : DT B_u13q :=
 .bi (pj 0
     (l_u11q G_u99q G_u9q G_u13q G_u68q (x0, (↑x0.length : Int), 0))) (fun y0 =>
  .at (y0.snd.snd))
  (.bi (pj 1
      (l_u11q G_u99q G_u9q G_u13q G_u68q (x0, (↑x0.length : Int), 0))) (fun y0 =>
   .at (-1))
   (.no))
noncomputable def tr_u68q (G_u99q : GT_u99q) (G_u9q : GT_u9q) (G_u13q : GT_u13q) (G_u68q : GT_u68q) (x0 : Int) (x1 : Int) (x2 : List UInt8) (x3 : List AV) : DT B_u68q :=
 .bi (G_u99q x0 x1 x2 x3) (fun y0 =>
  .at (!y0))
  (.no)
noncomputable def N_u99q : Nat → GT_u99q × GT_u9q × GT_u13q × GT_u68q
  | 0 => (fun _ _ _ _ => none, fun _ => none, fun _ => none, fun _ _ _ _ => none)
  | n + 1 => (fun x0 x1 x2 x3 => (tr_u99q ((N_u99q n).1) ((N_u99q n).2.1) ((N_u99q n).2.2.1) ((N_u99q n).2.2.2) x0 x1 x2 x3).ev, fun x0 => (tr_u9q ((N_u99q n).1) ((N_u99q n).2.1) ((N_u99q n).2.2.1) ((N_u99q n).2.2.2) x0).ev, fun x0 => (tr_u13q ((N_u99q n).1) ((N_u99q n).2.1) ((N_u99q n).2.2.1) ((N_u99q n).2.2.2) x0).ev, fun x0 x1 x2 x3 => (tr_u68q ((N_u99q n).1) ((N_u99q n).2.1) ((N_u99q n).2.2.1) ((N_u99q n).2.2.2) x0 x1 x2 x3).ev)
noncomputable def f_u99q (x0 : Int) (x1 : Int) (x2 : List UInt8) (x3 : List AV) : Option B_u99q := limO fun n => (N_u99q n).1 x0 x1 x2 x3
noncomputable def f_u9q (x0 : List AV) : Option B_u9q := limO fun n => (N_u99q n).2.1 x0
noncomputable def f_u13q (x0 : List AV) : Option B_u13q := limO fun n => (N_u99q n).2.2.1 x0
noncomputable def f_u68q (x0 : Int) (x1 : Int) (x2 : List UInt8) (x3 : List AV) : Option B_u68q := limO fun n => (N_u99q n).2.2.2 x0 x1 x2 x3
theorem N_u99q_ok : ∀ n, GH_u99q ((N_u99q n).1) ((N_u99q n).2.1) ((N_u99q n).2.2.1) ((N_u99q n).2.2.2)
  | 0 => ⟨(fun v y h => nomatch h), (fun v y h => nomatch h), (fun v y h => nomatch h), (fun v y h => nomatch h)⟩
  | n + 1 => have hG := N_u99q_ok n
    ⟨fun_FH (F := F86) (L := []) (t := fun (v : Int × Int × List UInt8 × List AV) => tr_u99q ((N_u99q n).1) ((N_u99q n).2.1) ((N_u99q n).2.2.1) ((N_u99q n).2.2.2) v.1 v.2.1 v.2.2.1 v.2.2.2) (TG_u99q_ok ((N_u99q n).1) ((N_u99q n).2.1) ((N_u99q n).2.2.1) ((N_u99q n).2.2.2) hG) (LOk_of (l := []) (by kernel_rfl) trivial) (by kernel_rfl) (fun v => by kernel_rfl) (fun v => rfl), fun_FH (F := F108) (L := []) (t := fun (v : List AV) => tr_u9q ((N_u99q n).1) ((N_u99q n).2.1) ((N_u99q n).2.2.1) ((N_u99q n).2.2.2) v) (TG_u99q_ok ((N_u99q n).1) ((N_u99q n).2.1) ((N_u99q n).2.2.1) ((N_u99q n).2.2.2) hG) (LOk_of (l := []) (by kernel_rfl) trivial) (by kernel_rfl) (fun v => by kernel_rfl) (fun v => rfl), fun_FH (F := F133) (L := [(1013300, ll_u11q ((N_u99q n).1) ((N_u99q n).2.1) ((N_u99q n).2.2.1) ((N_u99q n).2.2.2))]) (t := fun (v : List AV) => tr_u13q ((N_u99q n).1) ((N_u99q n).2.1) ((N_u99q n).2.2.1) ((N_u99q n).2.2.2) v) (TG_u99q_ok ((N_u99q n).1) ((N_u99q n).2.1) ((N_u99q n).2.2.1) ((N_u99q n).2.2.2) hG) (LOk_of (l := [loopAt F133 0]) (by kernel_rfl) ⟨sel_one (by kernel_rfl) (t_u11q ((N_u99q n).1) ((N_u99q n).2.1) ((N_u99q n).2.2.1) ((N_u99q n).2.2.2) hG), trivial⟩) (by kernel_rfl) (fun v => by kernel_rfl) (fun v => rfl), fun_FH (F := F109) (L := []) (t := fun (v : Int × Int × List UInt8 × List AV) => tr_u68q ((N_u99q n).1) ((N_u99q n).2.1) ((N_u99q n).2.2.1) ((N_u99q n).2.2.2) v.1 v.2.1 v.2.2.1 v.2.2.2) (TG_u99q_ok ((N_u99q n).1) ((N_u99q n).2.1) ((N_u99q n).2.2.1) ((N_u99q n).2.2.2) hG) (LOk_of (l := []) (by kernel_rfl) trivial) (by kernel_rfl) (fun v => by kernel_rfl) (fun v => rfl)⟩
theorem c_u99q : FH IP 86 p_u99q r_u99q (fun (v : Int × Int × List UInt8 × List AV) => (f_u99q v.1 v.2.1 v.2.2.1 v.2.2.2 : Option B_u99q)) := lim_FH (p := p_u99q) (rs := r_u99q) (s := fun n (v : Int × Int × List UInt8 × List AV) => (N_u99q n).1 v.1 v.2.1 v.2.2.1 v.2.2.2) fun n => (N_u99q_ok n).1
theorem c_u9q : FH IP 108 p_u9q r_u9q (fun (v : List AV) => (f_u9q v : Option B_u9q)) := lim_FH (p := p_u9q) (rs := r_u9q) (s := fun n (v : List AV) => (N_u99q n).2.1 v) fun n => (N_u99q_ok n).2.1
theorem c_u13q : FH IP 133 p_u13q r_u13q (fun (v : List AV) => (f_u13q v : Option B_u13q)) := lim_FH (p := p_u13q) (rs := r_u13q) (s := fun n (v : List AV) => (N_u99q n).2.2.1 v) fun n => (N_u99q_ok n).2.2.1
theorem c_u68q : FH IP 109 p_u68q r_u68q (fun (v : Int × Int × List UInt8 × List AV) => (f_u68q v.1 v.2.1 v.2.2.1 v.2.2.2 : Option B_u68q)) := lim_FH (p := p_u68q) (rs := r_u68q) (s := fun n (v : Int × Int × List UInt8 × List AV) => (N_u99q n).2.2.2 v.1 v.2.1 v.2.2.1 v.2.2.2) fun n => (N_u99q_ok n).2.2.2
noncomputable def T19 : Tab := (86, FE p_u99q r_u99q (fun (v : Int × Int × List UInt8 × List AV) => (f_u99q v.1 v.2.1 v.2.2.1 v.2.2.2 : Option B_u99q))) :: T18
theorem T19_ok : TabOk IP T19 := ⟨FE_ok c_u99q, T18_ok⟩
noncomputable def T20 : Tab := (108, FE p_u9q r_u9q (fun (v : List AV) => (f_u9q v : Option B_u9q))) :: T19
theorem T20_ok : TabOk IP T20 := ⟨FE_ok c_u9q, T19_ok⟩
noncomputable def T21 : Tab := (133, FE p_u13q r_u13q (fun (v : List AV) => (f_u13q v : Option B_u13q))) :: T20
theorem T21_ok : TabOk IP T21 := ⟨FE_ok c_u13q, T20_ok⟩
noncomputable def T22 : Tab := (109, FE p_u68q r_u68q (fun (v : Int × Int × List UInt8 × List AV) => (f_u68q v.1 v.2.1 v.2.2.1 v.2.2.2 : Option B_u68q))) :: T21
theorem T22_ok : TabOk IP T22 := ⟨FE_ok c_u68q, T21_ok⟩
abbrev B_u52q : Type := Bool
def p_u52q : PArgs := ⟨[.int .i32], []⟩
def r_u52q : List PRes := [⟨false, .bool, []⟩]
noncomputable def tr_u52q (x0 : Int) : DT B_u52q :=
 .at (x0 != 10)
noncomputable def f_u52q (x0 : Int) : Option B_u52q := lock (tr_u52q x0).ev
theorem f_u52q_eq (x0 : Int) : f_u52q x0 = (tr_u52q x0).ev := lock_eq _
theorem c_u52q : FH IP 165 p_u52q r_u52q (fun (v : Int) => (f_u52q v : Option B_u52q)) := fun_FH (F := F165) (L := []) (t := fun (v : Int) => tr_u52q v) T22_ok (LOk_of (l := []) (by kernel_rfl) trivial) (by kernel_rfl) (fun v => by kernel_rfl) (fun v => f_u52q_eq v)
noncomputable def T23 : Tab := (165, FE p_u52q r_u52q (fun (v : Int) => (f_u52q v : Option B_u52q))) :: T22
theorem T23_ok : TabOk IP T23 := ⟨FE_ok c_u52q, T22_ok⟩
abbrev TT_u54q : Type := List UInt8 × Int
def hs_u54q : List PSt := [⟨[(1016400, .junk), (0, .str), (1, .fn (.func 165) []), (5, .int .i64)], [], 0, 0⟩]
noncomputable def x_u54q_0 (x0 : List UInt8) (x1 : Int) : X × St := (X.exit 0, { tm := [(0, AV.str x0), (5, AV.int IntKind.i64 x1)], hp := [], nx := 0, k := 0 })
noncomputable def x_u54q : List (TT_u54q → X × St) := [fun w => x_u54q_0 w.1 w.2]
noncomputable def st_u54q_0 (x0 : List UInt8) (x1 : Int) : DT (Rd TT_u54q) :=
 .bi (br (decide (x1 < (↑x0.length : Int)))
     (br (inB x0.length x1) (br (sm (f_u52q (IntKind.i32.wrap (byteAt x0 x1)))) (some (gv (f_u52q (IntKind.i32.wrap (byteAt x0 x1))))) none) none) (some false)) (fun y0 =>
  .br (y0) (.at (.next ((x0, IntKind.i64.wrap (x1 + 1))))) (.at (.done 0)))
  (.no)
noncomputable def st_u54q : TT_u54q → DT (Rd TT_u54q) := (fun v => st_u54q_0 v.1 v.2)
noncomputable def l_u54q (v : TT_u54q) : Option (Nat × TT_u54q) := lock (iterO (fun v => (st_u54q v).ev) v)
theorem l_u54q_eq (v : TT_u54q) : l_u54q v = iterO (fun v => (st_u54q v).ev) v := lock_eq _
noncomputable def ll_u54q : LEnt := LE (τ := TT_u54q) (hD hs_u54q) (l_u54q) x_u54q
theorem t_u54q : Go.Eng.Told IP (loopAt F164 0).1 (loopAt F164 0).2 (ll_u54q) := loop_LE (inferInstance : Inhabited TT_u54q) (hs := hs_u54q) (st := st_u54q) (L := []) T23_ok (LOk_of (l := []) (by kernel_rfl) trivial) (l_u54q_eq) (fun v => by kernel_rfl) (fun v => by kernel_rfl)
abbrev B_u85q : Type := List UInt8
def p_u85q : PArgs := ⟨[.str, .fn (.func 165) []], []⟩
def r_u85q : List PRes := [⟨false, .str, []⟩]
noncomputable def tr_u85q (x0 : List UInt8) : DT B_u85q :=
 .bi (pj 0 (l_u54q (x0, 0))) (fun y0 =>
  .br (leB y0.snd y0.fst.length && true) (.at (List.take y0.snd.toNat y0.fst)) (.no))
  (.no)
noncomputable def f_u85q (x0 : List UInt8) : Option B_u85q := lock (tr_u85q x0).ev
theorem f_u85q_eq (x0 : List UInt8) : f_u85q x0 = (tr_u85q x0).ev := lock_eq _
theorem c_u85q : FH IP 164 p_u85q r_u85q (fun (v : List UInt8) => (f_u85q v : Option B_u85q)) := fun_FH (F := F164) (L := [(1016400, ll_u54q)]) (t := fun (v : List UInt8) => tr_u85q v) T23_ok (LOk_of (l := [loopAt F164 0]) (by kernel_rfl) ⟨sel_one (by kernel_rfl) t_u54q, trivial⟩) (by kernel_rfl) (fun v => by kernel_rfl) (fun v => f_u85q_eq v)
noncomputable def T24 : Tab := (164, FE p_u85q r_u85q (fun (v : List UInt8) => (f_u85q v : Option B_u85q))) :: T23
theorem T24_ok : TabOk IP T24 := ⟨FE_ok c_u85q, T23_ok⟩
abbrev TT_u51q : Type := List UInt8 × Int
def hs_u51q : List PSt := [⟨[(1015100, .junk), (0, .str), (3, .int .i64)], [], 0, 0⟩]
noncomputable def x_u51q_0 (x0 : List UInt8) (x1 : Int) : X × St := (X.ret, { tm := [(2, AV.int IntKind.i64 x1), (3, AV.int IntKind.i64 x1)], hp := [], nx := 0, k := 0 })
noncomputable def x_u51q_1 (x0 : List UInt8) (x1 : Int) : X × St := (X.exit 0, { tm := [(2, AV.junk), (3, AV.int IntKind.i64 x1)], hp := [], nx := 0, k := 0 })
noncomputable def x_u51q : List (TT_u51q → X × St) := [fun w => x_u51q_0 w.1 w.2, fun w => x_u51q_1 w.1 w.2]
noncomputable def st_u51q_0 (x0 : List UInt8) (x1 : Int) : DT (Rd TT_u51q) :=
 .br (decide (x1 < (↑x0.length : Int)))
  (.br (inB x0.length x1)
   (.br (byteAt x0 x1 == 32)
    (.br (byteAt x0 x1 == 32)
     (.at (.next ((x0, IntKind.i64.wrap (x1 + 1)))))
     (.br (byteAt x0 x1 == 35)
      (.br (leB x1 x0.length)
       (.bi (f_u85q (List.drop x1.toNat x0)) (fun y0 =>
        .at (.next ((x0, IntKind.i64.wrap (x1 + (↑y0.length : Int))))))
        (.no))
       (.no))
      (.at (.done 0))))
    (.br (byteAt x0 x1 == 9)
     (.br (byteAt x0 x1 == 9)
      (.at (.next ((x0, IntKind.i64.wrap (x1 + 1)))))
      (.br (byteAt x0 x1 == 35)
       (.br (leB x1 x0.length)
        (.bi (f_u85q (List.drop x1.toNat x0)) (fun y0 =>
         .at (.next ((x0, IntKind.i64.wrap (x1 + (↑y0.length : Int))))))
         (.no))
        (.no))
       (.at (.done 0))))
     (.br (byteAt x0 x1 == 10)
      (.at (.next ((x0, IntKind.i64.wrap (x1 + 1)))))
      (.br (byteAt x0 x1 == 35)
       (.br (leB x1 x0.length)
        (.bi (f_u85q (List.drop x1.toNat x0)) (fun y0 =>
         .at (.next ((x0, IntKind.i64.wrap (x1 + (↑y0.length : Int))))))
         (.no))
        (.no))
       (.at (.done 0))))))
   (.no))
  (.at (.done 1))
noncomputable def st_u51q : TT_u51q → DT (Rd TT_u51q) := (fun v => st_u51q_0 v.1 v.2)
noncomputable def l_u51q (v : TT_u51q) : Option (Nat × TT_u51q) := lock (iterO (fun v => (st_u51q v).ev) v)
theorem l_u51q_eq (v : TT_u51q) : l_u51q v = iterO (fun v => (st_u51q v).ev) v := lock_eq _
noncomputable def ll_u51q : LEnt := LE (τ := TT_u51q) (hD hs_u51q) (l_u51q) x_u51q
theorem t_u51q : Go.Eng.Told IP (loopAt F151 0).1 (loopAt F151 0).2 (ll_u51q) := loop_LE (inferInstance : Inhabited TT_u51q) (hs := hs_u51q) (st := st_u51q) (L := []) T24_ok (LOk_of (l := []) (by kernel_rfl) trivial) (l_u51q_eq) (fun v => by kernel_rfl) (fun v => by kernel_rfl)
abbrev B_u80q : Type := Int
def p_u80q : PArgs := ⟨[.str], []⟩
def r_u80q : List PRes := [⟨false, .int .i64, []⟩]
noncomputable def tr_u80q (x0 : List UInt8) : DT B_u80q :=
 .bi (pj 0 (l_u51q (x0, 0))) (fun y0 =>
  .at (y0.snd))
  (.bi (pj 1 (l_u51q (x0, 0))) (fun y0 =>
   .at (y0.snd))
   (.no))
noncomputable def f_u80q (x0 : List UInt8) : Option B_u80q := lock (tr_u80q x0).ev
theorem f_u80q_eq (x0 : List UInt8) : f_u80q x0 = (tr_u80q x0).ev := lock_eq _
theorem c_u80q : FH IP 151 p_u80q r_u80q (fun (v : List UInt8) => (f_u80q v : Option B_u80q)) := fun_FH (F := F151) (L := [(1015100, ll_u51q)]) (t := fun (v : List UInt8) => tr_u80q v) T24_ok (LOk_of (l := [loopAt F151 0]) (by kernel_rfl) ⟨sel_one (by kernel_rfl) t_u51q, trivial⟩) (by kernel_rfl) (fun v => by kernel_rfl) (fun v => f_u80q_eq v)
noncomputable def T25 : Tab := (151, FE p_u80q r_u80q (fun (v : List UInt8) => (f_u80q v : Option B_u80q))) :: T24
theorem T25_ok : TabOk IP T25 := ⟨FE_ok c_u80q, T24_ok⟩
abbrev B_u82q : Type := Bool
def p_u82q : PArgs := ⟨[.int .i32], []⟩
def r_u82q : List PRes := [⟨false, .bool, []⟩]
noncomputable def tr_u82q (x0 : Int) : DT B_u82q :=
 .bi (br (decide (x0 ≥ 97)) (some (decide (x0 ≤ 122))) (some false)) (fun y0 =>
  .at (y0))
  (.no)
noncomputable def f_u82q (x0 : Int) : Option B_u82q := lock (tr_u82q x0).ev
theorem f_u82q_eq (x0 : Int) : f_u82q x0 = (tr_u82q x0).ev := lock_eq _
theorem c_u82q : FH IP 169 p_u82q r_u82q (fun (v : Int) => (f_u82q v : Option B_u82q)) := fun_FH (F := F169) (L := []) (t := fun (v : Int) => tr_u82q v) T25_ok (LOk_of (l := []) (by kernel_rfl) trivial) (by kernel_rfl) (fun v => by kernel_rfl) (fun v => f_u82q_eq v)
noncomputable def T26 : Tab := (169, FE p_u82q r_u82q (fun (v : Int) => (f_u82q v : Option B_u82q))) :: T25
theorem T26_ok : TabOk IP T26 := ⟨FE_ok c_u82q, T25_ok⟩
abbrev B_u92q : Type := Bool
def p_u92q : PArgs := ⟨[.int .i32], []⟩
def r_u92q : List PRes := [⟨false, .bool, []⟩]
noncomputable def tr_u92q (x0 : Int) : DT B_u92q :=
 .bi (br (decide (x0 ≥ 48)) (some (decide (x0 ≤ 57))) (some false)) (fun y0 =>
  .at (y0))
  (.no)
noncomputable def f_u92q (x0 : Int) : Option B_u92q := lock (tr_u92q x0).ev
theorem f_u92q_eq (x0 : Int) : f_u92q x0 = (tr_u92q x0).ev := lock_eq _
theorem c_u92q : FH IP 172 p_u92q r_u92q (fun (v : Int) => (f_u92q v : Option B_u92q)) := fun_FH (F := F172) (L := []) (t := fun (v : Int) => tr_u92q v) T26_ok (LOk_of (l := []) (by kernel_rfl) trivial) (by kernel_rfl) (fun v => by kernel_rfl) (fun v => f_u92q_eq v)
noncomputable def T27 : Tab := (172, FE p_u92q r_u92q (fun (v : Int) => (f_u92q v : Option B_u92q))) :: T26
theorem T27_ok : TabOk IP T27 := ⟨FE_ok c_u92q, T26_ok⟩
abbrev B_u81q : Type := Bool
def p_u81q : PArgs := ⟨[.int .i32], []⟩
def r_u81q : List PRes := [⟨false, .bool, []⟩]
noncomputable def tr_u81q (x0 : Int) : DT B_u81q :=
 .bi (f_u82q x0) (fun y0 =>
  .bi (br y0 (some true) (br (sm (f_u92q x0)) (some (gv (f_u92q x0))) none)) (fun y1 =>
   .bi (br y1 (some true) (some (x0 == 95))) (fun y2 =>
    .at (y2))
    (.no))
   (.no))
  (.no)
noncomputable def f_u81q (x0 : Int) : Option B_u81q := lock (tr_u81q x0).ev
theorem f_u81q_eq (x0 : Int) : f_u81q x0 = (tr_u81q x0).ev := lock_eq _
theorem c_u81q : FH IP 170 p_u81q r_u81q (fun (v : Int) => (f_u81q v : Option B_u81q)) := fun_FH (F := F170) (L := []) (t := fun (v : Int) => tr_u81q v) T27_ok (LOk_of (l := []) (by kernel_rfl) trivial) (by kernel_rfl) (fun v => by kernel_rfl) (fun v => f_u81q_eq v)
noncomputable def T28 : Tab := (170, FE p_u81q r_u81q (fun (v : Int) => (f_u81q v : Option B_u81q))) :: T27
theorem T28_ok : TabOk IP T28 := ⟨FE_ok c_u81q, T27_ok⟩
abbrev TT_u38q : Type := List UInt8 × Int
def hs_u38q : List PSt := [⟨[(1016400, .junk), (0, .str), (1, .fn (.func 170) []), (5, .int .i64)], [], 0, 0⟩]
noncomputable def x_u38q_0 (x0 : List UInt8) (x1 : Int) : X × St := (X.exit 0, { tm := [(0, AV.str x0), (5, AV.int IntKind.i64 x1)], hp := [], nx := 0, k := 0 })
noncomputable def x_u38q : List (TT_u38q → X × St) := [fun w => x_u38q_0 w.1 w.2]
noncomputable def st_u38q_0 (x0 : List UInt8) (x1 : Int) : DT (Rd TT_u38q) :=
 .bi (br (decide (x1 < (↑x0.length : Int)))
     (br (inB x0.length x1) (br (sm (f_u81q (IntKind.i32.wrap (byteAt x0 x1)))) (some (gv (f_u81q (IntKind.i32.wrap (byteAt x0 x1))))) none) none) (some false)) (fun y0 =>
  .br (y0) (.at (.next ((x0, IntKind.i64.wrap (x1 + 1))))) (.at (.done 0)))
  (.no)
noncomputable def st_u38q : TT_u38q → DT (Rd TT_u38q) := (fun v => st_u38q_0 v.1 v.2)
noncomputable def l_u38q (v : TT_u38q) : Option (Nat × TT_u38q) := lock (iterO (fun v => (st_u38q v).ev) v)
theorem l_u38q_eq (v : TT_u38q) : l_u38q v = iterO (fun v => (st_u38q v).ev) v := lock_eq _
noncomputable def ll_u38q : LEnt := LE (τ := TT_u38q) (hD hs_u38q) (l_u38q) x_u38q
theorem t_u38q : Go.Eng.Told IP (loopAt F164 0).1 (loopAt F164 0).2 (ll_u38q) := loop_LE (inferInstance : Inhabited TT_u38q) (hs := hs_u38q) (st := st_u38q) (L := []) T28_ok (LOk_of (l := []) (by kernel_rfl) trivial) (l_u38q_eq) (fun v => by kernel_rfl) (fun v => by kernel_rfl)
abbrev B_u62q : Type := List UInt8
def p_u62q : PArgs := ⟨[.str, .fn (.func 170) []], []⟩
def r_u62q : List PRes := [⟨false, .str, []⟩]
noncomputable def tr_u62q (x0 : List UInt8) : DT B_u62q :=
 .bi (pj 0 (l_u38q (x0, 0))) (fun y0 =>
  .br (leB y0.snd y0.fst.length && true) (.at (List.take y0.snd.toNat y0.fst)) (.no))
  (.no)
noncomputable def f_u62q (x0 : List UInt8) : Option B_u62q := lock (tr_u62q x0).ev
theorem f_u62q_eq (x0 : List UInt8) : f_u62q x0 = (tr_u62q x0).ev := lock_eq _
theorem c_u62q : FH IP 164 p_u62q r_u62q (fun (v : List UInt8) => (f_u62q v : Option B_u62q)) := fun_FH (F := F164) (L := [(1016400, ll_u38q)]) (t := fun (v : List UInt8) => tr_u62q v) T28_ok (LOk_of (l := [loopAt F164 0]) (by kernel_rfl) ⟨sel_one (by kernel_rfl) t_u38q, trivial⟩) (by kernel_rfl) (fun v => by kernel_rfl) (fun v => f_u62q_eq v)
noncomputable def T29 : Tab := (164, FE p_u62q r_u62q (fun (v : List UInt8) => (f_u62q v : Option B_u62q))) :: T28
theorem T29_ok : TabOk IP T29 := ⟨FE_ok c_u62q, T28_ok⟩
abbrev B_u94q : Type := List AV
def p_u94q : PArgs := ⟨[], []⟩
def r_u94q : List PRes := [⟨false, .view 1, []⟩]
noncomputable def tr_u94q : DT B_u94q :=
 .at ([AV.str ([] ++ [112] ++ [114] ++ [111] ++ [100] ++ [117] ++ [99] ++ [116]), AV.str ([] ++ [99] ++ [117] ++ [114] ++ [114] ++ [101] ++ [110] ++ [99] ++ [121]),
  AV.str ([] ++ [99] ++ [97] ++ [108] ++ [101] ++ [110] ++ [100] ++ [97] ++ [114]), AV.str ([] ++ [102] ++ [114] ++ [111] ++ [109]),
  AV.str ([] ++ [101] ++ [118] ++ [101] ++ [114] ++ [121]), AV.str ([] ++ [111] ++ [118] ++ [101] ++ [114] ++ [100] ++ [114] ++ [97] ++ [102] ++ [116]),
  AV.str ([] ++ [116] ++ [97] ++ [120]), AV.str ([] ++ [99] ++ [114] ++ [101] ++ [100] ++ [105] ++ [116]), AV.str ([] ++ [100] ++ [101] ++ [98] ++ [105] ++ [116]),
  AV.str ([] ++ [109] ++ [97] ++ [114] ++ [103] ++ [105] ++ [110] ++ [97] ++ [108]), AV.str ([] ++ [119] ++ [104] ++ [111] ++ [108] ++ [101]),
  AV.str ([] ++ [97] ++ [99] ++ [116] ++ [51] ++ [54] ++ [48]), AV.str ([] ++ [97] ++ [99] ++ [116] ++ [51] ++ [54] ++ [53]),
  AV.str ([] ++ [97] ++ [99] ++ [116] ++ [117] ++ [97] ++ [108]), AV.str ([] ++ [116] ++ [104] ++ [105] ++ [114] ++ [116] ++ [121]),
  AV.str ([] ++ [100] ++ [111] ++ [119] ++ [110]), AV.str ([] ++ [117] ++ [112]), AV.str ([] ++ [102] ++ [108] ++ [111] ++ [111] ++ [114]),
  AV.str ([] ++ [99] ++ [101] ++ [105] ++ [108]), AV.str ([] ++ [104] ++ [97] ++ [108] ++ [102] ++ [95] ++ [117] ++ [112]),
  AV.str ([] ++ [104] ++ [97] ++ [108] ++ [102] ++ [95] ++ [101] ++ [118] ++ [101] ++ [110]), AV.str ([] ++ [107] ++ [101] ++ [101] ++ [112]),
  AV.str ([] ++ [100] ++ [114] ++ [111] ++ [112]), AV.str ([] ++ [102] ++ [101] ++ [101]), AV.str ([] ++ [108] ++ [105] ++ [109] ++ [105] ++ [116]),
  AV.str ([] ++ [119] ++ [104] ++ [101] ++ [110]), AV.str ([] ++ [97] ++ [109] ++ [111] ++ [117] ++ [110] ++ [116] ++ [95] ++ [111] ++ [102]),
  AV.str ([] ++ [115] ++ [105] ++ [110] ++ [103] ++ [108] ++ [101]), AV.str ([] ++ [100] ++ [97] ++ [105] ++ [108] ++ [121]),
  AV.str ([] ++ [109] ++ [111] ++ [110] ++ [116] ++ [104] ++ [108] ++ [121]), AV.str ([] ++ [109] ++ [111] ++ [110] ++ [116] ++ [104]),
  AV.str ([] ++ [114] ++ [101] ++ [116] ++ [117] ++ [114] ++ [110]), AV.str ([] ++ [99] ++ [108] ++ [111] ++ [115] ++ [101]),
  AV.str ([] ++ [101] ++ [118] ++ [101] ++ [110] ++ [116]), AV.str ([] ++ [105] ++ [102]), AV.str ([] ++ [116] ++ [104] ++ [101] ++ [110]),
  AV.str ([] ++ [101] ++ [108] ++ [115] ++ [101]), AV.str ([] ++ [97] ++ [110] ++ [100]), AV.str ([] ++ [111] ++ [114]), AV.str ([] ++ [110] ++ [111] ++ [116]),
  AV.str ([] ++ [109] ++ [105] ++ [110]), AV.str ([] ++ [109] ++ [97] ++ [120])])
noncomputable def f_u94q : Option B_u94q := lock (tr_u94q).ev
theorem f_u94q_eq : f_u94q = (tr_u94q).ev := lock_eq _
theorem c_u94q : FH IP 184 p_u94q r_u94q (fun (v : Unit) => (f_u94q : Option B_u94q)) := fun_FH (F := F184) (L := []) (t := fun (v : Unit) => tr_u94q) T29_ok (LOk_of (l := []) (by kernel_rfl) trivial) (by kernel_rfl) (fun v => by kernel_rfl) (fun v => f_u94q_eq)
noncomputable def T30 : Tab := (184, FE p_u94q r_u94q (fun (v : Unit) => (f_u94q : Option B_u94q))) :: T29
theorem T30_ok : TabOk IP T30 := ⟨FE_ok c_u94q, T29_ok⟩
abbrev TT_u18q : Type := List AV × List UInt8 × Int × Int
def hs_u18q : List PSt := [⟨[(1019500, .junk), (0, .view 1), (1, .str), (7, .int .i64), (8, .int .i64)], [], 0, 0⟩]
noncomputable def x_u18q_0 (x0 : List AV) (x1 : List UInt8) (x2 : Int) (x3 : Int) : X × St := (X.ret, { tm := [(4, AV.int IntKind.i64 x3)], hp := [], nx := 0, k := 0 })
noncomputable def x_u18q_1 (x0 : List AV) (x1 : List UInt8) (x2 : Int) (x3 : Int) : X × St := (X.exit 0, { tm := [(4, AV.junk)], hp := [], nx := 0, k := 0 })
noncomputable def x_u18q : List (TT_u18q → X × St) := [fun w => x_u18q_0 w.1 w.2.1 w.2.2.1 w.2.2.2, fun w => x_u18q_1 w.1 w.2.1 w.2.2.1 w.2.2.2]
noncomputable def st_u18q_0 (x0 : List AV) (x1 : List UInt8) (x2 : Int) (x3 : Int) : DT (Rd TT_u18q) :=
 .br (decide (x3 < x2))
  (.br (okAt [CS.str] x0 x3)
   (.br (x1 == strOf (cellAt x0 x3 0)) (.at (.done 0)) (.at (.next ((x0, x1, x2, IntKind.i64.wrap (x3 + 1))))))
   (.no))
  (.at (.done 1))
noncomputable def st_u18q : TT_u18q → DT (Rd TT_u18q) := (fun v => st_u18q_0 v.1 v.2.1 v.2.2.1 v.2.2.2)
noncomputable def l_u18q (v : TT_u18q) : Option (Nat × TT_u18q) := lock (iterO (fun v => (st_u18q v).ev) v)
theorem l_u18q_eq (v : TT_u18q) : l_u18q v = iterO (fun v => (st_u18q v).ev) v := lock_eq _
noncomputable def ll_u18q : LEnt := LE (τ := TT_u18q) (hD hs_u18q) (l_u18q) x_u18q
theorem t_u18q : Go.Eng.Told IP (loopAt F195 0).1 (loopAt F195 0).2 (ll_u18q) := loop_LE (inferInstance : Inhabited TT_u18q) (hs := hs_u18q) (st := st_u18q) (L := []) T30_ok (LOk_of (l := []) (by kernel_rfl) trivial) (l_u18q_eq) (fun v => by kernel_rfl) (fun v => by kernel_rfl)
abbrev B_u20q : Type := Int
def p_u20q : PArgs := ⟨[.view 1, .str], []⟩
def r_u20q : List PRes := [⟨false, .int .i64, []⟩]
noncomputable def tr_u20q (x0 : List AV) (x1 : List UInt8) : DT B_u20q :=
 .bi (pj 0 (l_u18q (x0, x1, (↑x0.length : Int), 0))) (fun y0 =>
  .at (y0.snd.snd.snd))
  (.bi (pj 1 (l_u18q (x0, x1, (↑x0.length : Int), 0))) (fun y0 =>
   .at (-1))
   (.no))
noncomputable def f_u20q (x0 : List AV) (x1 : List UInt8) : Option B_u20q := lock (tr_u20q x0 x1).ev
theorem f_u20q_eq (x0 : List AV) (x1 : List UInt8) : f_u20q x0 x1 = (tr_u20q x0 x1).ev := lock_eq _
theorem c_u20q : FH IP 195 p_u20q r_u20q (fun (v : List AV × List UInt8) => (f_u20q v.1 v.2 : Option B_u20q)) := fun_FH (F := F195) (L := [(1019500, ll_u18q)]) (t := fun (v : List AV × List UInt8) => tr_u20q v.1 v.2) T30_ok (LOk_of (l := [loopAt F195 0]) (by kernel_rfl) ⟨sel_one (by kernel_rfl) t_u18q, trivial⟩) (by kernel_rfl) (fun v => by kernel_rfl) (fun v => f_u20q_eq v.1 v.2)
noncomputable def T31 : Tab := (195, FE p_u20q r_u20q (fun (v : List AV × List UInt8) => (f_u20q v.1 v.2 : Option B_u20q))) :: T30
theorem T31_ok : TabOk IP T31 := ⟨FE_ok c_u20q, T30_ok⟩
abbrev B_u17q : Type := Bool
def p_u17q : PArgs := ⟨[.view 1, .str], []⟩
def r_u17q : List PRes := [⟨false, .bool, []⟩]
noncomputable def tr_u17q (x0 : List AV) (x1 : List UInt8) : DT B_u17q :=
 .bi (f_u20q x0 x1) (fun y0 =>
  .at (decide (y0 ≥ 0)))
  (.no)
noncomputable def f_u17q (x0 : List AV) (x1 : List UInt8) : Option B_u17q := lock (tr_u17q x0 x1).ev
theorem f_u17q_eq (x0 : List AV) (x1 : List UInt8) : f_u17q x0 x1 = (tr_u17q x0 x1).ev := lock_eq _
theorem c_u17q : FH IP 183 p_u17q r_u17q (fun (v : List AV × List UInt8) => (f_u17q v.1 v.2 : Option B_u17q)) := fun_FH (F := F183) (L := []) (t := fun (v : List AV × List UInt8) => tr_u17q v.1 v.2) T31_ok (LOk_of (l := []) (by kernel_rfl) trivial) (by kernel_rfl) (fun v => by kernel_rfl) (fun v => f_u17q_eq v.1 v.2)
noncomputable def T32 : Tab := (183, FE p_u17q r_u17q (fun (v : List AV × List UInt8) => (f_u17q v.1 v.2 : Option B_u17q))) :: T31
theorem T32_ok : TabOk IP T32 := ⟨FE_ok c_u17q, T31_ok⟩
abbrev B_u104q : Type := Bool
def p_u104q : PArgs := ⟨[.str], []⟩
def r_u104q : List PRes := [⟨false, .bool, []⟩]
noncomputable def tr_u104q (x0 : List UInt8) : DT B_u104q :=
 .bi (f_u94q) (fun y0 =>
  .bi (f_u17q y0 x0) (fun y1 =>
   .at (y1))
   (.no))
  (.no)
noncomputable def f_u104q (x0 : List UInt8) : Option B_u104q := lock (tr_u104q x0).ev
theorem f_u104q_eq (x0 : List UInt8) : f_u104q x0 = (tr_u104q x0).ev := lock_eq _
theorem c_u104q : FH IP 171 p_u104q r_u104q (fun (v : List UInt8) => (f_u104q v : Option B_u104q)) := fun_FH (F := F171) (L := []) (t := fun (v : List UInt8) => tr_u104q v) T32_ok (LOk_of (l := []) (by kernel_rfl) trivial) (by kernel_rfl) (fun v => by kernel_rfl) (fun v => f_u104q_eq v)
noncomputable def T33 : Tab := (171, FE p_u104q r_u104q (fun (v : List UInt8) => (f_u104q v : Option B_u104q))) :: T32
theorem T33_ok : TabOk IP T33 := ⟨FE_ok c_u104q, T32_ok⟩
abbrev B_u53q : Type := Bool
def p_u53q : PArgs := ⟨[.int .i32], []⟩
def r_u53q : List PRes := [⟨false, .bool, []⟩]
noncomputable def tr_u53q (x0 : Int) : DT B_u53q :=
 .bi (f_u81q x0) (fun y0 =>
  .bi (br y0 (some true) (some (x0 == 46))) (fun y1 =>
   .bi (br y1 (some true) (some (x0 == 37))) (fun y2 =>
    .at (y2))
    (.no))
   (.no))
  (.no)
noncomputable def f_u53q (x0 : Int) : Option B_u53q := lock (tr_u53q x0).ev
theorem f_u53q_eq (x0 : Int) : f_u53q x0 = (tr_u53q x0).ev := lock_eq _
theorem c_u53q : FH IP 174 p_u53q r_u53q (fun (v : Int) => (f_u53q v : Option B_u53q)) := fun_FH (F := F174) (L := []) (t := fun (v : Int) => tr_u53q v) T33_ok (LOk_of (l := []) (by kernel_rfl) trivial) (by kernel_rfl) (fun v => by kernel_rfl) (fun v => f_u53q_eq v)
noncomputable def T34 : Tab := (174, FE p_u53q r_u53q (fun (v : Int) => (f_u53q v : Option B_u53q))) :: T33
theorem T34_ok : TabOk IP T34 := ⟨FE_ok c_u53q, T33_ok⟩
end Go.Proofs.H15v

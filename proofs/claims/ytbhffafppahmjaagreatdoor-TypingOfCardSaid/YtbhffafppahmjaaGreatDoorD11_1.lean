/- Functions over plain data. Printed by a program of mine. -/
import Derived.Test.YtbhffafppahmjaaGreatDoorE3
import Derived.Test.YtbhffafppahmjaaGreatDoorIP11
import Derived.KernelRfl
set_option linter.unusedVariables false
set_option linter.unusedSimpArgs false
set_option linter.unnecessarySimpa false
namespace Go.Proofs.H11
open Go Go.Eng
set_option maxRecDepth 100000
noncomputable def T0 : Tab := [(54, countE), (76, fieldsE), (78, idxE), (74, parseE 102), (87, atoiE 102)]
theorem T0_ok : TabOk IP T0 := ⟨sp54, sp76, sp78, sp74, sp87, trivial⟩
abbrev TT_u64q : Type := List AV × Int
def hs_u64q : List PSt := [⟨[(1000700, .junk), (0, .view 2), (3, .int .i64)], [], 0, 0⟩]
noncomputable def x_u64q_0 (x0 : List AV) (x1 : Int) : X × St := (X.ret, { tm := [(0, AV.view 2 x0), (2, AV.bool false)], hp := [], nx := 0, k := 0 })
noncomputable def x_u64q_1 (x0 : List AV) (x1 : Int) : X × St := (X.exit 0, { tm := [(0, AV.view 2 x0), (2, AV.junk)], hp := [], nx := 0, k := 0 })
noncomputable def x_u64q : List (TT_u64q → X × St) := [fun w => x_u64q_0 w.1 w.2, fun w => x_u64q_1 w.1 w.2]
noncomputable def st_u64q_0 (x0 : List AV) (x1 : Int) : DT (Rd TT_u64q) :=
 .bi (br (decide (x1 < (↑x0.length : Int))) (some (decide (x1 < 101))) (some false)) (fun y0 =>
  .br (y0)
   (.br (okAt [CS.str, CS.int IntKind.i64] x0 x1)
    (.br (decide ((↑(strOf (cellAt x0 x1 0)).length : Int) > 100)) (.at (.done 0)) (.at (.next ((x0, IntKind.i64.wrap (x1 + 1))))))
    (.no))
   (.at (.done 1)))
  (.no)
noncomputable def st_u64q : TT_u64q → DT (Rd TT_u64q) := (fun v => st_u64q_0 v.1 v.2)
noncomputable def l_u64q (v : TT_u64q) : Option (Nat × TT_u64q) := lock (iterO (fun v => (st_u64q v).ev) v)
theorem l_u64q_eq (v : TT_u64q) : l_u64q v = iterO (fun v => (st_u64q v).ev) v := lock_eq _
noncomputable def ll_u64q : LEnt := LE (τ := TT_u64q) (hD hs_u64q) (l_u64q) x_u64q
theorem t_u64q : Go.Eng.Told IP (loopAt F7 0).1 (loopAt F7 0).2 (ll_u64q) := loop_LE (inferInstance : Inhabited TT_u64q) (hs := hs_u64q) (st := st_u64q) (L := []) T0_ok (LOk_of (l := []) (by kernel_rfl) trivial) (l_u64q_eq) (fun v => by kernel_rfl) (fun v => by kernel_rfl)
abbrev B_u96q : Type := Bool
def p_u96q : PArgs := ⟨[.view 2], []⟩
def r_u96q : List PRes := [⟨false, .bool, []⟩]
noncomputable def tr_u96q (x0 : List AV) : DT B_u96q :=
 .bi (pj 0 (l_u64q (x0, 0))) (fun y0 =>
  .at (false))
  (.bi (pj 1 (l_u64q (x0, 0))) (fun y0 =>
   .at (decide ((↑y0.fst.length : Int) ≤ 100)))
   (.no))
noncomputable def f_u96q (x0 : List AV) : Option B_u96q := lock (tr_u96q x0).ev
theorem f_u96q_eq (x0 : List AV) : f_u96q x0 = (tr_u96q x0).ev := lock_eq _
theorem c_u96q : FH IP 7 p_u96q r_u96q (fun (v : List AV) => (f_u96q v : Option B_u96q)) := fun_FH (F := F7) (L := [(1000700, ll_u64q)]) (t := fun (v : List AV) => tr_u96q v) T0_ok (LOk_of (l := [loopAt F7 0]) (by kernel_rfl) ⟨sel_one (by kernel_rfl) t_u64q, trivial⟩) (by kernel_rfl) (fun v => by kernel_rfl) (fun v => f_u96q_eq v)
noncomputable def T1 : Tab := (7, FE p_u96q r_u96q (fun (v : List AV) => (f_u96q v : Option B_u96q))) :: T0
theorem T1_ok : TabOk IP T1 := ⟨FE_ok c_u96q, T0_ok⟩
abbrev B_u87q : Type := Int
def p_u87q : PArgs := ⟨[.agg [.int .i64, .int .i64, .str, .view 4]], []⟩
def r_u87q : List PRes := [⟨false, .int .i64, []⟩]
abbrev GT_u87q : Type := Int → Int → (List UInt8) → (List AV) → Option B_u87q
def GH_u87q (G_u87q : GT_u87q) : Prop := FH IP 30 p_u87q r_u87q (fun (v : Int × Int × List UInt8 × List AV) => (G_u87q v.1 v.2.1 v.2.2.1 v.2.2.2 : Option B_u87q))
noncomputable def TG_u87q (G_u87q : GT_u87q) : Tab := (30, FE p_u87q r_u87q (fun (v : Int × Int × List UInt8 × List AV) => (G_u87q v.1 v.2.1 v.2.2.1 v.2.2.2 : Option B_u87q))) :: T1
theorem TG_u87q_ok (G_u87q : GT_u87q) (hG : GH_u87q G_u87q) : TabOk IP (TG_u87q G_u87q) := ⟨FE_ok (hG), T1_ok⟩
abbrev TT_u52q : Type := Int × List AV × Int × Int
def hs_u52q : List PSt := [⟨[(1003000, .junk), (3, .int .i64), (7, .view 4), (8, .int .i64), (9, .int .i64)], [], 0, 0⟩]
noncomputable def x_u52q_0 (x0 : Int) (x1 : List AV) (x2 : Int) (x3 : Int) : X × St := (X.exit 0, { tm := [(3, AV.int IntKind.i64 x0)], hp := [], nx := 0, k := 0 })
noncomputable def x_u52q : List (TT_u52q → X × St) := [fun w => x_u52q_0 w.1 w.2.1 w.2.2.1 w.2.2.2]
noncomputable def st_u52q_0 (G_u87q : GT_u87q) (x0 : Int) (x1 : List AV) (x2 : Int) (x3 : Int) : DT (Rd TT_u52q) :=
 .br (decide (x3 < x2))
  (.br (okAt [CS.int IntKind.i64, CS.int IntKind.i64, CS.str, CS.slice 4] x1 x3)
   (.bi (G_u87q (intOf (cellAt x1 x3 0)) (intOf (cellAt x1 x3 1)) (strOf (cellAt x1 x3 2)) (viewOf (cellAt x1 x3 3))) (fun y0 =>
    .at (.next ((IntKind.i64.wrap (x0 + y0), x1, x2, IntKind.i64.wrap (x3 + 1)))))
    (.no))
   (.no))
  (.at (.done 0))
noncomputable def st_u52q (G_u87q : GT_u87q) : TT_u52q → DT (Rd TT_u52q) := (fun v => st_u52q_0 G_u87q v.1 v.2.1 v.2.2.1 v.2.2.2)
noncomputable def l_u52q (G_u87q : GT_u87q) (v : TT_u52q) : Option (Nat × TT_u52q) := lock (iterO (fun v => (st_u52q G_u87q v).ev) v)
theorem l_u52q_eq (G_u87q : GT_u87q) (v : TT_u52q) : l_u52q G_u87q v = iterO (fun v => (st_u52q G_u87q v).ev) v := lock_eq _
noncomputable def ll_u52q (G_u87q : GT_u87q) : LEnt := LE (τ := TT_u52q) (hD hs_u52q) (l_u52q G_u87q) x_u52q
theorem t_u52q (G_u87q : GT_u87q) (hG : GH_u87q G_u87q) : Go.Eng.Told IP (loopAt F30 0).1 (loopAt F30 0).2 (ll_u52q G_u87q) := loop_LE (inferInstance : Inhabited TT_u52q) (hs := hs_u52q) (st := st_u52q G_u87q) (L := []) (TG_u87q_ok G_u87q hG) (LOk_of (l := []) (by kernel_rfl) trivial) (l_u52q_eq G_u87q) (fun v => by kernel_rfl) (fun v => by kernel_rfl)
noncomputable def tr_u87q (G_u87q : GT_u87q) (x0 : Int) (x1 : Int) (x2 : List UInt8) (x3 : List AV) : DT B_u87q :=
 .bi (pj 0 (l_u52q G_u87q (1, x3, (↑x3.length : Int), 0))) (fun y0 =>
  .at (y0.fst))
  (.no)
noncomputable def N_u87q : Nat → GT_u87q
  | 0 => fun _ _ _ _ => none
  | n + 1 => fun x0 x1 x2 x3 => (tr_u87q ((N_u87q n)) x0 x1 x2 x3).ev
noncomputable def f_u87q (x0 : Int) (x1 : Int) (x2 : List UInt8) (x3 : List AV) : Option B_u87q := limO fun n => (N_u87q n) x0 x1 x2 x3
theorem N_u87q_ok : ∀ n, GH_u87q ((N_u87q n))
  | 0 => (fun v y h => nomatch h)
  | n + 1 => have hG := N_u87q_ok n
    fun_FH (F := F30) (L := [(1003000, ll_u52q ((N_u87q n)))]) (t := fun (v : Int × Int × List UInt8 × List AV) => tr_u87q ((N_u87q n)) v.1 v.2.1 v.2.2.1 v.2.2.2) (TG_u87q_ok ((N_u87q n)) hG) (LOk_of (l := [loopAt F30 0]) (by kernel_rfl) ⟨sel_one (by kernel_rfl) (t_u52q ((N_u87q n)) hG), trivial⟩) (by kernel_rfl) (fun v => by kernel_rfl) (fun v => rfl)
theorem c_u87q : FH IP 30 p_u87q r_u87q (fun (v : Int × Int × List UInt8 × List AV) => (f_u87q v.1 v.2.1 v.2.2.1 v.2.2.2 : Option B_u87q)) := lim_FH (p := p_u87q) (rs := r_u87q) (s := fun n (v : Int × Int × List UInt8 × List AV) => (N_u87q n) v.1 v.2.1 v.2.2.1 v.2.2.2) fun n => (N_u87q_ok n)
noncomputable def T2 : Tab := (30, FE p_u87q r_u87q (fun (v : Int × Int × List UInt8 × List AV) => (f_u87q v.1 v.2.1 v.2.2.1 v.2.2.2 : Option B_u87q))) :: T1
theorem T2_ok : TabOk IP T2 := ⟨FE_ok c_u87q, T1_ok⟩
abbrev B_u88q : Type := Int
def p_u88q : PArgs := ⟨[.agg [.int .i64, .int .i64, .str, .view 4]], []⟩
def r_u88q : List PRes := [⟨false, .int .i64, []⟩]
abbrev GT_u88q : Type := Int → Int → (List UInt8) → (List AV) → Option B_u88q
def GH_u88q (G_u88q : GT_u88q) : Prop := FH IP 31 p_u88q r_u88q (fun (v : Int × Int × List UInt8 × List AV) => (G_u88q v.1 v.2.1 v.2.2.1 v.2.2.2 : Option B_u88q))
noncomputable def TG_u88q (G_u88q : GT_u88q) : Tab := (31, FE p_u88q r_u88q (fun (v : Int × Int × List UInt8 × List AV) => (G_u88q v.1 v.2.1 v.2.2.1 v.2.2.2 : Option B_u88q))) :: T2
theorem TG_u88q_ok (G_u88q : GT_u88q) (hG : GH_u88q G_u88q) : TabOk IP (TG_u88q G_u88q) := ⟨FE_ok (hG), T2_ok⟩
abbrev TT_u53q : Type := Int × List AV × Int × Int
def hs_u53q : List PSt := [⟨[(1003100, .junk), (3, .int .i64), (7, .view 4), (8, .int .i64), (9, .int .i64)], [], 0, 0⟩]
noncomputable def x_u53q_0 (x0 : Int) (x1 : List AV) (x2 : Int) (x3 : Int) : X × St := (X.exit 0, { tm := [(3, AV.int IntKind.i64 x0)], hp := [], nx := 0, k := 0 })
noncomputable def x_u53q : List (TT_u53q → X × St) := [fun w => x_u53q_0 w.1 w.2.1 w.2.2.1 w.2.2.2]
noncomputable def st_u53q_0 (G_u88q : GT_u88q) (x0 : Int) (x1 : List AV) (x2 : Int) (x3 : Int) : DT (Rd TT_u53q) :=
 .br (decide (x3 < x2))
  (.br (okAt [CS.int IntKind.i64, CS.int IntKind.i64, CS.str, CS.slice 4] x1 x3)
   (.bi (G_u88q (intOf (cellAt x1 x3 0)) (intOf (cellAt x1 x3 1)) (strOf (cellAt x1 x3 2)) (viewOf (cellAt x1 x3 3))) (fun y0 =>
    .at (.next ((if y0 > x0 then y0 else x0, x1, x2, IntKind.i64.wrap (x3 + 1)))))
    (.no))
   (.no))
  (.at (.done 0))
noncomputable def st_u53q (G_u88q : GT_u88q) : TT_u53q → DT (Rd TT_u53q) := (fun v => st_u53q_0 G_u88q v.1 v.2.1 v.2.2.1 v.2.2.2)
noncomputable def l_u53q (G_u88q : GT_u88q) (v : TT_u53q) : Option (Nat × TT_u53q) := lock (iterO (fun v => (st_u53q G_u88q v).ev) v)
theorem l_u53q_eq (G_u88q : GT_u88q) (v : TT_u53q) : l_u53q G_u88q v = iterO (fun v => (st_u53q G_u88q v).ev) v := lock_eq _
noncomputable def ll_u53q (G_u88q : GT_u88q) : LEnt := LE (τ := TT_u53q) (hD hs_u53q) (l_u53q G_u88q) x_u53q
theorem t_u53q (G_u88q : GT_u88q) (hG : GH_u88q G_u88q) : Go.Eng.Told IP (loopAt F31 0).1 (loopAt F31 0).2 (ll_u53q G_u88q) := loop_LE (inferInstance : Inhabited TT_u53q) (hs := hs_u53q) (st := st_u53q G_u88q) (L := []) (TG_u88q_ok G_u88q hG) (LOk_of (l := []) (by kernel_rfl) trivial) (l_u53q_eq G_u88q) (fun v => by kernel_rfl) (fun v => by kernel_rfl)
noncomputable def tr_u88q (G_u88q : GT_u88q) (x0 : Int) (x1 : Int) (x2 : List UInt8) (x3 : List AV) : DT B_u88q :=
 .bi (pj 0 (l_u53q G_u88q (0, x3, (↑x3.length : Int), 0))) (fun y0 =>
  .at (IntKind.i64.wrap (y0.fst + 1)))
  (.no)
noncomputable def N_u88q : Nat → GT_u88q
  | 0 => fun _ _ _ _ => none
  | n + 1 => fun x0 x1 x2 x3 => (tr_u88q ((N_u88q n)) x0 x1 x2 x3).ev
noncomputable def f_u88q (x0 : Int) (x1 : Int) (x2 : List UInt8) (x3 : List AV) : Option B_u88q := limO fun n => (N_u88q n) x0 x1 x2 x3
theorem N_u88q_ok : ∀ n, GH_u88q ((N_u88q n))
  | 0 => (fun v y h => nomatch h)
  | n + 1 => have hG := N_u88q_ok n
    fun_FH (F := F31) (L := [(1003100, ll_u53q ((N_u88q n)))]) (t := fun (v : Int × Int × List UInt8 × List AV) => tr_u88q ((N_u88q n)) v.1 v.2.1 v.2.2.1 v.2.2.2) (TG_u88q_ok ((N_u88q n)) hG) (LOk_of (l := [loopAt F31 0]) (by kernel_rfl) ⟨sel_one (by kernel_rfl) (t_u53q ((N_u88q n)) hG), trivial⟩) (by kernel_rfl) (fun v => by kernel_rfl) (fun v => rfl)
theorem c_u88q : FH IP 31 p_u88q r_u88q (fun (v : Int × Int × List UInt8 × List AV) => (f_u88q v.1 v.2.1 v.2.2.1 v.2.2.2 : Option B_u88q)) := lim_FH (p := p_u88q) (rs := r_u88q) (s := fun n (v : Int × Int × List UInt8 × List AV) => (N_u88q n) v.1 v.2.1 v.2.2.1 v.2.2.2) fun n => (N_u88q_ok n)
noncomputable def T3 : Tab := (31, FE p_u88q r_u88q (fun (v : Int × Int × List UInt8 × List AV) => (f_u88q v.1 v.2.1 v.2.2.1 v.2.2.2 : Option B_u88q))) :: T2
theorem T3_ok : TabOk IP T3 := ⟨FE_ok c_u88q, T2_ok⟩
abbrev B_u37q : Type := Int
def p_u37q : PArgs := ⟨[.int .i64], []⟩
def r_u37q : List PRes := [⟨false, .int .i64, []⟩]
noncomputable def tr_u37q (x0 : Int) : DT B_u37q :=
 .br (x0 == 1)
  (.br (x0 == 1)
   (.at (0))
   (.br (x0 == 9)
    (.br (x0 == 9)
     (.at (1))
     (.br (x0 == 19)
      (.at (3))
      (.bi (br (decide (x0 ≥ 5)) (some (decide (x0 ≤ 18))) (some false)) (fun y0 =>
       .br (y0) (.at (2)) (.at (-1)))
       (.no))))
    (.br (x0 == 16)
     (.at (1))
     (.br (x0 == 19)
      (.at (3))
      (.bi (br (decide (x0 ≥ 5)) (some (decide (x0 ≤ 18))) (some false)) (fun y0 =>
       .br (y0) (.at (2)) (.at (-1)))
       (.no))))))
  (.br (x0 == 2)
   (.br (x0 == 2)
    (.at (0))
    (.br (x0 == 9)
     (.br (x0 == 9)
      (.at (1))
      (.br (x0 == 19)
       (.at (3))
       (.bi (br (decide (x0 ≥ 5)) (some (decide (x0 ≤ 18))) (some false)) (fun y0 =>
        .br (y0) (.at (2)) (.at (-1)))
        (.no))))
     (.br (x0 == 16)
      (.at (1))
      (.br (x0 == 19)
       (.at (3))
       (.bi (br (decide (x0 ≥ 5)) (some (decide (x0 ≤ 18))) (some false)) (fun y0 =>
        .br (y0) (.at (2)) (.at (-1)))
        (.no))))))
   (.br (x0 == 3)
    (.br (x0 == 3)
     (.at (0))
     (.br (x0 == 9)
      (.br (x0 == 9)
       (.at (1))
       (.br (x0 == 19)
        (.at (3))
        (.bi (br (decide (x0 ≥ 5)) (some (decide (x0 ≤ 18))) (some false)) (fun y0 =>
         .br (y0) (.at (2)) (.at (-1)))
         (.no))))
      (.br (x0 == 16)
       (.at (1))
       (.br (x0 == 19)
        (.at (3))
        (.bi (br (decide (x0 ≥ 5)) (some (decide (x0 ≤ 18))) (some false)) (fun y0 =>
         .br (y0) (.at (2)) (.at (-1)))
         (.no))))))
    (.br (x0 == 4)
     (.at (0))
     (.br (x0 == 9)
      (.br (x0 == 9)
       (.at (1))
       (.br (x0 == 19)
        (.at (3))
        (.bi (br (decide (x0 ≥ 5)) (some (decide (x0 ≤ 18))) (some false)) (fun y0 =>
         .br (y0) (.at (2)) (.at (-1)))
         (.no))))
      (.br (x0 == 16)
       (.at (1))
       (.br (x0 == 19)
        (.at (3))
        (.bi (br (decide (x0 ≥ 5)) (some (decide (x0 ≤ 18))) (some false)) (fun y0 =>
         .br (y0) (.at (2)) (.at (-1)))
         (.no))))))))
noncomputable def f_u37q (x0 : Int) : Option B_u37q := lock (tr_u37q x0).ev
theorem f_u37q_eq (x0 : Int) : f_u37q x0 = (tr_u37q x0).ev := lock_eq _
theorem c_u37q : FH IP 45 p_u37q r_u37q (fun (v : Int) => (f_u37q v : Option B_u37q)) := fun_FH (F := F45) (L := []) (t := fun (v : Int) => tr_u37q v) T3_ok (LOk_of (l := []) (by kernel_rfl) trivial) (by kernel_rfl) (fun v => by kernel_rfl) (fun v => f_u37q_eq v)
noncomputable def T4 : Tab := (45, FE p_u37q r_u37q (fun (v : Int) => (f_u37q v : Option B_u37q))) :: T3
theorem T4_ok : TabOk IP T4 := ⟨FE_ok c_u37q, T3_ok⟩
abbrev B_u72q : Type := Bool
def p_u72q : PArgs := ⟨[.agg [.int .i64, .int .i64, .str, .view 4]], []⟩
def r_u72q : List PRes := [⟨false, .bool, []⟩]
noncomputable def tr_u72q (x0 : Int) (x1 : Int) (x2 : List UInt8) (x3 : List AV) : DT B_u72q :=
 .br (x0 == 1)
  (.bi (f_u37q x0) (fun y0 =>
   .br (y0 == (↑x3.length : Int))
    (.br (decide (x1 ≥ 0))
     (.br (decide (x1 ≤ 9223372036854775807))
      (.br (x2 == []) (.at (true)) (.at (x0 == 4)))
      (.at (false)))
     (.at (false)))
    (.at (false)))
   (.no))
  (.br (x0 == 2)
   (.bi (f_u37q x0) (fun y0 =>
    .br (y0 == (↑x3.length : Int))
     (.br (decide (x1 ≥ 0))
      (.br (decide (x1 ≤ 1000000000000))
       (.br (x2 == []) (.at (true)) (.at (x0 == 4)))
       (.at (false)))
      (.at (false)))
     (.at (false)))
    (.no))
   (.br (x0 == 3)
    (.bi (f_u37q x0) (fun y0 =>
     .br (y0 == (↑x3.length : Int))
      (.br (decide (x1 ≥ 0))
       (.br (decide (x1 ≤ 1000000))
        (.br (x2 == []) (.at (true)) (.at (x0 == 4)))
        (.at (false)))
       (.at (false)))
      (.at (false)))
     (.no))
    (.bi (f_u37q x0) (fun y0 =>
     .br (y0 == (↑x3.length : Int))
      (.br (decide (x1 ≥ 0))
       (.br (decide (x1 ≤ 0))
        (.br (x2 == []) (.at (true)) (.at (x0 == 4)))
        (.at (false)))
       (.at (false)))
      (.at (false)))
     (.no))))
noncomputable def f_u72q (x0 : Int) (x1 : Int) (x2 : List UInt8) (x3 : List AV) : Option B_u72q := lock (tr_u72q x0 x1 x2 x3).ev
theorem f_u72q_eq (x0 : Int) (x1 : Int) (x2 : List UInt8) (x3 : List AV) : f_u72q x0 x1 x2 x3 = (tr_u72q x0 x1 x2 x3).ev := lock_eq _
theorem c_u72q : FH IP 33 p_u72q r_u72q (fun (v : Int × Int × List UInt8 × List AV) => (f_u72q v.1 v.2.1 v.2.2.1 v.2.2.2 : Option B_u72q)) := fun_FH (F := F33) (L := []) (t := fun (v : Int × Int × List UInt8 × List AV) => tr_u72q v.1 v.2.1 v.2.2.1 v.2.2.2) T4_ok (LOk_of (l := []) (by kernel_rfl) trivial) (by kernel_rfl) (fun v => by kernel_rfl) (fun v => f_u72q_eq v.1 v.2.1 v.2.2.1 v.2.2.2)
noncomputable def T5 : Tab := (33, FE p_u72q r_u72q (fun (v : Int × Int × List UInt8 × List AV) => (f_u72q v.1 v.2.1 v.2.2.1 v.2.2.2 : Option B_u72q))) :: T4
theorem T5_ok : TabOk IP T5 := ⟨FE_ok c_u72q, T4_ok⟩
abbrev B_u89q : Type := Bool
def p_u89q : PArgs := ⟨[.agg [.int .i64, .int .i64, .str, .view 4], .fn (.func 33) []], []⟩
def r_u89q : List PRes := [⟨false, .bool, []⟩]
abbrev GT_u89q : Type := Int → Int → (List UInt8) → (List AV) → Option B_u89q
abbrev B_u1q : Type := Bool
def p_u1q : PArgs := ⟨[.view 4, .fn (.func 44) [.ptr [.fn (.func 33) []]]], []⟩
def r_u1q : List PRes := [⟨false, .bool, []⟩]
abbrev GT_u1q : Type := (List AV) → Option B_u1q
abbrev B_u5q : Type := Int
def p_u5q : PArgs := ⟨[.view 4, .fn (.func 44) [.ptr [.fn (.func 33) []]]], []⟩
def r_u5q : List PRes := [⟨false, .int .i64, []⟩]
abbrev GT_u5q : Type := (List AV) → Option B_u5q
abbrev B_u54q : Type := Bool
def p_u54q : PArgs := ⟨[.agg [.int .i64, .int .i64, .str, .view 4], .ptr [.fn (.func 33) []]], []⟩
def r_u54q : List PRes := [⟨false, .bool, []⟩]
abbrev GT_u54q : Type := Int → Int → (List UInt8) → (List AV) → Option B_u54q
def GH_u89q (G_u89q : GT_u89q) (G_u1q : GT_u1q) (G_u5q : GT_u5q) (G_u54q : GT_u54q) : Prop := FH IP 32 p_u89q r_u89q (fun (v : Int × Int × List UInt8 × List AV) => (G_u89q v.1 v.2.1 v.2.2.1 v.2.2.2 : Option B_u89q)) ∧ FH IP 43 p_u1q r_u1q (fun (v : List AV) => (G_u1q v : Option B_u1q)) ∧ FH IP 49 p_u5q r_u5q (fun (v : List AV) => (G_u5q v : Option B_u5q)) ∧ FH IP 44 p_u54q r_u54q (fun (v : Int × Int × List UInt8 × List AV) => (G_u54q v.1 v.2.1 v.2.2.1 v.2.2.2 : Option B_u54q))
noncomputable def TG_u89q (G_u89q : GT_u89q) (G_u1q : GT_u1q) (G_u5q : GT_u5q) (G_u54q : GT_u54q) : Tab := (32, FE p_u89q r_u89q (fun (v : Int × Int × List UInt8 × List AV) => (G_u89q v.1 v.2.1 v.2.2.1 v.2.2.2 : Option B_u89q))) :: (43, FE p_u1q r_u1q (fun (v : List AV) => (G_u1q v : Option B_u1q))) :: (49, FE p_u5q r_u5q (fun (v : List AV) => (G_u5q v : Option B_u5q))) :: (44, FE p_u54q r_u54q (fun (v : Int × Int × List UInt8 × List AV) => (G_u54q v.1 v.2.1 v.2.2.1 v.2.2.2 : Option B_u54q))) :: T5
theorem TG_u89q_ok (G_u89q : GT_u89q) (G_u1q : GT_u1q) (G_u5q : GT_u5q) (G_u54q : GT_u54q) (hG : GH_u89q G_u89q G_u1q G_u5q G_u54q) : TabOk IP (TG_u89q G_u89q G_u1q G_u5q G_u54q) := ⟨FE_ok (hG.1), FE_ok (hG.2.1), FE_ok (hG.2.2.1), FE_ok (hG.2.2.2), T5_ok⟩
abbrev TT_u3q : Type := List AV × Int × Int
def hs_u3q : List PSt := [⟨[(1004900, .junk), (0, .view 4), (1, .fn (.func 44) [.ptr [.fn (.func 33) []]]), (7, .int .i64), (8, .int .i64)], [], 0, 0⟩]
noncomputable def x_u3q_0 (x0 : List AV) (x1 : Int) (x2 : Int) : X × St := (X.ret, { tm := [(4, AV.int IntKind.i64 x2)], hp := [], nx := 0, k := 0 })
noncomputable def x_u3q_1 (x0 : List AV) (x1 : Int) (x2 : Int) : X × St := (X.exit 0, { tm := [(4, AV.junk)], hp := [], nx := 0, k := 0 })
noncomputable def x_u3q : List (TT_u3q → X × St) := [fun w => x_u3q_0 w.1 w.2.1 w.2.2, fun w => x_u3q_1 w.1 w.2.1 w.2.2]
noncomputable def st_u3q_0 (G_u89q : GT_u89q) (G_u1q : GT_u1q) (G_u5q : GT_u5q) (G_u54q : GT_u54q) (x0 : List AV) (x1 : Int) (x2 : Int) : DT (Rd TT_u3q) :=
 .br (decide (x2 < x1))
  (.br (okAt [CS.int IntKind.i64, CS.int IntKind.i64, CS.str, CS.slice 4] x0 x2)
   (.bi (G_u54q (intOf (cellAt x0 x2 0)) (intOf (cellAt x0 x2 1)) (strOf (cellAt x0 x2 2)) (viewOf (cellAt x0 x2 3))) (fun y0 =>
    .br (y0) (.at (.done 0)) (.at (.next ((x0, x1, IntKind.i64.wrap (x2 + 1))))))
    (.no))
   (.no))
  (.at (.done 1))
noncomputable def st_u3q (G_u89q : GT_u89q) (G_u1q : GT_u1q) (G_u5q : GT_u5q) (G_u54q : GT_u54q) : TT_u3q → DT (Rd TT_u3q) := (fun v => st_u3q_0 G_u89q G_u1q G_u5q G_u54q v.1 v.2.1 v.2.2)
noncomputable def l_u3q (G_u89q : GT_u89q) (G_u1q : GT_u1q) (G_u5q : GT_u5q) (G_u54q : GT_u54q) (v : TT_u3q) : Option (Nat × TT_u3q) := lock (iterO (fun v => (st_u3q G_u89q G_u1q G_u5q G_u54q v).ev) v)
theorem l_u3q_eq (G_u89q : GT_u89q) (G_u1q : GT_u1q) (G_u5q : GT_u5q) (G_u54q : GT_u54q) (v : TT_u3q) : l_u3q G_u89q G_u1q G_u5q G_u54q v = iterO (fun v => (st_u3q G_u89q G_u1q G_u5q G_u54q v).ev) v := lock_eq _
noncomputable def ll_u3q (G_u89q : GT_u89q) (G_u1q : GT_u1q) (G_u5q : GT_u5q) (G_u54q : GT_u54q) : LEnt := LE (τ := TT_u3q) (hD hs_u3q) (l_u3q G_u89q G_u1q G_u5q G_u54q) x_u3q
theorem t_u3q (G_u89q : GT_u89q) (G_u1q : GT_u1q) (G_u5q : GT_u5q) (G_u54q : GT_u54q) (hG : GH_u89q G_u89q G_u1q G_u5q G_u54q) : Go.Eng.Told IP (loopAt F49 0).1 (loopAt F49 0).2 (ll_u3q G_u89q G_u1q G_u5q G_u54q) := loop_LE (inferInstance : Inhabited TT_u3q) (hs := hs_u3q) (st := st_u3q G_u89q G_u1q G_u5q G_u54q) (L := []) (TG_u89q_ok G_u89q G_u1q G_u5q G_u54q hG) (LOk_of (l := []) (by kernel_rfl) trivial) (l_u3q_eq G_u89q G_u1q G_u5q G_u54q) (fun v => by kernel_rfl) (fun v => by kernel_rfl)
noncomputable def tr_u89q (G_u89q : GT_u89q) (G_u1q : GT_u1q) (G_u5q : GT_u5q) (G_u54q : GT_u54q) (x0 : Int) (x1 : Int) (x2 : List UInt8) (x3 : List AV) : DT B_u89q :=
 .bi (f_u72q x0 x1 x2 x3) (fun y0 =>
  .bi (br y0 (br (sm (G_u1q x3)) (some !gv (G_u1q x3)) none) (some false)) (fun y1 =>
   .at (y1))
   (.no))
  (.no)
noncomputable def tr_u1q (G_u89q : GT_u89q) (G_u1q : GT_u1q) (G_u5q : GT_u5q) (G_u54q : GT_u54q) (x0 : List AV) : DT B_u1q :=
 .bi (G_u5q x0) (fun y0 =>
  .at (decide (y0 ≥ 0)))
  (.no)
noncomputable def tr_u5q (G_u89q : GT_u89q) (G_u1q : GT_u1q) (G_u5q : GT_u5q) (G_u54q : GT_u54q) (x0 : List AV) : DT B_u5q :=
 .bi (pj 0
     (l_u3q G_u89q G_u1q G_u5q G_u54q (x0, (↑x0.length : Int), 0))) (fun y0 =>
  .at (y0.snd.snd))
  (.bi (pj 1
      (l_u3q G_u89q G_u1q G_u5q G_u54q (x0, (↑x0.length : Int), 0))) (fun y0 =>
   .at (-1))
   (.no))
noncomputable def tr_u54q (G_u89q : GT_u89q) (G_u1q : GT_u1q) (G_u5q : GT_u5q) (G_u54q : GT_u54q) (x0 : Int) (x1 : Int) (x2 : List UInt8) (x3 : List AV) : DT B_u54q :=
 .bi (G_u89q x0 x1 x2 x3) (fun y0 =>
  .at (!y0))
  (.no)
noncomputable def N_u89q : Nat → GT_u89q × GT_u1q × GT_u5q × GT_u54q
  | 0 => (fun _ _ _ _ => none, fun _ => none, fun _ => none, fun _ _ _ _ => none)
  | n + 1 => (fun x0 x1 x2 x3 => (tr_u89q ((N_u89q n).1) ((N_u89q n).2.1) ((N_u89q n).2.2.1) ((N_u89q n).2.2.2) x0 x1 x2 x3).ev, fun x0 => (tr_u1q ((N_u89q n).1) ((N_u89q n).2.1) ((N_u89q n).2.2.1) ((N_u89q n).2.2.2) x0).ev, fun x0 => (tr_u5q ((N_u89q n).1) ((N_u89q n).2.1) ((N_u89q n).2.2.1) ((N_u89q n).2.2.2) x0).ev, fun x0 x1 x2 x3 => (tr_u54q ((N_u89q n).1) ((N_u89q n).2.1) ((N_u89q n).2.2.1) ((N_u89q n).2.2.2) x0 x1 x2 x3).ev)
noncomputable def f_u89q (x0 : Int) (x1 : Int) (x2 : List UInt8) (x3 : List AV) : Option B_u89q := limO fun n => (N_u89q n).1 x0 x1 x2 x3
noncomputable def f_u1q (x0 : List AV) : Option B_u1q := limO fun n => (N_u89q n).2.1 x0
noncomputable def f_u5q (x0 : List AV) : Option B_u5q := limO fun n => (N_u89q n).2.2.1 x0
noncomputable def f_u54q (x0 : Int) (x1 : Int) (x2 : List UInt8) (x3 : List AV) : Option B_u54q := limO fun n => (N_u89q n).2.2.2 x0 x1 x2 x3
theorem N_u89q_ok : ∀ n, GH_u89q ((N_u89q n).1) ((N_u89q n).2.1) ((N_u89q n).2.2.1) ((N_u89q n).2.2.2)
  | 0 => ⟨(fun v y h => nomatch h), (fun v y h => nomatch h), (fun v y h => nomatch h), (fun v y h => nomatch h)⟩
  | n + 1 => have hG := N_u89q_ok n
    ⟨fun_FH (F := F32) (L := []) (t := fun (v : Int × Int × List UInt8 × List AV) => tr_u89q ((N_u89q n).1) ((N_u89q n).2.1) ((N_u89q n).2.2.1) ((N_u89q n).2.2.2) v.1 v.2.1 v.2.2.1 v.2.2.2) (TG_u89q_ok ((N_u89q n).1) ((N_u89q n).2.1) ((N_u89q n).2.2.1) ((N_u89q n).2.2.2) hG) (LOk_of (l := []) (by kernel_rfl) trivial) (by kernel_rfl) (fun v => by kernel_rfl) (fun v => rfl), fun_FH (F := F43) (L := []) (t := fun (v : List AV) => tr_u1q ((N_u89q n).1) ((N_u89q n).2.1) ((N_u89q n).2.2.1) ((N_u89q n).2.2.2) v) (TG_u89q_ok ((N_u89q n).1) ((N_u89q n).2.1) ((N_u89q n).2.2.1) ((N_u89q n).2.2.2) hG) (LOk_of (l := []) (by kernel_rfl) trivial) (by kernel_rfl) (fun v => by kernel_rfl) (fun v => rfl), fun_FH (F := F49) (L := [(1004900, ll_u3q ((N_u89q n).1) ((N_u89q n).2.1) ((N_u89q n).2.2.1) ((N_u89q n).2.2.2))]) (t := fun (v : List AV) => tr_u5q ((N_u89q n).1) ((N_u89q n).2.1) ((N_u89q n).2.2.1) ((N_u89q n).2.2.2) v) (TG_u89q_ok ((N_u89q n).1) ((N_u89q n).2.1) ((N_u89q n).2.2.1) ((N_u89q n).2.2.2) hG) (LOk_of (l := [loopAt F49 0]) (by kernel_rfl) ⟨sel_one (by kernel_rfl) (t_u3q ((N_u89q n).1) ((N_u89q n).2.1) ((N_u89q n).2.2.1) ((N_u89q n).2.2.2) hG), trivial⟩) (by kernel_rfl) (fun v => by kernel_rfl) (fun v => rfl), fun_FH (F := F44) (L := []) (t := fun (v : Int × Int × List UInt8 × List AV) => tr_u54q ((N_u89q n).1) ((N_u89q n).2.1) ((N_u89q n).2.2.1) ((N_u89q n).2.2.2) v.1 v.2.1 v.2.2.1 v.2.2.2) (TG_u89q_ok ((N_u89q n).1) ((N_u89q n).2.1) ((N_u89q n).2.2.1) ((N_u89q n).2.2.2) hG) (LOk_of (l := []) (by kernel_rfl) trivial) (by kernel_rfl) (fun v => by kernel_rfl) (fun v => rfl)⟩
theorem c_u89q : FH IP 32 p_u89q r_u89q (fun (v : Int × Int × List UInt8 × List AV) => (f_u89q v.1 v.2.1 v.2.2.1 v.2.2.2 : Option B_u89q)) := lim_FH (p := p_u89q) (rs := r_u89q) (s := fun n (v : Int × Int × List UInt8 × List AV) => (N_u89q n).1 v.1 v.2.1 v.2.2.1 v.2.2.2) fun n => (N_u89q_ok n).1
theorem c_u1q : FH IP 43 p_u1q r_u1q (fun (v : List AV) => (f_u1q v : Option B_u1q)) := lim_FH (p := p_u1q) (rs := r_u1q) (s := fun n (v : List AV) => (N_u89q n).2.1 v) fun n => (N_u89q_ok n).2.1
theorem c_u5q : FH IP 49 p_u5q r_u5q (fun (v : List AV) => (f_u5q v : Option B_u5q)) := lim_FH (p := p_u5q) (rs := r_u5q) (s := fun n (v : List AV) => (N_u89q n).2.2.1 v) fun n => (N_u89q_ok n).2.2.1
theorem c_u54q : FH IP 44 p_u54q r_u54q (fun (v : Int × Int × List UInt8 × List AV) => (f_u54q v.1 v.2.1 v.2.2.1 v.2.2.2 : Option B_u54q)) := lim_FH (p := p_u54q) (rs := r_u54q) (s := fun n (v : Int × Int × List UInt8 × List AV) => (N_u89q n).2.2.2 v.1 v.2.1 v.2.2.1 v.2.2.2) fun n => (N_u89q_ok n).2.2.2
noncomputable def T6 : Tab := (32, FE p_u89q r_u89q (fun (v : Int × Int × List UInt8 × List AV) => (f_u89q v.1 v.2.1 v.2.2.1 v.2.2.2 : Option B_u89q))) :: T5
theorem T6_ok : TabOk IP T6 := ⟨FE_ok c_u89q, T5_ok⟩
noncomputable def T7 : Tab := (43, FE p_u1q r_u1q (fun (v : List AV) => (f_u1q v : Option B_u1q))) :: T6
theorem T7_ok : TabOk IP T7 := ⟨FE_ok c_u1q, T6_ok⟩
noncomputable def T8 : Tab := (49, FE p_u5q r_u5q (fun (v : List AV) => (f_u5q v : Option B_u5q))) :: T7
theorem T8_ok : TabOk IP T8 := ⟨FE_ok c_u5q, T7_ok⟩
noncomputable def T9 : Tab := (44, FE p_u54q r_u54q (fun (v : Int × Int × List UInt8 × List AV) => (f_u54q v.1 v.2.1 v.2.2.1 v.2.2.2 : Option B_u54q))) :: T8
theorem T9_ok : TabOk IP T9 := ⟨FE_ok c_u54q, T8_ok⟩
abbrev B_u32q : Type := Bool
def p_u32q : PArgs := ⟨[.int .i32], []⟩
def r_u32q : List PRes := [⟨false, .bool, []⟩]
noncomputable def tr_u32q (x0 : Int) : DT B_u32q :=
 .at (x0 != 10)
noncomputable def f_u32q (x0 : Int) : Option B_u32q := lock (tr_u32q x0).ev
theorem f_u32q_eq (x0 : Int) : f_u32q x0 = (tr_u32q x0).ev := lock_eq _
theorem c_u32q : FH IP 58 p_u32q r_u32q (fun (v : Int) => (f_u32q v : Option B_u32q)) := fun_FH (F := F58) (L := []) (t := fun (v : Int) => tr_u32q v) T9_ok (LOk_of (l := []) (by kernel_rfl) trivial) (by kernel_rfl) (fun v => by kernel_rfl) (fun v => f_u32q_eq v)
noncomputable def T10 : Tab := (58, FE p_u32q r_u32q (fun (v : Int) => (f_u32q v : Option B_u32q))) :: T9
theorem T10_ok : TabOk IP T10 := ⟨FE_ok c_u32q, T9_ok⟩
abbrev TT_u34q : Type := List UInt8 × Int
def hs_u34q : List PSt := [⟨[(1005700, .junk), (0, .str), (1, .fn (.func 58) []), (5, .int .i64)], [], 0, 0⟩]
noncomputable def x_u34q_0 (x0 : List UInt8) (x1 : Int) : X × St := (X.exit 0, { tm := [(0, AV.str x0), (5, AV.int IntKind.i64 x1)], hp := [], nx := 0, k := 0 })
noncomputable def x_u34q : List (TT_u34q → X × St) := [fun w => x_u34q_0 w.1 w.2]
noncomputable def st_u34q_0 (x0 : List UInt8) (x1 : Int) : DT (Rd TT_u34q) :=
 .bi (br (decide (x1 < (↑x0.length : Int)))
     (br (inB x0.length x1) (br (sm (f_u32q (IntKind.i32.wrap (byteAt x0 x1)))) (some (gv (f_u32q (IntKind.i32.wrap (byteAt x0 x1))))) none) none) (some false)) (fun y0 =>
  .br (y0) (.at (.next ((x0, IntKind.i64.wrap (x1 + 1))))) (.at (.done 0)))
  (.no)
noncomputable def st_u34q : TT_u34q → DT (Rd TT_u34q) := (fun v => st_u34q_0 v.1 v.2)
noncomputable def l_u34q (v : TT_u34q) : Option (Nat × TT_u34q) := lock (iterO (fun v => (st_u34q v).ev) v)
theorem l_u34q_eq (v : TT_u34q) : l_u34q v = iterO (fun v => (st_u34q v).ev) v := lock_eq _
noncomputable def ll_u34q : LEnt := LE (τ := TT_u34q) (hD hs_u34q) (l_u34q) x_u34q
theorem t_u34q : Go.Eng.Told IP (loopAt F57 0).1 (loopAt F57 0).2 (ll_u34q) := loop_LE (inferInstance : Inhabited TT_u34q) (hs := hs_u34q) (st := st_u34q) (L := []) T10_ok (LOk_of (l := []) (by kernel_rfl) trivial) (l_u34q_eq) (fun v => by kernel_rfl) (fun v => by kernel_rfl)
abbrev B_u61q : Type := List UInt8
def p_u61q : PArgs := ⟨[.str, .fn (.func 58) []], []⟩
def r_u61q : List PRes := [⟨false, .str, []⟩]
noncomputable def tr_u61q (x0 : List UInt8) : DT B_u61q :=
 .bi (pj 0 (l_u34q (x0, 0))) (fun y0 =>
  .br (leB y0.snd y0.fst.length && true) (.at (List.take y0.snd.toNat y0.fst)) (.no))
  (.no)
noncomputable def f_u61q (x0 : List UInt8) : Option B_u61q := lock (tr_u61q x0).ev
theorem f_u61q_eq (x0 : List UInt8) : f_u61q x0 = (tr_u61q x0).ev := lock_eq _
theorem c_u61q : FH IP 57 p_u61q r_u61q (fun (v : List UInt8) => (f_u61q v : Option B_u61q)) := fun_FH (F := F57) (L := [(1005700, ll_u34q)]) (t := fun (v : List UInt8) => tr_u61q v) T10_ok (LOk_of (l := [loopAt F57 0]) (by kernel_rfl) ⟨sel_one (by kernel_rfl) t_u34q, trivial⟩) (by kernel_rfl) (fun v => by kernel_rfl) (fun v => f_u61q_eq v)
noncomputable def T11 : Tab := (57, FE p_u61q r_u61q (fun (v : List UInt8) => (f_u61q v : Option B_u61q))) :: T10
theorem T11_ok : TabOk IP T11 := ⟨FE_ok c_u61q, T10_ok⟩
abbrev TT_u31q : Type := List UInt8 × Int
def hs_u31q : List PSt := [⟨[(1005300, .junk), (0, .str), (3, .int .i64)], [], 0, 0⟩]
noncomputable def x_u31q_0 (x0 : List UInt8) (x1 : Int) : X × St := (X.ret, { tm := [(2, AV.int IntKind.i64 x1), (3, AV.int IntKind.i64 x1)], hp := [], nx := 0, k := 0 })
noncomputable def x_u31q_1 (x0 : List UInt8) (x1 : Int) : X × St := (X.exit 0, { tm := [(2, AV.junk), (3, AV.int IntKind.i64 x1)], hp := [], nx := 0, k := 0 })
noncomputable def x_u31q : List (TT_u31q → X × St) := [fun w => x_u31q_0 w.1 w.2, fun w => x_u31q_1 w.1 w.2]
noncomputable def st_u31q_0 (x0 : List UInt8) (x1 : Int) : DT (Rd TT_u31q) :=
 .br (decide (x1 < (↑x0.length : Int)))
  (.br (inB x0.length x1)
   (.br (byteAt x0 x1 == 32)
    (.br (byteAt x0 x1 == 32)
     (.at (.next ((x0, IntKind.i64.wrap (x1 + 1)))))
     (.br (byteAt x0 x1 == 35)
      (.br (leB x1 x0.length)
       (.bi (f_u61q (List.drop x1.toNat x0)) (fun y0 =>
        .at (.next ((x0, IntKind.i64.wrap (x1 + (↑y0.length : Int))))))
        (.no))
       (.no))
      (.at (.done 0))))
    (.br (byteAt x0 x1 == 9)
     (.br (byteAt x0 x1 == 9)
      (.at (.next ((x0, IntKind.i64.wrap (x1 + 1)))))
      (.br (byteAt x0 x1 == 35)
       (.br (leB x1 x0.length)
        (.bi (f_u61q (List.drop x1.toNat x0)) (fun y0 =>
         .at (.next ((x0, IntKind.i64.wrap (x1 + (↑y0.length : Int))))))
         (.no))
        (.no))
       (.at (.done 0))))
     (.br (byteAt x0 x1 == 10)
      (.at (.next ((x0, IntKind.i64.wrap (x1 + 1)))))
      (.br (byteAt x0 x1 == 35)
       (.br (leB x1 x0.length)
        (.bi (f_u61q (List.drop x1.toNat x0)) (fun y0 =>
         .at (.next ((x0, IntKind.i64.wrap (x1 + (↑y0.length : Int))))))
         (.no))
        (.no))
       (.at (.done 0))))))
   (.no))
  (.at (.done 1))
noncomputable def st_u31q : TT_u31q → DT (Rd TT_u31q) := (fun v => st_u31q_0 v.1 v.2)
noncomputable def l_u31q (v : TT_u31q) : Option (Nat × TT_u31q) := lock (iterO (fun v => (st_u31q v).ev) v)
theorem l_u31q_eq (v : TT_u31q) : l_u31q v = iterO (fun v => (st_u31q v).ev) v := lock_eq _
noncomputable def ll_u31q : LEnt := LE (τ := TT_u31q) (hD hs_u31q) (l_u31q) x_u31q
theorem t_u31q : Go.Eng.Told IP (loopAt F53 0).1 (loopAt F53 0).2 (ll_u31q) := loop_LE (inferInstance : Inhabited TT_u31q) (hs := hs_u31q) (st := st_u31q) (L := []) T11_ok (LOk_of (l := []) (by kernel_rfl) trivial) (l_u31q_eq) (fun v => by kernel_rfl) (fun v => by kernel_rfl)
abbrev B_u56q : Type := Int
def p_u56q : PArgs := ⟨[.str], []⟩
def r_u56q : List PRes := [⟨false, .int .i64, []⟩]
noncomputable def tr_u56q (x0 : List UInt8) : DT B_u56q :=
 .bi (pj 0 (l_u31q (x0, 0))) (fun y0 =>
  .at (y0.snd))
  (.bi (pj 1 (l_u31q (x0, 0))) (fun y0 =>
   .at (y0.snd))
   (.no))
noncomputable def f_u56q (x0 : List UInt8) : Option B_u56q := lock (tr_u56q x0).ev
theorem f_u56q_eq (x0 : List UInt8) : f_u56q x0 = (tr_u56q x0).ev := lock_eq _
theorem c_u56q : FH IP 53 p_u56q r_u56q (fun (v : List UInt8) => (f_u56q v : Option B_u56q)) := fun_FH (F := F53) (L := [(1005300, ll_u31q)]) (t := fun (v : List UInt8) => tr_u56q v) T11_ok (LOk_of (l := [loopAt F53 0]) (by kernel_rfl) ⟨sel_one (by kernel_rfl) t_u31q, trivial⟩) (by kernel_rfl) (fun v => by kernel_rfl) (fun v => f_u56q_eq v)
noncomputable def T12 : Tab := (53, FE p_u56q r_u56q (fun (v : List UInt8) => (f_u56q v : Option B_u56q))) :: T11
theorem T12_ok : TabOk IP T12 := ⟨FE_ok c_u56q, T11_ok⟩
abbrev B_u58q : Type := Bool
def p_u58q : PArgs := ⟨[.int .i32], []⟩
def r_u58q : List PRes := [⟨false, .bool, []⟩]
noncomputable def tr_u58q (x0 : Int) : DT B_u58q :=
 .bi (br (decide (x0 ≥ 97)) (some (decide (x0 ≤ 122))) (some false)) (fun y0 =>
  .at (y0))
  (.no)
noncomputable def f_u58q (x0 : Int) : Option B_u58q := lock (tr_u58q x0).ev
theorem f_u58q_eq (x0 : Int) : f_u58q x0 = (tr_u58q x0).ev := lock_eq _
theorem c_u58q : FH IP 62 p_u58q r_u58q (fun (v : Int) => (f_u58q v : Option B_u58q)) := fun_FH (F := F62) (L := []) (t := fun (v : Int) => tr_u58q v) T12_ok (LOk_of (l := []) (by kernel_rfl) trivial) (by kernel_rfl) (fun v => by kernel_rfl) (fun v => f_u58q_eq v)
noncomputable def T13 : Tab := (62, FE p_u58q r_u58q (fun (v : Int) => (f_u58q v : Option B_u58q))) :: T12
theorem T13_ok : TabOk IP T13 := ⟨FE_ok c_u58q, T12_ok⟩
abbrev B_u74q : Type := Bool
def p_u74q : PArgs := ⟨[.int .i32], []⟩
def r_u74q : List PRes := [⟨false, .bool, []⟩]
noncomputable def tr_u74q (x0 : Int) : DT B_u74q :=
 .bi (br (decide (x0 ≥ 48)) (some (decide (x0 ≤ 57))) (some false)) (fun y0 =>
  .at (y0))
  (.no)
noncomputable def f_u74q (x0 : Int) : Option B_u74q := lock (tr_u74q x0).ev
theorem f_u74q_eq (x0 : Int) : f_u74q x0 = (tr_u74q x0).ev := lock_eq _
theorem c_u74q : FH IP 65 p_u74q r_u74q (fun (v : Int) => (f_u74q v : Option B_u74q)) := fun_FH (F := F65) (L := []) (t := fun (v : Int) => tr_u74q v) T13_ok (LOk_of (l := []) (by kernel_rfl) trivial) (by kernel_rfl) (fun v => by kernel_rfl) (fun v => f_u74q_eq v)
noncomputable def T14 : Tab := (65, FE p_u74q r_u74q (fun (v : Int) => (f_u74q v : Option B_u74q))) :: T13
theorem T14_ok : TabOk IP T14 := ⟨FE_ok c_u74q, T13_ok⟩
abbrev B_u57q : Type := Bool
def p_u57q : PArgs := ⟨[.int .i32], []⟩
def r_u57q : List PRes := [⟨false, .bool, []⟩]
noncomputable def tr_u57q (x0 : Int) : DT B_u57q :=
 .bi (f_u58q x0) (fun y0 =>
  .bi (br y0 (some true) (br (sm (f_u74q x0)) (some (gv (f_u74q x0))) none)) (fun y1 =>
   .bi (br y1 (some true) (some (x0 == 95))) (fun y2 =>
    .at (y2))
    (.no))
   (.no))
  (.no)
noncomputable def f_u57q (x0 : Int) : Option B_u57q := lock (tr_u57q x0).ev
theorem f_u57q_eq (x0 : Int) : f_u57q x0 = (tr_u57q x0).ev := lock_eq _
theorem c_u57q : FH IP 63 p_u57q r_u57q (fun (v : Int) => (f_u57q v : Option B_u57q)) := fun_FH (F := F63) (L := []) (t := fun (v : Int) => tr_u57q v) T14_ok (LOk_of (l := []) (by kernel_rfl) trivial) (by kernel_rfl) (fun v => by kernel_rfl) (fun v => f_u57q_eq v)
noncomputable def T15 : Tab := (63, FE p_u57q r_u57q (fun (v : Int) => (f_u57q v : Option B_u57q))) :: T14
theorem T15_ok : TabOk IP T15 := ⟨FE_ok c_u57q, T14_ok⟩
abbrev TT_u23q : Type := List UInt8 × Int
def hs_u23q : List PSt := [⟨[(1005700, .junk), (0, .str), (1, .fn (.func 63) []), (5, .int .i64)], [], 0, 0⟩]
noncomputable def x_u23q_0 (x0 : List UInt8) (x1 : Int) : X × St := (X.exit 0, { tm := [(0, AV.str x0), (5, AV.int IntKind.i64 x1)], hp := [], nx := 0, k := 0 })
noncomputable def x_u23q : List (TT_u23q → X × St) := [fun w => x_u23q_0 w.1 w.2]
noncomputable def st_u23q_0 (x0 : List UInt8) (x1 : Int) : DT (Rd TT_u23q) :=
 .bi (br (decide (x1 < (↑x0.length : Int)))
     (br (inB x0.length x1) (br (sm (f_u57q (IntKind.i32.wrap (byteAt x0 x1)))) (some (gv (f_u57q (IntKind.i32.wrap (byteAt x0 x1))))) none) none) (some false)) (fun y0 =>
  .br (y0) (.at (.next ((x0, IntKind.i64.wrap (x1 + 1))))) (.at (.done 0)))
  (.no)
noncomputable def st_u23q : TT_u23q → DT (Rd TT_u23q) := (fun v => st_u23q_0 v.1 v.2)
noncomputable def l_u23q (v : TT_u23q) : Option (Nat × TT_u23q) := lock (iterO (fun v => (st_u23q v).ev) v)
theorem l_u23q_eq (v : TT_u23q) : l_u23q v = iterO (fun v => (st_u23q v).ev) v := lock_eq _
noncomputable def ll_u23q : LEnt := LE (τ := TT_u23q) (hD hs_u23q) (l_u23q) x_u23q
theorem t_u23q : Go.Eng.Told IP (loopAt F57 0).1 (loopAt F57 0).2 (ll_u23q) := loop_LE (inferInstance : Inhabited TT_u23q) (hs := hs_u23q) (st := st_u23q) (L := []) T15_ok (LOk_of (l := []) (by kernel_rfl) trivial) (l_u23q_eq) (fun v => by kernel_rfl) (fun v => by kernel_rfl)
abbrev B_u40q : Type := List UInt8
def p_u40q : PArgs := ⟨[.str, .fn (.func 63) []], []⟩
def r_u40q : List PRes := [⟨false, .str, []⟩]
noncomputable def tr_u40q (x0 : List UInt8) : DT B_u40q :=
 .bi (pj 0 (l_u23q (x0, 0))) (fun y0 =>
  .br (leB y0.snd y0.fst.length && true) (.at (List.take y0.snd.toNat y0.fst)) (.no))
  (.no)
noncomputable def f_u40q (x0 : List UInt8) : Option B_u40q := lock (tr_u40q x0).ev
theorem f_u40q_eq (x0 : List UInt8) : f_u40q x0 = (tr_u40q x0).ev := lock_eq _
theorem c_u40q : FH IP 57 p_u40q r_u40q (fun (v : List UInt8) => (f_u40q v : Option B_u40q)) := fun_FH (F := F57) (L := [(1005700, ll_u23q)]) (t := fun (v : List UInt8) => tr_u40q v) T15_ok (LOk_of (l := [loopAt F57 0]) (by kernel_rfl) ⟨sel_one (by kernel_rfl) t_u23q, trivial⟩) (by kernel_rfl) (fun v => by kernel_rfl) (fun v => f_u40q_eq v)
noncomputable def T16 : Tab := (57, FE p_u40q r_u40q (fun (v : List UInt8) => (f_u40q v : Option B_u40q))) :: T15
theorem T16_ok : TabOk IP T16 := ⟨FE_ok c_u40q, T15_ok⟩
abbrev B_u76q : Type := List AV
def p_u76q : PArgs := ⟨[], []⟩
def r_u76q : List PRes := [⟨false, .view 1, []⟩]
noncomputable def tr_u76q : DT B_u76q :=
 .at ([AV.str ([] ++ [112] ++ [114] ++ [111] ++ [100] ++ [117] ++ [99] ++ [116]), AV.str ([] ++ [99] ++ [117] ++ [114] ++ [114] ++ [101] ++ [110] ++ [99] ++ [121]),
  AV.str ([] ++ [99] ++ [97] ++ [108] ++ [101] ++ [110] ++ [100] ++ [97] ++ [114]), AV.str ([] ++ [102] ++ [114] ++ [111] ++ [109]),
  AV.str ([] ++ [101] ++ [118] ++ [101] ++ [114] ++ [121]), AV.str ([] ++ [111] ++ [118] ++ [101] ++ [114] ++ [100] ++ [114] ++ [97] ++ [102] ++ [116]),
  AV.str ([] ++ [116] ++ [97] ++ [120]), AV.str ([] ++ [99] ++ [114] ++ [101] ++ [100] ++ [105] ++ [116]), AV.str ([] ++ [100] ++ [101] ++ [98] ++ [105] ++ [116]),
  AV.str ([] ++ [109] ++ [97] ++ [114] ++ [103] ++ [105] ++ [110] ++ [97] ++ [108]), AV.str ([] ++ [119] ++ [104] ++ [111] ++ [108] ++ [101]),
  AV.str ([] ++ [97] ++ [99] ++ [116] ++ [51] ++ [54] ++ [48]), AV.str ([] ++ [97] ++ [99] ++ [116] ++ [51] ++ [54] ++ [53]),
  AV.str ([] ++ [97] ++ [99] ++ [116] ++ [117] ++ [97] ++ [108]), AV.str ([] ++ [116] ++ [104] ++ [105] ++ [114] ++ [116] ++ [121]),
  AV.str ([] ++ [100] ++ [111] ++ [119] ++ [110]), AV.str ([] ++ [117] ++ [112]), AV.str ([] ++ [102] ++ [108] ++ [111] ++ [111] ++ [114]),
  AV.str ([] ++ [99] ++ [101] ++ [105] ++ [108]), AV.str ([] ++ [104] ++ [97] ++ [108] ++ [102] ++ [95] ++ [117] ++ [112]),
  AV.str ([] ++ [104] ++ [97] ++ [108] ++ [102] ++ [95] ++ [101] ++ [118] ++ [101] ++ [110]), AV.str ([] ++ [107] ++ [101] ++ [101] ++ [112]),
  AV.str ([] ++ [100] ++ [114] ++ [111] ++ [112]), AV.str ([] ++ [102] ++ [101] ++ [101]), AV.str ([] ++ [108] ++ [105] ++ [109] ++ [105] ++ [116]),
  AV.str ([] ++ [119] ++ [104] ++ [101] ++ [110]), AV.str ([] ++ [97] ++ [109] ++ [111] ++ [117] ++ [110] ++ [116] ++ [95] ++ [111] ++ [102]),
  AV.str ([] ++ [115] ++ [105] ++ [110] ++ [103] ++ [108] ++ [101]), AV.str ([] ++ [100] ++ [97] ++ [105] ++ [108] ++ [121]),
  AV.str ([] ++ [109] ++ [111] ++ [110] ++ [116] ++ [104] ++ [108] ++ [121]), AV.str ([] ++ [109] ++ [111] ++ [110] ++ [116] ++ [104]),
  AV.str ([] ++ [114] ++ [101] ++ [116] ++ [117] ++ [114] ++ [110]), AV.str ([] ++ [99] ++ [108] ++ [111] ++ [115] ++ [101]),
  AV.str ([] ++ [101] ++ [118] ++ [101] ++ [110] ++ [116]), AV.str ([] ++ [105] ++ [102]), AV.str ([] ++ [116] ++ [104] ++ [101] ++ [110]),
  AV.str ([] ++ [101] ++ [108] ++ [115] ++ [101]), AV.str ([] ++ [97] ++ [110] ++ [100]), AV.str ([] ++ [111] ++ [114]), AV.str ([] ++ [110] ++ [111] ++ [116]),
  AV.str ([] ++ [109] ++ [105] ++ [110]), AV.str ([] ++ [109] ++ [97] ++ [120])])
noncomputable def f_u76q : Option B_u76q := lock (tr_u76q).ev
theorem f_u76q_eq : f_u76q = (tr_u76q).ev := lock_eq _
theorem c_u76q : FH IP 72 p_u76q r_u76q (fun (v : Unit) => (f_u76q : Option B_u76q)) := fun_FH (F := F72) (L := []) (t := fun (v : Unit) => tr_u76q) T16_ok (LOk_of (l := []) (by kernel_rfl) trivial) (by kernel_rfl) (fun v => by kernel_rfl) (fun v => f_u76q_eq)
noncomputable def T17 : Tab := (72, FE p_u76q r_u76q (fun (v : Unit) => (f_u76q : Option B_u76q))) :: T16
theorem T17_ok : TabOk IP T17 := ⟨FE_ok c_u76q, T16_ok⟩
abbrev TT_u10q : Type := List AV × List UInt8 × Int × Int
def hs_u10q : List PSt := [⟨[(1008200, .junk), (0, .view 1), (1, .str), (7, .int .i64), (8, .int .i64)], [], 0, 0⟩]
noncomputable def x_u10q_0 (x0 : List AV) (x1 : List UInt8) (x2 : Int) (x3 : Int) : X × St := (X.ret, { tm := [(4, AV.int IntKind.i64 x3)], hp := [], nx := 0, k := 0 })
noncomputable def x_u10q_1 (x0 : List AV) (x1 : List UInt8) (x2 : Int) (x3 : Int) : X × St := (X.exit 0, { tm := [(4, AV.junk)], hp := [], nx := 0, k := 0 })
noncomputable def x_u10q : List (TT_u10q → X × St) := [fun w => x_u10q_0 w.1 w.2.1 w.2.2.1 w.2.2.2, fun w => x_u10q_1 w.1 w.2.1 w.2.2.1 w.2.2.2]
noncomputable def st_u10q_0 (x0 : List AV) (x1 : List UInt8) (x2 : Int) (x3 : Int) : DT (Rd TT_u10q) :=
 .br (decide (x3 < x2))
  (.br (okAt [CS.str] x0 x3)
   (.br (x1 == strOf (cellAt x0 x3 0)) (.at (.done 0)) (.at (.next ((x0, x1, x2, IntKind.i64.wrap (x3 + 1))))))
   (.no))
  (.at (.done 1))
noncomputable def st_u10q : TT_u10q → DT (Rd TT_u10q) := (fun v => st_u10q_0 v.1 v.2.1 v.2.2.1 v.2.2.2)
noncomputable def l_u10q (v : TT_u10q) : Option (Nat × TT_u10q) := lock (iterO (fun v => (st_u10q v).ev) v)
theorem l_u10q_eq (v : TT_u10q) : l_u10q v = iterO (fun v => (st_u10q v).ev) v := lock_eq _
noncomputable def ll_u10q : LEnt := LE (τ := TT_u10q) (hD hs_u10q) (l_u10q) x_u10q
theorem t_u10q : Go.Eng.Told IP (loopAt F82 0).1 (loopAt F82 0).2 (ll_u10q) := loop_LE (inferInstance : Inhabited TT_u10q) (hs := hs_u10q) (st := st_u10q) (L := []) T17_ok (LOk_of (l := []) (by kernel_rfl) trivial) (l_u10q_eq) (fun v => by kernel_rfl) (fun v => by kernel_rfl)
abbrev B_u12q : Type := Int
def p_u12q : PArgs := ⟨[.view 1, .str], []⟩
def r_u12q : List PRes := [⟨false, .int .i64, []⟩]
noncomputable def tr_u12q (x0 : List AV) (x1 : List UInt8) : DT B_u12q :=
 .bi (pj 0 (l_u10q (x0, x1, (↑x0.length : Int), 0))) (fun y0 =>
  .at (y0.snd.snd.snd))
  (.bi (pj 1 (l_u10q (x0, x1, (↑x0.length : Int), 0))) (fun y0 =>
   .at (-1))
   (.no))
noncomputable def f_u12q (x0 : List AV) (x1 : List UInt8) : Option B_u12q := lock (tr_u12q x0 x1).ev
theorem f_u12q_eq (x0 : List AV) (x1 : List UInt8) : f_u12q x0 x1 = (tr_u12q x0 x1).ev := lock_eq _
theorem c_u12q : FH IP 82 p_u12q r_u12q (fun (v : List AV × List UInt8) => (f_u12q v.1 v.2 : Option B_u12q)) := fun_FH (F := F82) (L := [(1008200, ll_u10q)]) (t := fun (v : List AV × List UInt8) => tr_u12q v.1 v.2) T17_ok (LOk_of (l := [loopAt F82 0]) (by kernel_rfl) ⟨sel_one (by kernel_rfl) t_u10q, trivial⟩) (by kernel_rfl) (fun v => by kernel_rfl) (fun v => f_u12q_eq v.1 v.2)
noncomputable def T18 : Tab := (82, FE p_u12q r_u12q (fun (v : List AV × List UInt8) => (f_u12q v.1 v.2 : Option B_u12q))) :: T17
theorem T18_ok : TabOk IP T18 := ⟨FE_ok c_u12q, T17_ok⟩
end Go.Proofs.H11

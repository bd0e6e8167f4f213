/- Functions over plain data. Printed by a program of mine. -/
import Derived.Test.YtlgbnjnkcoiceaaGreatDoorD12_1
import Derived.KernelRfl
set_option linter.unusedVariables false
set_option linter.unusedSimpArgs false
set_option linter.unnecessarySimpa false
namespace Go.Proofs.H12
open Go Go.Eng
set_option maxRecDepth 100000
noncomputable section
abbrev TT_u16q : Type := List AV × List UInt8 × Int × Int
def hs_u16q : List PSt := [⟨[(1013800, .junk), (0, .view 1), (1, .str), (7, .int .i64), (8, .int .i64)], [], 0, 0⟩]
def x_u16q_0 (x0 : List AV) (x1 : List UInt8) (x2 x3 : Int) : X × St := (X.ret, { tm := [(4, AV.int IntKind.i64 x3)], hp := [], nx := 0, k := 0 })
def x_u16q_1 (x0 : List AV) (x1 : List UInt8) (x2 x3 : Int) : X × St := (X.exit 0, { tm := [(4, AV.junk)], hp := [], nx := 0, k := 0 })
def x_u16q : List (TT_u16q → X × St) := [(k4 x_u16q_0), (k4 x_u16q_1)]
def st_u16q_0 (x0 : List AV) (x1 : List UInt8) (x2 x3 : Int) : DT (Rd TT_u16q) :=
 .br (decide (x3 < x2))
  (.br (okAt [CS.str] x0 x3)
   (.br (x1 == strOf (cellAt x0 x3 0)) (.at (.done 0)) (.at (.next ((x0, x1, x2, IntKind.i64.wrap (x3 + 1))))))
   (.no))
  (.at (.done 1))
def st_u16q : TT_u16q → DT (Rd TT_u16q) := (fun v => st_u16q_0 v.1 v.2.1 v.2.2.1 v.2.2.2)
def l_u16q (v : TT_u16q) : Option (Nat × TT_u16q) := lock (iterO (fun v => (st_u16q v).ev) v)
theorem l_u16q_eq (v : TT_u16q) : l_u16q v = iterO (fun v => (st_u16q v).ev) v := lock_eq _
def ll_u16q : LEnt := LE (τ := TT_u16q) (hD hs_u16q) (l_u16q) x_u16q
theorem t_u16q : Go.Eng.Told IP (loopAt F138 0).1 (loopAt F138 0).2 (ll_u16q) := loop_LE (inferInstance : Inhabited TT_u16q) (hs := hs_u16q) (st := st_u16q) (L := []) T20_ok (LOk_of (l := []) (by kernel_rfl) trivial) (l_u16q_eq) (fun v => by kernel_rfl) (fun v => by kernel_rfl)
abbrev B_u18q : Type := Int
def p_u18q : PArgs := ⟨[.view 1, .str], []⟩
def r_u18q : List PRes := [⟨false, .int .i64, []⟩]
def tr_u18q (x0 : List AV) (x1 : List UInt8) : DT B_u18q :=
 .bi (pj 0 (l_u16q (x0, x1, (↑x0.length : Int), 0))) (fun y0 =>
  .at (y0.2.2.2))
  (.bi (pj 1 (l_u16q (x0, x1, (↑x0.length : Int), 0))) (fun y0 =>
   .at (-1))
   (.no))
def f_u18q (x0 : List AV) (x1 : List UInt8) : Option B_u18q := lock (tr_u18q x0 x1).ev
theorem f_u18q_eq (x0 : List AV) (x1 : List UInt8) : f_u18q x0 x1 = (tr_u18q x0 x1).ev := lock_eq _
theorem c_u18q : FH IP 138 p_u18q r_u18q (k2 f_u18q) := fun_FH (F := F138) (L := [(1013800, ll_u16q)]) (t := (k2 tr_u18q)) T20_ok (LOk_of (l := [loopAt F138 0]) (by kernel_rfl) ⟨sel_one (by kernel_rfl) t_u16q, trivial⟩) (by kernel_rfl) (fun v => by kernel_rfl) (fun _ => lock_eq _)
def T21 : Tab := (138, FE p_u18q r_u18q (k2 f_u18q)) :: T20
theorem T21_ok : TabOk IP T21 := ⟨FE_ok c_u18q, T20_ok⟩
abbrev B_u14q : Type := Bool
def p_u14q : PArgs := ⟨[.view 1, .str], []⟩
def r_u14q : List PRes := [⟨false, .bool, []⟩]
def tr_u14q (x0 : List AV) (x1 : List UInt8) : DT B_u14q :=
 .bi (f_u18q x0 x1) (fun y0 =>
  .at (decide (y0 ≥ 0)))
  (.no)
def f_u14q (x0 : List AV) (x1 : List UInt8) : Option B_u14q := lock (tr_u14q x0 x1).ev
theorem f_u14q_eq (x0 : List AV) (x1 : List UInt8) : f_u14q x0 x1 = (tr_u14q x0 x1).ev := lock_eq _
theorem c_u14q : FH IP 127 p_u14q r_u14q (k2 f_u14q) := fun_FH (F := F127) (L := []) (t := (k2 tr_u14q)) T21_ok (LOk_of (l := []) (by kernel_rfl) trivial) (by kernel_rfl) (fun v => by kernel_rfl) (fun _ => lock_eq _)
def T22 : Tab := (127, FE p_u14q r_u14q (k2 f_u14q)) :: T21
theorem T22_ok : TabOk IP T22 := ⟨FE_ok c_u14q, T21_ok⟩
abbrev B_u136q : Type := Bool
def p_u136q : PArgs := ⟨[.str], []⟩
def r_u136q : List PRes := [⟨false, .bool, []⟩]
def tr_u136q (x0 : List UInt8) : DT B_u136q :=
 .bi (f_u112q) (fun y0 =>
  .bi (f_u14q y0 x0) (fun y1 =>
   .at (y1))
   (.no))
  (.no)
def f_u136q (x0 : List UInt8) : Option B_u136q := lock (tr_u136q x0).ev
theorem f_u136q_eq (x0 : List UInt8) : f_u136q x0 = (tr_u136q x0).ev := lock_eq _
theorem c_u136q : FH IP 118 p_u136q r_u136q f_u136q := fun_FH (F := F118) (L := []) (t := tr_u136q) T22_ok (LOk_of (l := []) (by kernel_rfl) trivial) (by kernel_rfl) (fun v => by kernel_rfl) (fun _ => lock_eq _)
def T23 : Tab := (118, FE p_u136q r_u136q f_u136q) :: T22
theorem T23_ok : TabOk IP T23 := ⟨FE_ok c_u136q, T22_ok⟩
abbrev B_u54q : Type := Bool
def p_u54q : PArgs := ⟨[.int .i32], []⟩
def r_u54q : List PRes := [⟨false, .bool, []⟩]
def tr_u54q (x0 : Int) : DT B_u54q :=
 .bi (f_u89q x0) (fun y0 =>
  .bi (br y0 (some true) (some (x0 == 46))) (fun y1 =>
   .bi (br y1 (some true) (some (x0 == 37))) (fun y2 =>
    .at (y2))
    (.no))
   (.no))
  (.no)
def f_u54q (x0 : Int) : Option B_u54q := lock (tr_u54q x0).ev
theorem f_u54q_eq (x0 : Int) : f_u54q x0 = (tr_u54q x0).ev := lock_eq _
theorem c_u54q : FH IP 121 p_u54q r_u54q f_u54q := fun_FH (F := F121) (L := []) (t := tr_u54q) T23_ok (LOk_of (l := []) (by kernel_rfl) trivial) (by kernel_rfl) (fun v => by kernel_rfl) (fun _ => lock_eq _)
def T24 : Tab := (121, FE p_u54q r_u54q f_u54q) :: T23
theorem T24_ok : TabOk IP T24 := ⟨FE_ok c_u54q, T23_ok⟩
abbrev TT_u43q : Type := List UInt8 × Int
def hs_u43q : List PSt := [⟨[(1011100, .junk), (0, .str), (1, .fn (.func 121) []), (5, .int .i64)], [], 0, 0⟩]
def x_u43q_0 (x0 : List UInt8) (x1 : Int) : X × St := (X.exit 0, { tm := [(0, AV.str x0), (5, AV.int IntKind.i64 x1)], hp := [], nx := 0, k := 0 })
def x_u43q : List (TT_u43q → X × St) := [(k2 x_u43q_0)]
def st_u43q_0 (x0 : List UInt8) (x1 : Int) : DT (Rd TT_u43q) :=
 .bi (br (decide (x1 < (↑x0.length : Int)))
     (br (inB x0.length x1) (br (sm (f_u54q (IntKind.i32.wrap (byteAt x0 x1)))) (some (gv (f_u54q (IntKind.i32.wrap (byteAt x0 x1))))) none) none) (some false)) (fun y0 =>
  .br (y0) (.at (.next ((x0, IntKind.i64.wrap (x1 + 1))))) (.at (.done 0)))
  (.no)
def st_u43q : TT_u43q → DT (Rd TT_u43q) := (fun v => st_u43q_0 v.1 v.2)
def l_u43q (v : TT_u43q) : Option (Nat × TT_u43q) := lock (iterO (fun v => (st_u43q v).ev) v)
theorem l_u43q_eq (v : TT_u43q) : l_u43q v = iterO (fun v => (st_u43q v).ev) v := lock_eq _
def ll_u43q : LEnt := LE (τ := TT_u43q) (hD hs_u43q) (l_u43q) x_u43q
theorem t_u43q : Go.Eng.Told IP (loopAt F111 0).1 (loopAt F111 0).2 (ll_u43q) := loop_LE (inferInstance : Inhabited TT_u43q) (hs := hs_u43q) (st := st_u43q) (L := []) T24_ok (LOk_of (l := []) (by kernel_rfl) trivial) (l_u43q_eq) (fun v => by kernel_rfl) (fun v => by kernel_rfl)
abbrev B_u66q : Type := List UInt8
def p_u66q : PArgs := ⟨[.str, .fn (.func 121) []], []⟩
def r_u66q : List PRes := [⟨false, .str, []⟩]
def tr_u66q (x0 : List UInt8) : DT B_u66q :=
 .bi (pj 0 (l_u43q (x0, 0))) (fun y0 =>
  .br (leB y0.2 y0.1.length && true) (.at (List.take y0.2.toNat y0.1)) (.no))
  (.no)
def f_u66q (x0 : List UInt8) : Option B_u66q := lock (tr_u66q x0).ev
theorem f_u66q_eq (x0 : List UInt8) : f_u66q x0 = (tr_u66q x0).ev := lock_eq _
theorem c_u66q : FH IP 111 p_u66q r_u66q f_u66q := fun_FH (F := F111) (L := [(1011100, ll_u43q)]) (t := tr_u66q) T24_ok (LOk_of (l := [loopAt F111 0]) (by kernel_rfl) ⟨sel_one (by kernel_rfl) t_u43q, trivial⟩) (by kernel_rfl) (fun v => by kernel_rfl) (fun _ => lock_eq _)
def T25 : Tab := (111, FE p_u66q r_u66q f_u66q) :: T24
theorem T25_ok : TabOk IP T25 := ⟨FE_ok c_u66q, T24_ok⟩
abbrev TT_u44q : Type := List UInt8 × Int
def hs_u44q : List PSt := [⟨[(1011100, .junk), (0, .str), (1, .fn (.func 119) []), (5, .int .i64)], [], 0, 0⟩]
def x_u44q_0 (x0 : List UInt8) (x1 : Int) : X × St := (X.exit 0, { tm := [(0, AV.str x0), (5, AV.int IntKind.i64 x1)], hp := [], nx := 0, k := 0 })
def x_u44q : List (TT_u44q → X × St) := [(k2 x_u44q_0)]
def st_u44q_0 (x0 : List UInt8) (x1 : Int) : DT (Rd TT_u44q) :=
 .bi (br (decide (x1 < (↑x0.length : Int)))
     (br (inB x0.length x1) (br (sm (f_u110q (IntKind.i32.wrap (byteAt x0 x1)))) (some (gv (f_u110q (IntKind.i32.wrap (byteAt x0 x1))))) none) none) (some false)) (fun y0 =>
  .br (y0) (.at (.next ((x0, IntKind.i64.wrap (x1 + 1))))) (.at (.done 0)))
  (.no)
def st_u44q : TT_u44q → DT (Rd TT_u44q) := (fun v => st_u44q_0 v.1 v.2)
def l_u44q (v : TT_u44q) : Option (Nat × TT_u44q) := lock (iterO (fun v => (st_u44q v).ev) v)
theorem l_u44q_eq (v : TT_u44q) : l_u44q v = iterO (fun v => (st_u44q v).ev) v := lock_eq _
def ll_u44q : LEnt := LE (τ := TT_u44q) (hD hs_u44q) (l_u44q) x_u44q
theorem t_u44q : Go.Eng.Told IP (loopAt F111 0).1 (loopAt F111 0).2 (ll_u44q) := loop_LE (inferInstance : Inhabited TT_u44q) (hs := hs_u44q) (st := st_u44q) (L := []) T25_ok (LOk_of (l := []) (by kernel_rfl) trivial) (l_u44q_eq) (fun v => by kernel_rfl) (fun v => by kernel_rfl)
abbrev B_u67q : Type := List UInt8
def p_u67q : PArgs := ⟨[.str, .fn (.func 119) []], []⟩
def r_u67q : List PRes := [⟨false, .str, []⟩]
def tr_u67q (x0 : List UInt8) : DT B_u67q :=
 .bi (pj 0 (l_u44q (x0, 0))) (fun y0 =>
  .br (leB y0.2 y0.1.length && true) (.at (List.take y0.2.toNat y0.1)) (.no))
  (.no)
def f_u67q (x0 : List UInt8) : Option B_u67q := lock (tr_u67q x0).ev
theorem f_u67q_eq (x0 : List UInt8) : f_u67q x0 = (tr_u67q x0).ev := lock_eq _
theorem c_u67q : FH IP 111 p_u67q r_u67q f_u67q := fun_FH (F := F111) (L := [(1011100, ll_u44q)]) (t := tr_u67q) T25_ok (LOk_of (l := [loopAt F111 0]) (by kernel_rfl) ⟨sel_one (by kernel_rfl) t_u44q, trivial⟩) (by kernel_rfl) (fun v => by kernel_rfl) (fun _ => lock_eq _)
def T26 : Tab := (111, FE p_u67q r_u67q f_u67q) :: T25
theorem T26_ok : TabOk IP T26 := ⟨FE_ok c_u67q, T25_ok⟩
abbrev B_u64q : Type := Bool
def p_u64q : PArgs := ⟨[.str], []⟩
def r_u64q : List PRes := [⟨false, .bool, []⟩]
def tr_u64q (x0 : List UInt8) : DT B_u64q :=
 .bi (br (!x0 == []) (br (sm (f_u67q x0)) (some (gv (f_u67q x0) == x0)) none) (some false)) (fun y0 =>
  .bi (br y0 (br ((↑x0.length : Int) == 1) (some true) (br (inB x0.length 0) (some (byteAt x0 0 != 48)) none)) (some false)) (fun y1 =>
   .at (y1))
   (.no))
  (.no)
def f_u64q (x0 : List UInt8) : Option B_u64q := lock (tr_u64q x0).ev
theorem f_u64q_eq (x0 : List UInt8) : f_u64q x0 = (tr_u64q x0).ev := lock_eq _
theorem c_u64q : FH IP 129 p_u64q r_u64q f_u64q := fun_FH (F := F129) (L := []) (t := tr_u64q) T26_ok (LOk_of (l := []) (by kernel_rfl) trivial) (by kernel_rfl) (fun v => by kernel_rfl) (fun _ => lock_eq _)
def T27 : Tab := (129, FE p_u64q r_u64q f_u64q) :: T26
theorem T27_ok : TabOk IP T27 := ⟨FE_ok c_u64q, T26_ok⟩
abbrev B_u12q : Type := Bool
def p_u12q : PArgs := ⟨[.str, .str], []⟩
def r_u12q : List PRes := [⟨false, .bool, []⟩]
def tr_u12q (x0 x1 : List UInt8) : DT B_u12q :=
 .bi (br (decide ((↑x0.length : Int) ≥ (↑x1.length : Int)))
     (br (leB (IntKind.i64.wrap ((↑x0.length : Int) - (↑x1.length : Int))) x0.length) (some (List.drop (IntKind.i64.wrap ((↑x0.length : Int) - (↑x1.length : Int))).toNat x0 == x1))
       none)
     (some false)) (fun y0 =>
  .at (y0))
  (.no)
def f_u12q (x0 x1 : List UInt8) : Option B_u12q := lock (tr_u12q x0 x1).ev
theorem f_u12q_eq (x0 x1 : List UInt8) : f_u12q x0 x1 = (tr_u12q x0 x1).ev := lock_eq _
theorem c_u12q : FH IP 161 p_u12q r_u12q (k2 f_u12q) := fun_FH (F := F161) (L := []) (t := (k2 tr_u12q)) T27_ok (LOk_of (l := []) (by kernel_rfl) trivial) (by kernel_rfl) (fun v => by kernel_rfl) (fun _ => lock_eq _)
def T28 : Tab := (161, FE p_u12q r_u12q (k2 f_u12q)) :: T27
theorem T28_ok : TabOk IP T28 := ⟨FE_ok c_u12q, T27_ok⟩
abbrev B_u10q : Type := List UInt8 × Bool
def p_u10q : PArgs := ⟨[.str, .str], []⟩
def r_u10q : List PRes := [⟨false, .tup [.str, .bool], []⟩]
def tr_u10q (x0 x1 : List UInt8) : DT B_u10q :=
 .bi (f_u12q x0 x1) (fun y0 =>
  .br (!y0)
   (.at ((x0, false)))
   (.br (leB (IntKind.i64.wrap ((↑x0.length : Int) - (↑x1.length : Int))) x0.length && true)
    (.at ((List.take (IntKind.i64.wrap ((↑x0.length : Int) - (↑x1.length : Int))).toNat x0, true)))
    (.no)))
  (.no)
def f_u10q (x0 x1 : List UInt8) : Option B_u10q := lock (tr_u10q x0 x1).ev
theorem f_u10q_eq (x0 x1 : List UInt8) : f_u10q x0 x1 = (tr_u10q x0 x1).ev := lock_eq _
theorem c_u10q : FH IP 153 p_u10q r_u10q (k2 f_u10q) := fun_FH (F := F153) (L := []) (t := (k2 tr_u10q)) T28_ok (LOk_of (l := []) (by kernel_rfl) trivial) (by kernel_rfl) (fun v => by kernel_rfl) (fun _ => lock_eq _)
def T29 : Tab := (153, FE p_u10q r_u10q (k2 f_u10q)) :: T28
theorem T29_ok : TabOk IP T29 := ⟨FE_ok c_u10q, T28_ok⟩
abbrev B_u31q : Type := List UInt8 × Bool
def p_u31q : PArgs := ⟨[.str, .str], []⟩
def r_u31q : List PRes := [⟨false, .tup [.str, .bool], []⟩]
def tr_u31q (x0 x1 : List UInt8) : DT B_u31q :=
 .bi (f_u10q x0 x1) (fun y0 =>
  .at ((y0.1, y0.2)))
  (.no)
def f_u31q (x0 x1 : List UInt8) : Option B_u31q := lock (tr_u31q x0 x1).ev
theorem f_u31q_eq (x0 x1 : List UInt8) : f_u31q x0 x1 = (tr_u31q x0 x1).ev := lock_eq _
theorem c_u31q : FH IP 141 p_u31q r_u31q (k2 f_u31q) := fun_FH (F := F141) (L := []) (t := (k2 tr_u31q)) T29_ok (LOk_of (l := []) (by kernel_rfl) trivial) (by kernel_rfl) (fun v => by kernel_rfl) (fun _ => lock_eq _)
def T30 : Tab := (141, FE p_u31q r_u31q (k2 f_u31q)) :: T29
theorem T30_ok : TabOk IP T30 := ⟨FE_ok c_u31q, T29_ok⟩
abbrev B_u17q : Type := Int
def p_u17q : PArgs := ⟨[.str, .str], []⟩
def r_u17q : List PRes := [⟨false, .int .i64, []⟩]
def tr_u17q (x0 x1 : List UInt8) : DT B_u17q :=
 .bi (br ((↑x1.length : Int) == 0) (some true) (some (x1 == x0))) (fun y0 =>
  .br (y0)
   (.at (0))
   (.br ((↑x1.length : Int) == 1)
    (.br (inB x1.length 0) (.at (Lib.indexByte x0 (byteAt x1 0).toNat.toUInt8)) (.no))
    (.br (decide ((↑x1.length : Int) ≥ (↑x0.length : Int))) (.at (-1)) (.no))))
  (.no)
def f_u17q (x0 x1 : List UInt8) : Option B_u17q := lock (tr_u17q x0 x1).ev
theorem f_u17q_eq (x0 x1 : List UInt8) : f_u17q x0 x1 = (tr_u17q x0 x1).ev := lock_eq _
theorem c_u17q : FH IP 126 p_u17q r_u17q (k2 f_u17q) := fun_FH (F := F126) (L := []) (t := (k2 tr_u17q)) T30_ok (LOk_of (l := [loopAt F126 0]) (by kernel_rfl) ⟨sel_no (by kernel_rfl), trivial⟩) (by kernel_rfl) (fun v => by kernel_rfl) (fun _ => lock_eq _)
def T31 : Tab := (126, FE p_u17q r_u17q (k2 f_u17q)) :: T30
theorem T31_ok : TabOk IP T31 := ⟨FE_ok c_u17q, T30_ok⟩
abbrev B_u19q : Type := List UInt8 × List UInt8 × Bool
def p_u19q : PArgs := ⟨[.str, .str], []⟩
def r_u19q : List PRes := [⟨false, .tup [.str, .str, .bool], []⟩]
def tr_u19q (x0 x1 : List UInt8) : DT B_u19q :=
 .bi (f_u17q x0 x1) (fun y0 =>
  .br (decide (y0 ≥ 0))
   (.br (leB y0 x0.length && true)
    (.br (leB (IntKind.i64.wrap (y0 + (↑x1.length : Int))) x0.length)
     (.at ((List.take y0.toNat x0, List.drop (IntKind.i64.wrap (y0 + (↑x1.length : Int))).toNat x0, true)))
     (.no))
    (.no))
   (.at ((x0, [], false))))
  (.no)
def f_u19q (x0 x1 : List UInt8) : Option B_u19q := lock (tr_u19q x0 x1).ev
theorem f_u19q_eq (x0 x1 : List UInt8) : f_u19q x0 x1 = (tr_u19q x0 x1).ev := lock_eq _
theorem c_u19q : FH IP 154 p_u19q r_u19q (k2 f_u19q) := fun_FH (F := F154) (L := []) (t := (k2 tr_u19q)) T31_ok (LOk_of (l := []) (by kernel_rfl) trivial) (by kernel_rfl) (fun v => by kernel_rfl) (fun _ => lock_eq _)
def T32 : Tab := (154, FE p_u19q r_u19q (k2 f_u19q)) :: T31
theorem T32_ok : TabOk IP T32 := ⟨FE_ok c_u19q, T31_ok⟩
abbrev B_u109q : Type := List UInt8 × List UInt8 × Bool
def p_u109q : PArgs := ⟨[.str, .str], []⟩
def r_u109q : List PRes := [⟨false, .tup [.str, .str, .bool], []⟩]
def tr_u109q (x0 x1 : List UInt8) : DT B_u109q :=
 .bi (f_u19q x0 x1) (fun y0 =>
  .at ((y0.1, y0.2.1, y0.2.2)))
  (.no)
def f_u109q (x0 x1 : List UInt8) : Option B_u109q := lock (tr_u109q x0 x1).ev
theorem f_u109q_eq (x0 x1 : List UInt8) : f_u109q x0 x1 = (tr_u109q x0 x1).ev := lock_eq _
theorem c_u109q : FH IP 142 p_u109q r_u109q (k2 f_u109q) := fun_FH (F := F142) (L := []) (t := (k2 tr_u109q)) T32_ok (LOk_of (l := []) (by kernel_rfl) trivial) (by kernel_rfl) (fun v => by kernel_rfl) (fun _ => lock_eq _)
def T33 : Tab := (142, FE p_u109q r_u109q (k2 f_u109q)) :: T32
theorem T33_ok : TabOk IP T33 := ⟨FE_ok c_u109q, T32_ok⟩
abbrev TT_u87q : Type := List UInt8 × List UInt8
def hs_u87q : List PSt := [⟨[(1013100, .junk), (6, .str), (7, .str)], [], 0, 0⟩]
def x_u87q_0 (x0 x1 : List UInt8) : X × St := (X.exit 0, { tm := [(6, AV.str x0), (7, AV.str x1)], hp := [], nx := 0, k := 0 })
def x_u87q : List (TT_u87q → X × St) := [(k2 x_u87q_0)]
def st_u87q_0 (x0 x1 : List UInt8) : DT (Rd TT_u87q) :=
 .br (decide ((↑x1.length : Int) < 4))
  (.br (decide (x1.length + 1 ≤ 4611686018427387904)) (.at (.next ((x0, x1 ++ [48])))) (.no))
  (.at (.done 0))
def st_u87q : TT_u87q → DT (Rd TT_u87q) := (fun v => st_u87q_0 v.1 v.2)
def l_u87q (v : TT_u87q) : Option (Nat × TT_u87q) := lock (iterO (fun v => (st_u87q v).ev) v)
theorem l_u87q_eq (v : TT_u87q) : l_u87q v = iterO (fun v => (st_u87q v).ev) v := lock_eq _
def ll_u87q : LEnt := LE (τ := TT_u87q) (hD hs_u87q) (l_u87q) x_u87q
theorem t_u87q : Go.Eng.Told IP (loopAt F131 0).1 (loopAt F131 0).2 (ll_u87q) := loop_LE (inferInstance : Inhabited TT_u87q) (hs := hs_u87q) (st := st_u87q) (L := []) T33_ok (LOk_of (l := []) (by kernel_rfl) trivial) (l_u87q_eq) (fun v => by kernel_rfl) (fun v => by kernel_rfl)
abbrev B_u135q : Type := Int × Int
def p_u135q : PArgs := ⟨[.str], []⟩
def r_u135q : List PRes := [⟨false, .tup [.int .i64, .int .i64], []⟩]
def tr_u135q (x0 : List UInt8) : DT B_u135q :=
 .bi (f_u31q x0 [37]) (fun y0 =>
  .bi (f_u109q y0.1 [46]) (fun y1 =>
   .bi (br (!y0.2) (some true) (br (sm (f_u64q y1.1)) (some !gv (f_u64q y1.1)) none)) (fun y2 =>
    .bi (br y2 (some true)
        (br y1.2.2
          (br (y1.2.1 == []) (some true)
            (br (decide ((↑y1.2.1.length : Int) > 4)) (some true)
              (br (sm (f_u67q y1.2.1))
                (br (!gv (f_u67q y1.2.1) == y1.2.1) (some true)
                  (br (inB y1.2.1.length (IntKind.i64.wrap ((↑y1.2.1.length : Int) - 1))) (some (byteAt y1.2.1 (IntKind.i64.wrap ((↑y1.2.1.length : Int) - 1)) == 48))
                    none))
                none)))
          (some false))) (fun y3 =>
     .br (y3)
      (.at ((0, 2)))
      (.br (decide ((↑y1.1.length : Int) > 3))
       (.at ((0, 1)))
       (.bi (pj 0 (l_u87q (y1.1, y1.2.1))) (fun y4 =>
        .br (decide (y4.1.length + y4.2.length ≤ 4611686018427387904))
         (.br (pOk (y4.1 ++ y4.2) && nOk (Lib.atoiAll (y4.1 ++ y4.2)))
          (.br (decide (nVal (Lib.atoiAll (y4.1 ++ y4.2)) > 1000000)) (.at ((0, 1))) (.at ((nVal (Lib.atoiAll (y4.1 ++ y4.2)), 0))))
          (.br (pOk (y4.1 ++ y4.2) && nRange (Lib.atoiAll (y4.1 ++ y4.2)))
           (.br (decide (Lib.atoiSat (y4.1 ++ y4.2) > 1000000)) (.at ((0, 1))) (.at ((Lib.atoiSat (y4.1 ++ y4.2), 0))))
           (.br (pOk (y4.1 ++ y4.2) && nSyntax (Lib.atoiAll (y4.1 ++ y4.2))) (.at ((0, 0))) (.no))))
         (.no))
        (.no))))
     (.no))
    (.no))
   (.no))
  (.no)
def f_u135q (x0 : List UInt8) : Option B_u135q := lock (tr_u135q x0).ev
theorem f_u135q_eq (x0 : List UInt8) : f_u135q x0 = (tr_u135q x0).ev := lock_eq _
theorem c_u135q : FH IP 131 p_u135q r_u135q f_u135q := fun_FH (F := F131) (L := [(1013100, ll_u87q)]) (t := tr_u135q) T33_ok (LOk_of (l := [loopAt F131 0]) (by kernel_rfl) ⟨sel_one (by kernel_rfl) t_u87q, trivial⟩) (by kernel_rfl) (fun v => by kernel_rfl) (fun _ => lock_eq _)
def T34 : Tab := (131, FE p_u135q r_u135q f_u135q) :: T33
theorem T34_ok : TabOk IP T34 := ⟨FE_ok c_u135q, T33_ok⟩
abbrev B_u92q : Type := Int × Int × List UInt8 × Int
def p_u92q : PArgs := ⟨[.str], []⟩
def r_u92q : List PRes := [⟨false, .tup [.agg [.int .i64, .int .i64, .str], .int .i64], []⟩]
def tr_u92q (x0 : List UInt8) : DT B_u92q :=
 .bi (f_u64q x0) (fun y0 =>
  .br (y0)
   (.br (pOk x0 && nOk (Lib.parseIntB 64 x0))
    (.at ((2, 0, x0, 0)))
    (.br (pOk x0 && nRange (Lib.parseIntB 64 x0))
     (.at ((0, 0, [], 6)))
     (.br (pOk x0 && nSyntax (Lib.parseIntB 64 x0)) (.at ((0, 0, [], 6))) (.no))))
   (.bi (f_u135q x0) (fun y1 =>
    .br (y1.2 == 0)
     (.at ((3, 0, x0, 0)))
     (.br (y1.2 == 1) (.at ((0, 0, [], 6))) (.at ((0, 0, [], 2)))))
    (.no)))
  (.no)
def f_u92q (x0 : List UInt8) : Option B_u92q := lock (tr_u92q x0).ev
theorem f_u92q_eq (x0 : List UInt8) : f_u92q x0 = (tr_u92q x0).ev := lock_eq _
theorem c_u92q : FH IP 120 p_u92q r_u92q f_u92q := fun_FH (F := F120) (L := []) (t := tr_u92q) T34_ok (LOk_of (l := []) (by kernel_rfl) trivial) (by kernel_rfl) (fun v => by kernel_rfl) (fun _ => lock_eq _)
def T35 : Tab := (120, FE p_u92q r_u92q f_u92q) :: T34
theorem T35_ok : TabOk IP T35 := ⟨FE_ok c_u92q, T34_ok⟩
abbrev B_u111q : Type := List AV
def p_u111q : PArgs := ⟨[], []⟩
def r_u111q : List PRes := [⟨false, .view 1, []⟩]
def tr_u111q : DT B_u111q :=
 .at ([AV.str ([] ++ [61] ++ [61]), AV.str ([] ++ [33] ++ [61]), AV.str ([] ++ [60] ++ [61]), AV.str ([] ++ [123]), AV.str ([] ++ [125]), AV.str ([] ++ [40]), AV.str ([] ++ [41]),
  AV.str ([] ++ [44]), AV.str ([] ++ [59]), AV.str ([] ++ [58]), AV.str ([] ++ [36]), AV.str ([] ++ [43]), AV.str ([] ++ [45]), AV.str ([] ++ [42]), AV.str ([] ++ [47]),
  AV.str ([] ++ [60])])
def f_u111q : Option B_u111q := lock (tr_u111q).ev
theorem f_u111q_eq : f_u111q = (tr_u111q).ev := lock_eq _
theorem c_u111q : FH IP 122 p_u111q r_u111q (fun _ => f_u111q) := fun_FH (F := F122) (L := []) (t := (fun _ => tr_u111q)) T35_ok (LOk_of (l := []) (by kernel_rfl) trivial) (by kernel_rfl) (fun v => by kernel_rfl) (fun _ => lock_eq _)
def T36 : Tab := (122, FE p_u111q r_u111q (fun _ => f_u111q)) :: T35
theorem T36_ok : TabOk IP T36 := ⟨FE_ok c_u111q, T35_ok⟩
abbrev B_u11q : Type := Bool
def p_u11q : PArgs := ⟨[.str, .str], []⟩
def r_u11q : List PRes := [⟨false, .bool, []⟩]
def tr_u11q (x0 x1 : List UInt8) : DT B_u11q :=
 .bi (br (decide ((↑x0.length : Int) ≥ (↑x1.length : Int))) (br (leB (↑x1.length : Int) x0.length && true) (some (List.take (↑x1.length : Int).toNat x0 == x1)) none) (some false)) (fun y0 =>
  .at (y0))
  (.no)
def f_u11q (x0 x1 : List UInt8) : Option B_u11q := lock (tr_u11q x0 x1).ev
theorem f_u11q_eq (x0 x1 : List UInt8) : f_u11q x0 x1 = (tr_u11q x0 x1).ev := lock_eq _
theorem c_u11q : FH IP 133 p_u11q r_u11q (k2 f_u11q) := fun_FH (F := F133) (L := []) (t := (k2 tr_u11q)) T36_ok (LOk_of (l := []) (by kernel_rfl) trivial) (by kernel_rfl) (fun v => by kernel_rfl) (fun _ => lock_eq _)
def T37 : Tab := (133, FE p_u11q r_u11q (k2 f_u11q)) :: T36
theorem T37_ok : TabOk IP T37 := ⟨FE_ok c_u11q, T36_ok⟩
abbrev B_u32q : Type := Bool
def p_u32q : PArgs := ⟨[.str, .str], []⟩
def r_u32q : List PRes := [⟨false, .bool, []⟩]
def tr_u32q (x0 x1 : List UInt8) : DT B_u32q :=
 .bi (f_u11q x0 x1) (fun y0 =>
  .at (y0))
  (.no)
def f_u32q (x0 x1 : List UInt8) : Option B_u32q := lock (tr_u32q x0 x1).ev
theorem f_u32q_eq (x0 x1 : List UInt8) : f_u32q x0 x1 = (tr_u32q x0 x1).ev := lock_eq _
theorem c_u32q : FH IP 123 p_u32q r_u32q (k2 f_u32q) := fun_FH (F := F123) (L := []) (t := (k2 tr_u32q)) T37_ok (LOk_of (l := []) (by kernel_rfl) trivial) (by kernel_rfl) (fun v => by kernel_rfl) (fun _ => lock_eq _)
def T38 : Tab := (123, FE p_u32q r_u32q (k2 f_u32q)) :: T37
theorem T38_ok : TabOk IP T38 := ⟨FE_ok c_u32q, T37_ok⟩
abbrev TT_u91q : Type := List UInt8 × List AV × Int × Int × Int × Int × List UInt8
def hs_u91q : List PSt := [⟨[(1010500, .junk), (0, .str), (2, .ref 0 0 0), (34, .view 1), (35, .int .i64), (36, .int .i64)], [(0, .box [.int .i64, .int .i64, .str] false)], 1, 0⟩]
def x_u91q_0 (x0 : List UInt8) (x1 : List AV) (x2 x3 : Int) (x4 x5 : Int) (x6 : List UInt8) : X × St := (X.ret,
  { tm := [(2, AV.ref 0 0 0), (3, AV.int IntKind.i64 0)], hp := [(0, Blk.box [AV.int IntKind.i64 4, AV.int IntKind.i64 0, AV.str (strOf (cellAt x1 x3 0))] false)], nx := 1,
    k := 0 })
def x_u91q_1 (x0 : List UInt8) (x1 : List AV) (x2 x3 : Int) (x4 x5 : Int) (x6 : List UInt8) : X × St := (X.exit 1, { tm := [(2, AV.ref 0 0 0), (3, AV.junk)], hp := [(0, Blk.box [AV.int IntKind.i64 x4, AV.int IntKind.i64 x5, AV.str x6] false)], nx := 1, k := 0 })
def x_u91q : List (TT_u91q → X × St) := [(k7 x_u91q_0), (k7 x_u91q_1)]
def st_u91q_0 (x0 : List UInt8) (x1 : List AV) (x2 x3 : Int) (x4 x5 : Int) (x6 : List UInt8) : DT (Rd TT_u91q) :=
 .br (decide (x3 < x2))
  (.br (okAt [CS.str] x1 x3)
   (.bi (f_u32q x0 (strOf (cellAt x1 x3 0))) (fun y0 =>
    .br (y0) (.at (.done 0)) (.at (.next ((x0, x1, x2, IntKind.i64.wrap (x3 + 1), x4, x5, x6)))))
    (.no))
   (.no))
  (.at (.done 1))
def st_u91q : TT_u91q → DT (Rd TT_u91q) := (fun v => st_u91q_0 v.1 v.2.1 v.2.2.1 v.2.2.2.1 v.2.2.2.2.1 v.2.2.2.2.2.1 v.2.2.2.2.2.2)
def l_u91q (v : TT_u91q) : Option (Nat × TT_u91q) := lock (iterO (fun v => (st_u91q v).ev) v)
theorem l_u91q_eq (v : TT_u91q) : l_u91q v = iterO (fun v => (st_u91q v).ev) v := lock_eq _
def ll_u91q : LEnt := LE (τ := TT_u91q) (hD hs_u91q) (l_u91q) x_u91q
theorem t_u91q : Go.Eng.Told IP (loopAt F105 0).1 (loopAt F105 0).2 (ll_u91q) := loop_LE (inferInstance : Inhabited TT_u91q) (hs := hs_u91q) (st := st_u91q) (L := []) T38_ok (LOk_of (l := []) (by kernel_rfl) trivial) (l_u91q_eq) (fun v => by kernel_rfl) (fun v => by kernel_rfl)
abbrev B_u137q : Type := Int × Int × List UInt8 × Int
def p_u137q : PArgs := ⟨[.str], []⟩
def r_u137q : List PRes := [⟨false, .tup [.agg [.int .i64, .int .i64, .str], .int .i64], []⟩]
def tr_u137q (x0 : List UInt8) : DT B_u137q :=
 .br (inB x0.length 0)
  (.bi (f_u90q (IntKind.i32.wrap (byteAt x0 0))) (fun y0 =>
   .br (y0)
    (.bi (f_u65q x0) (fun y1 =>
     .bi (f_u136q y1) (fun y2 =>
      .br (y2)
       (.at ((5, 0, y1, 0)))
       (.br (decide ((↑y1.length : Int) > 16)) (.at ((0, 0, [], 4))) (.at ((1, 0, y1, 0)))))
      (.no))
     (.no))
    (.bi (f_u110q (IntKind.i32.wrap (byteAt x0 0))) (fun y1 =>
     .br (y1)
      (.bi (f_u66q x0) (fun y2 =>
       .bi (f_u92q y2) (fun y3 =>
        .at ((y3.1, y3.2.1, y3.2.2.1, y3.2.2.2)))
        (.no))
       (.no))
      (.bi (f_u111q) (fun y2 =>
       .bi (pj 0 (l_u91q (x0, y2, (↑y2.length : Int), 0, 0, 0, []))) (fun y3 =>
        .at ((4, 0, strOf (cellAt y3.2.1 y3.2.2.2.1 0), 0)))
        (.bi (pj 1 (l_u91q (x0, y2, (↑y2.length : Int), 0, 0, 0, []))) (fun y3 =>
         .at ((0, 0, [], 2)))
         (.no)))
       (.no)))
     (.no)))
   (.no))
  (.no)
def f_u137q (x0 : List UInt8) : Option B_u137q := lock (tr_u137q x0).ev
theorem f_u137q_eq (x0 : List UInt8) : f_u137q x0 = (tr_u137q x0).ev := lock_eq _
theorem c_u137q : FH IP 105 p_u137q r_u137q f_u137q := fun_FH (F := F105) (L := [(1010500, ll_u91q)]) (t := tr_u137q) T38_ok (LOk_of (l := [loopAt F105 0]) (by kernel_rfl) ⟨sel_one (by kernel_rfl) t_u91q, trivial⟩) (by kernel_rfl) (fun v => by kernel_rfl) (fun _ => lock_eq _)
def T39 : Tab := (105, FE p_u137q r_u137q f_u137q) :: T38
theorem T39_ok : TabOk IP T39 := ⟨FE_ok c_u137q, T38_ok⟩
abbrev TT_u40q : Type := (List UInt8 × Int) ⊕ (List UInt8 × Int × List AV)
def hs_u40q : List PSt := [⟨[(1009600, .junk), (0, .str), (5, .nils 3), (6, .int .i64)], [], 0, 0⟩, ⟨[(1009600, .junk), (0, .str), (5, .own 0 0), (6, .int .i64)], [(0, .arr 3 false)], 1, 0⟩]
def x_u40q_0 (x0 : List UInt8) (x1 : Int) : X × St := (X.ret, { tm := [(2, AV.nils { sz := 3, kd := NKd.nil }), (3, AV.int IntKind.i64 0), (4, AV.int IntKind.i64 0)], hp := [], nx := 0, k := 0 })
def x_u40q_1 (x0 : List UInt8) (x1 : Int) : X × St := (X.ret,
  {
    tm :=
      [(2, AV.nils { sz := 3, kd := NKd.nil }), (3, AV.int IntKind.i64 (IntKind.i64.wrap (x1 + (↑(Lib.countByte (List.take (gv (f_u88q x0)).toNat x0) 10) : Int)))),
        (4, AV.int IntKind.i64 (gv (f_u137q (List.drop (gv (f_u88q x0)).toNat x0))).2.2.2)],
    hp := [], nx := 0, k := 0 })
def x_u40q_2 (x0 : List UInt8) (x1 : Int) (x2 : List AV) : X × St := (X.ret, { tm := [(2, AV.own 0 0 none), (3, AV.int IntKind.i64 0), (4, AV.int IntKind.i64 0)], hp := [(0, Blk.arr 3 x2 false)], nx := 1, k := 0 })
def x_u40q_3 (x0 : List UInt8) (x1 : Int) (x2 : List AV) : X × St := (X.ret,
  {
    tm :=
      [(2, AV.nils { sz := 3, kd := NKd.nil }), (3, AV.int IntKind.i64 (IntKind.i64.wrap (x1 + (↑(Lib.countByte (List.take (gv (f_u88q x0)).toNat x0) 10) : Int)))),
        (4, AV.int IntKind.i64 (gv (f_u137q (List.drop (gv (f_u88q x0)).toNat x0))).2.2.2)],
    hp := [], nx := 0, k := 0 })
def x_u40q : List (TT_u40q → X × St) := [fun w => (k2 x_u40q_0) ((sl w)), fun w => (k2 x_u40q_1) ((sl w)), fun w => (k3 x_u40q_2) ((sr w)), fun w => (k3 x_u40q_3) ((sr w))]
def st_u40q_0 (x0 : List UInt8) (x1 : Int) : DT (Rd TT_u40q) :=
 .bi (f_u88q x0) (fun y0 =>
  .br (leB y0 x0.length && true)
   (.br (leB y0 x0.length)
    (.br (List.drop y0.toNat x0 == [])
     (.at (.done 0))
     (.bi (f_u137q (List.drop y0.toNat x0)) (fun y1 =>
      .br (y1.2.2.2 != 0)
       (.at (.done 1))
       (.br (leB (↑y1.2.2.1.length : Int) (List.drop y0.toNat x0).length)
        (.at (.next ((.inr (List.drop (↑y1.2.2.1.length : Int).toNat (List.drop y0.toNat x0), IntKind.i64.wrap (x1 + (↑(Lib.countByte (List.take y0.toNat x0) 10) : Int)), [AV.agg [AV.int IntKind.i64 y1.1, AV.int IntKind.i64 (IntKind.i64.wrap (x1 + (↑(Lib.countByte (List.take y0.toNat x0) 10) : Int))), AV.str y1.2.2.1]])))))
        (.no)))
      (.no)))
    (.no))
   (.no))
  (.no)
def st_u40q_1 (x0 : List UInt8) (x1 : Int) (x2 : List AV) : DT (Rd TT_u40q) :=
 .bi (f_u88q x0) (fun y0 =>
  .br (leB y0 x0.length && true)
   (.br (leB y0 x0.length)
    (.br (List.drop y0.toNat x0 == [])
     (.at (.done 2))
     (.bi (f_u137q (List.drop y0.toNat x0)) (fun y1 =>
      .br (y1.2.2.2 != 0)
       (.at (.done 3))
       (.br (room (x2.length + 1) 32)
        (.br (leB (↑y1.2.2.1.length : Int) (List.drop y0.toNat x0).length)
         (.at (.next ((.inr (List.drop (↑y1.2.2.1.length : Int).toNat (List.drop y0.toNat x0), IntKind.i64.wrap (x1 + (↑(Lib.countByte (List.take y0.toNat x0) 10) : Int)), x2 ++ [AV.agg [AV.int IntKind.i64 y1.1, AV.int IntKind.i64 (IntKind.i64.wrap (x1 + (↑(Lib.countByte (List.take y0.toNat x0) 10) : Int))), AV.str y1.2.2.1]])))))
         (.no))
        (.no)))
      (.no)))
    (.no))
   (.no))
  (.no)
def st_u40q : TT_u40q → DT (Rd TT_u40q) := (Sum.elim (fun v => st_u40q_0 v.1 v.2) (fun v => st_u40q_1 v.1 v.2.1 v.2.2))
def l_u40q (v : TT_u40q) : Option (Nat × TT_u40q) := lock (iterO (fun v => (st_u40q v).ev) v)
theorem l_u40q_eq (v : TT_u40q) : l_u40q v = iterO (fun v => (st_u40q v).ev) v := lock_eq _
def ll_u40q : LEnt := LE (τ := TT_u40q) (hD hs_u40q) (l_u40q) x_u40q
theorem t_u40q : Go.Eng.Told IP (loopAt F96 0).1 (loopAt F96 0).2 (ll_u40q) := loop_LE (inferInstance : Inhabited TT_u40q) (hs := hs_u40q) (st := st_u40q) (L := []) T39_ok (LOk_of (l := []) (by kernel_rfl) trivial) (l_u40q_eq) (fun v => match v with | (.inl v) => by kernel_rfl | (.inr v) => by kernel_rfl) (fun v => match v with | (.inl v) => by kernel_rfl | (.inr v) => by kernel_rfl)
abbrev B_u51q : Type := List AV × Int × Int
def p_u51q : PArgs := ⟨[.str], []⟩
def r_u51q : List PRes := [⟨false, .tup [.view 3, .int .i64, .int .i64], []⟩]
def tr_u51q (x0 : List UInt8) : DT B_u51q :=
 .br (decide ((↑x0.length : Int) > 2048))
  (.at (([], 0, 5)))
  (.bi (pj 0 (l_u40q (Sum.inl (x0, 1)))) (fun y0 =>
   .at (([], 0, 0)))
   (.bi (pj 1 (l_u40q (Sum.inl (x0, 1)))) (fun y0 =>
    .at (([], IntKind.i64.wrap ((sl y0).2 + (↑(Lib.countByte (List.take (gv (f_u88q (sl y0).1)).toNat (sl y0).1) 10) : Int)), (gv (f_u137q (List.drop (gv (f_u88q (sl y0).1)).toNat (sl y0).1))).2.2.2)))
    (.bi (pj 2 (l_u40q (Sum.inl (x0, 1)))) (fun y0 =>
     .at (((sr y0).2.2, 0, 0)))
     (.bi (pj 3 (l_u40q (Sum.inl (x0, 1)))) (fun y0 =>
      .at (([], IntKind.i64.wrap ((sr y0).2.1 + (↑(Lib.countByte (List.take (gv (f_u88q (sr y0).1)).toNat (sr y0).1) 10) : Int)), (gv (f_u137q (List.drop (gv (f_u88q (sr y0).1)).toNat (sr y0).1))).2.2.2)))
      (.no)))))
def f_u51q (x0 : List UInt8) : Option B_u51q := lock (tr_u51q x0).ev
theorem f_u51q_eq (x0 : List UInt8) : f_u51q x0 = (tr_u51q x0).ev := lock_eq _
theorem c_u51q : FH IP 96 p_u51q r_u51q f_u51q := fun_FH (F := F96) (L := [(1009600, ll_u40q)]) (t := tr_u51q) T39_ok (LOk_of (l := [loopAt F96 0]) (by kernel_rfl) ⟨sel_one (by kernel_rfl) t_u40q, trivial⟩) (by kernel_rfl) (fun v => by kernel_rfl) (fun _ => lock_eq _)
def T40 : Tab := (96, FE p_u51q r_u51q f_u51q) :: T39
theorem T40_ok : TabOk IP T40 := ⟨FE_ok c_u51q, T39_ok⟩
abbrev B_u63q : Type := Bool
def p_u63q : PArgs := ⟨[.str], []⟩
def r_u63q : List PRes := [⟨false, .bool, []⟩]
def tr_u63q (x0 : List UInt8) : DT B_u63q :=
 .bi (f_u51q x0) (fun y0 =>
  .bi (br (y0.2.2 == 0) (some ((↑y0.1.length : Int) == 1)) (some false)) (fun y1 =>
   .bi (br y1 (br (okAt [CS.int IntKind.i64, CS.int IntKind.i64, CS.str] y0.1 0) (some (intOf (cellAt y0.1 0 0) == 1)) none) (some false)) (fun y2 =>
    .bi (br y2 (br (okAt [CS.int IntKind.i64, CS.int IntKind.i64, CS.str] y0.1 0) (some (strOf (cellAt y0.1 0 2) == x0)) none) (some false)) (fun y3 =>
     .at (y3))
     (.no))
    (.no))
   (.no))
  (.no)
def f_u63q (x0 : List UInt8) : Option B_u63q := lock (tr_u63q x0).ev
theorem f_u63q_eq (x0 : List UInt8) : f_u63q x0 = (tr_u63q x0).ev := lock_eq _
theorem c_u63q : FH IP 85 p_u63q r_u63q f_u63q := fun_FH (F := F85) (L := []) (t := tr_u63q) T40_ok (LOk_of (l := []) (by kernel_rfl) trivial) (by kernel_rfl) (fun v => by kernel_rfl) (fun _ => lock_eq _)
def T41 : Tab := (85, FE p_u63q r_u63q f_u63q) :: T40
theorem T41_ok : TabOk IP T41 := ⟨FE_ok c_u63q, T40_ok⟩
abbrev B_u134q : Type := Bool
def p_u134q : PArgs := ⟨[.agg [.int .i64, .int .i64, .str, .view 4]], []⟩
def r_u134q : List PRes := [⟨false, .bool, []⟩]
def tr_u134q (x0 x1 : Int) (x2 : List UInt8) (x3 : List AV) : DT B_u134q :=
 .bi (br (x0 != 4) (some true) (br (sm (f_u63q x2)) (some (gv (f_u63q x2))) none)) (fun y0 =>
  .at (y0))
  (.no)
def f_u134q (x0 x1 : Int) (x2 : List UInt8) (x3 : List AV) : Option B_u134q := lock (tr_u134q x0 x1 x2 x3).ev
theorem f_u134q_eq (x0 x1 : Int) (x2 : List UInt8) (x3 : List AV) : f_u134q x0 x1 x2 x3 = (tr_u134q x0 x1 x2 x3).ev := lock_eq _
theorem c_u134q : FH IP 69 p_u134q r_u134q (k4 f_u134q) := fun_FH (F := F69) (L := []) (t := (k4 tr_u134q)) T41_ok (LOk_of (l := []) (by kernel_rfl) trivial) (by kernel_rfl) (fun v => by kernel_rfl) (fun _ => lock_eq _)
def T42 : Tab := (69, FE p_u134q r_u134q (k4 f_u134q)) :: T41
theorem T42_ok : TabOk IP T42 := ⟨FE_ok c_u134q, T41_ok⟩
abbrev B_u107q : Type := Bool
def p_u107q : PArgs := ⟨[.agg [.int .i64, .int .i64, .str, .view 4], .fn (.func 69) []], []⟩
def r_u107q : List PRes := [⟨false, .bool, []⟩]
abbrev GT_u107q : Type := Int → Int → (List UInt8) → (List AV) → Option B_u107q
abbrev B_u0q : Type := Bool
def p_u0q : PArgs := ⟨[.view 4, .fn (.func 83) [.ptr [.fn (.func 69) []]]], []⟩
def r_u0q : List PRes := [⟨false, .bool, []⟩]
abbrev GT_u0q : Type := (List AV) → Option B_u0q
abbrev B_u4q : Type := Int
def p_u4q : PArgs := ⟨[.view 4, .fn (.func 83) [.ptr [.fn (.func 69) []]]], []⟩
def r_u4q : List PRes := [⟨false, .int .i64, []⟩]
abbrev GT_u4q : Type := (List AV) → Option B_u4q
abbrev B_u61q : Type := Bool
def p_u61q : PArgs := ⟨[.agg [.int .i64, .int .i64, .str, .view 4], .ptr [.fn (.func 69) []]], []⟩
def r_u61q : List PRes := [⟨false, .bool, []⟩]
abbrev GT_u61q : Type := Int → Int → (List UInt8) → (List AV) → Option B_u61q
def GH_u107q (G_u107q : GT_u107q) (G_u0q : GT_u0q) (G_u4q : GT_u4q) (G_u61q : GT_u61q) : Prop := FH IP 67 p_u107q r_u107q (k4 G_u107q) ∧ FH IP 82 p_u0q r_u0q G_u0q ∧ FH IP 95 p_u4q r_u4q G_u4q ∧ FH IP 83 p_u61q r_u61q (k4 G_u61q)
def TG_u107q (G_u107q : GT_u107q) (G_u0q : GT_u0q) (G_u4q : GT_u4q) (G_u61q : GT_u61q) : Tab := (67, FE p_u107q r_u107q (k4 G_u107q)) :: (82, FE p_u0q r_u0q G_u0q) :: (95, FE p_u4q r_u4q G_u4q) :: (83, FE p_u61q r_u61q (k4 G_u61q)) :: T42
theorem TG_u107q_ok (G_u107q : GT_u107q) (G_u0q : GT_u0q) (G_u4q : GT_u4q) (G_u61q : GT_u61q) (hG : GH_u107q G_u107q G_u0q G_u4q G_u61q) : TabOk IP (TG_u107q G_u107q G_u0q G_u4q G_u61q) := ⟨FE_ok (hG.1), FE_ok (hG.2.1), FE_ok (hG.2.2.1), FE_ok (hG.2.2.2), T42_ok⟩
abbrev TT_u2q : Type := List AV × Int × Int
def hs_u2q : List PSt := [⟨[(1009500, .junk), (0, .view 4), (1, .fn (.func 83) [.ptr [.fn (.func 69) []]]), (7, .int .i64), (8, .int .i64)], [], 0, 0⟩]
def x_u2q_0 (x0 : List AV) (x1 x2 : Int) : X × St := (X.ret, { tm := [(4, AV.int IntKind.i64 x2)], hp := [], nx := 0, k := 0 })
def x_u2q_1 (x0 : List AV) (x1 x2 : Int) : X × St := (X.exit 0, { tm := [(4, AV.junk)], hp := [], nx := 0, k := 0 })
def x_u2q : List (TT_u2q → X × St) := [(k3 x_u2q_0), (k3 x_u2q_1)]
def st_u2q_0 (G_u107q : GT_u107q) (G_u0q : GT_u0q) (G_u4q : GT_u4q) (G_u61q : GT_u61q) (x0 : List AV) (x1 x2 : Int) : DT (Rd TT_u2q) :=
 .br (decide (x2 < x1))
  (.br (okAt [CS.int IntKind.i64, CS.int IntKind.i64, CS.str, CS.slice 4] x0 x2)
   (.bi (G_u61q (intOf (cellAt x0 x2 0)) (intOf (cellAt x0 x2 1)) (strOf (cellAt x0 x2 2)) (viewOf (cellAt x0 x2 3))) (fun y0 =>
    .br (y0) (.at (.done 0)) (.at (.next ((x0, x1, IntKind.i64.wrap (x2 + 1))))))
    (.no))
   (.no))
  (.at (.done 1))
def st_u2q (G_u107q : GT_u107q) (G_u0q : GT_u0q) (G_u4q : GT_u4q) (G_u61q : GT_u61q) : TT_u2q → DT (Rd TT_u2q) := (fun v => st_u2q_0 G_u107q G_u0q G_u4q G_u61q v.1 v.2.1 v.2.2)
def l_u2q (G_u107q : GT_u107q) (G_u0q : GT_u0q) (G_u4q : GT_u4q) (G_u61q : GT_u61q) (v : TT_u2q) : Option (Nat × TT_u2q) := lock (iterO (fun v => (st_u2q G_u107q G_u0q G_u4q G_u61q v).ev) v)
theorem l_u2q_eq (G_u107q : GT_u107q) (G_u0q : GT_u0q) (G_u4q : GT_u4q) (G_u61q : GT_u61q) (v : TT_u2q) : l_u2q G_u107q G_u0q G_u4q G_u61q v = iterO (fun v => (st_u2q G_u107q G_u0q G_u4q G_u61q v).ev) v := lock_eq _
def ll_u2q (G_u107q : GT_u107q) (G_u0q : GT_u0q) (G_u4q : GT_u4q) (G_u61q : GT_u61q) : LEnt := LE (τ := TT_u2q) (hD hs_u2q) (l_u2q G_u107q G_u0q G_u4q G_u61q) x_u2q
theorem t_u2q (G_u107q : GT_u107q) (G_u0q : GT_u0q) (G_u4q : GT_u4q) (G_u61q : GT_u61q) (hG : GH_u107q G_u107q G_u0q G_u4q G_u61q) : Go.Eng.Told IP (loopAt F95 0).1 (loopAt F95 0).2 (ll_u2q G_u107q G_u0q G_u4q G_u61q) := loop_LE (inferInstance : Inhabited TT_u2q) (hs := hs_u2q) (st := st_u2q G_u107q G_u0q G_u4q G_u61q) (L := []) (TG_u107q_ok G_u107q G_u0q G_u4q G_u61q hG) (LOk_of (l := []) (by kernel_rfl) trivial) (l_u2q_eq G_u107q G_u0q G_u4q G_u61q) (fun v => by kernel_rfl) (fun v => by kernel_rfl)
def tr_u107q (G_u107q : GT_u107q) (G_u0q : GT_u0q) (G_u4q : GT_u4q) (G_u61q : GT_u61q) (x0 x1 : Int) (x2 : List UInt8) (x3 : List AV) : DT B_u107q :=
 .bi (f_u134q x0 x1 x2 x3) (fun y0 =>
  .bi (br y0 (br (sm (G_u0q x3)) (some !gv (G_u0q x3)) none) (some false)) (fun y1 =>
   .at (y1))
   (.no))
  (.no)
def tr_u0q (G_u107q : GT_u107q) (G_u0q : GT_u0q) (G_u4q : GT_u4q) (G_u61q : GT_u61q) (x0 : List AV) : DT B_u0q :=
 .bi (G_u4q x0) (fun y0 =>
  .at (decide (y0 ≥ 0)))
  (.no)
def tr_u4q (G_u107q : GT_u107q) (G_u0q : GT_u0q) (G_u4q : GT_u4q) (G_u61q : GT_u61q) (x0 : List AV) : DT B_u4q :=
 .bi (pj 0
     (l_u2q G_u107q G_u0q G_u4q G_u61q
       (x0, (↑x0.length : Int), 0))) (fun y0 =>
  .at (y0.2.2))
  (.bi (pj 1
      (l_u2q G_u107q G_u0q G_u4q G_u61q
        (x0, (↑x0.length : Int), 0))) (fun y0 =>
   .at (-1))
   (.no))
def tr_u61q (G_u107q : GT_u107q) (G_u0q : GT_u0q) (G_u4q : GT_u4q) (G_u61q : GT_u61q) (x0 x1 : Int) (x2 : List UInt8) (x3 : List AV) : DT B_u61q :=
 .bi (G_u107q x0 x1 x2 x3) (fun y0 =>
  .at (!y0))
  (.no)
end
end Go.Proofs.H12

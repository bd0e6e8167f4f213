/- Functions over plain data. Printed by a program of mine. -/
import Derived.Test.YtbhffafppahmjaaGreatDoorD11_1
import Derived.KernelRfl
set_option linter.unusedVariables false
set_option linter.unusedSimpArgs false
set_option linter.unnecessarySimpa false
namespace Go.Proofs.H11
open Go Go.Eng
set_option maxRecDepth 100000
abbrev B_u9q : Type := Bool
def p_u9q : PArgs := ⟨[.view 1, .str], []⟩
def r_u9q : List PRes := [⟨false, .bool, []⟩]
noncomputable def tr_u9q (x0 : List AV) (x1 : List UInt8) : DT B_u9q :=
 .bi (f_u12q x0 x1) (fun y0 =>
  .at (decide (y0 ≥ 0)))
  (.no)
noncomputable def f_u9q (x0 : List AV) (x1 : List UInt8) : Option B_u9q := lock (tr_u9q x0 x1).ev
theorem f_u9q_eq (x0 : List AV) (x1 : List UInt8) : f_u9q x0 x1 = (tr_u9q x0 x1).ev := lock_eq _
theorem c_u9q : FH IP 71 p_u9q r_u9q (fun (v : List AV × List UInt8) => (f_u9q v.1 v.2 : Option B_u9q)) := fun_FH (F := F71) (L := []) (t := fun (v : List AV × List UInt8) => tr_u9q v.1 v.2) T18_ok (LOk_of (l := []) (by kernel_rfl) trivial) (by kernel_rfl) (fun v => by kernel_rfl) (fun v => f_u9q_eq v.1 v.2)
noncomputable def T19 : Tab := (71, FE p_u9q r_u9q (fun (v : List AV × List UInt8) => (f_u9q v.1 v.2 : Option B_u9q))) :: T18
theorem T19_ok : TabOk IP T19 := ⟨FE_ok c_u9q, T18_ok⟩
abbrev B_u92q : Type := Bool
def p_u92q : PArgs := ⟨[.str], []⟩
def r_u92q : List PRes := [⟨false, .bool, []⟩]
noncomputable def tr_u92q (x0 : List UInt8) : DT B_u92q :=
 .bi (f_u76q) (fun y0 =>
  .bi (f_u9q y0 x0) (fun y1 =>
   .at (y1))
   (.no))
  (.no)
noncomputable def f_u92q (x0 : List UInt8) : Option B_u92q := lock (tr_u92q x0).ev
theorem f_u92q_eq (x0 : List UInt8) : f_u92q x0 = (tr_u92q x0).ev := lock_eq _
theorem c_u92q : FH IP 64 p_u92q r_u92q (fun (v : List UInt8) => (f_u92q v : Option B_u92q)) := fun_FH (F := F64) (L := []) (t := fun (v : List UInt8) => tr_u92q v) T19_ok (LOk_of (l := []) (by kernel_rfl) trivial) (by kernel_rfl) (fun v => by kernel_rfl) (fun v => f_u92q_eq v)
noncomputable def T20 : Tab := (64, FE p_u92q r_u92q (fun (v : List UInt8) => (f_u92q v : Option B_u92q))) :: T19
theorem T20_ok : TabOk IP T20 := ⟨FE_ok c_u92q, T19_ok⟩
abbrev B_u33q : Type := Bool
def p_u33q : PArgs := ⟨[.int .i32], []⟩
def r_u33q : List PRes := [⟨false, .bool, []⟩]
noncomputable def tr_u33q (x0 : Int) : DT B_u33q :=
 .bi (f_u57q x0) (fun y0 =>
  .bi (br y0 (some true) (some (x0 == 46))) (fun y1 =>
   .bi (br y1 (some true) (some (x0 == 37))) (fun y2 =>
    .at (y2))
    (.no))
   (.no))
  (.no)
noncomputable def f_u33q (x0 : Int) : Option B_u33q := lock (tr_u33q x0).ev
theorem f_u33q_eq (x0 : Int) : f_u33q x0 = (tr_u33q x0).ev := lock_eq _
theorem c_u33q : FH IP 67 p_u33q r_u33q (fun (v : Int) => (f_u33q v : Option B_u33q)) := fun_FH (F := F67) (L := []) (t := fun (v : Int) => tr_u33q v) T20_ok (LOk_of (l := []) (by kernel_rfl) trivial) (by kernel_rfl) (fun v => by kernel_rfl) (fun v => f_u33q_eq v)
noncomputable def T21 : Tab := (67, FE p_u33q r_u33q (fun (v : Int) => (f_u33q v : Option B_u33q))) :: T20
theorem T21_ok : TabOk IP T21 := ⟨FE_ok c_u33q, T20_ok⟩
abbrev TT_u24q : Type := List UInt8 × Int
def hs_u24q : List PSt := [⟨[(1005700, .junk), (0, .str), (1, .fn (.func 67) []), (5, .int .i64)], [], 0, 0⟩]
noncomputable def x_u24q_0 (x0 : List UInt8) (x1 : Int) : X × St := (X.exit 0, { tm := [(0, AV.str x0), (5, AV.int IntKind.i64 x1)], hp := [], nx := 0, k := 0 })
noncomputable def x_u24q : List (TT_u24q → X × St) := [fun w => x_u24q_0 w.1 w.2]
noncomputable def st_u24q_0 (x0 : List UInt8) (x1 : Int) : DT (Rd TT_u24q) :=
 .bi (br (decide (x1 < (↑x0.length : Int)))
     (br (inB x0.length x1) (br (sm (f_u33q (IntKind.i32.wrap (byteAt x0 x1)))) (some (gv (f_u33q (IntKind.i32.wrap (byteAt x0 x1))))) none) none) (some false)) (fun y0 =>
  .br (y0) (.at (.next ((x0, IntKind.i64.wrap (x1 + 1))))) (.at (.done 0)))
  (.no)
noncomputable def st_u24q : TT_u24q → DT (Rd TT_u24q) := (fun v => st_u24q_0 v.1 v.2)
noncomputable def l_u24q (v : TT_u24q) : Option (Nat × TT_u24q) := lock (iterO (fun v => (st_u24q v).ev) v)
theorem l_u24q_eq (v : TT_u24q) : l_u24q v = iterO (fun v => (st_u24q v).ev) v := lock_eq _
noncomputable def ll_u24q : LEnt := LE (τ := TT_u24q) (hD hs_u24q) (l_u24q) x_u24q
theorem t_u24q : Go.Eng.Told IP (loopAt F57 0).1 (loopAt F57 0).2 (ll_u24q) := loop_LE (inferInstance : Inhabited TT_u24q) (hs := hs_u24q) (st := st_u24q) (L := []) T21_ok (LOk_of (l := []) (by kernel_rfl) trivial) (l_u24q_eq) (fun v => by kernel_rfl) (fun v => by kernel_rfl)
abbrev B_u41q : Type := List UInt8
def p_u41q : PArgs := ⟨[.str, .fn (.func 67) []], []⟩
def r_u41q : List PRes := [⟨false, .str, []⟩]
noncomputable def tr_u41q (x0 : List UInt8) : DT B_u41q :=
 .bi (pj 0 (l_u24q (x0, 0))) (fun y0 =>
  .br (leB y0.snd y0.fst.length && true) (.at (List.take y0.snd.toNat y0.fst)) (.no))
  (.no)
noncomputable def f_u41q (x0 : List UInt8) : Option B_u41q := lock (tr_u41q x0).ev
theorem f_u41q_eq (x0 : List UInt8) : f_u41q x0 = (tr_u41q x0).ev := lock_eq _
theorem c_u41q : FH IP 57 p_u41q r_u41q (fun (v : List UInt8) => (f_u41q v : Option B_u41q)) := fun_FH (F := F57) (L := [(1005700, ll_u24q)]) (t := fun (v : List UInt8) => tr_u41q v) T21_ok (LOk_of (l := [loopAt F57 0]) (by kernel_rfl) ⟨sel_one (by kernel_rfl) t_u24q, trivial⟩) (by kernel_rfl) (fun v => by kernel_rfl) (fun v => f_u41q_eq v)
noncomputable def T22 : Tab := (57, FE p_u41q r_u41q (fun (v : List UInt8) => (f_u41q v : Option B_u41q))) :: T21
theorem T22_ok : TabOk IP T22 := ⟨FE_ok c_u41q, T21_ok⟩
abbrev TT_u25q : Type := List UInt8 × Int
def hs_u25q : List PSt := [⟨[(1005700, .junk), (0, .str), (1, .fn (.func 65) []), (5, .int .i64)], [], 0, 0⟩]
noncomputable def x_u25q_0 (x0 : List UInt8) (x1 : Int) : X × St := (X.exit 0, { tm := [(0, AV.str x0), (5, AV.int IntKind.i64 x1)], hp := [], nx := 0, k := 0 })
noncomputable def x_u25q : List (TT_u25q → X × St) := [fun w => x_u25q_0 w.1 w.2]
noncomputable def st_u25q_0 (x0 : List UInt8) (x1 : Int) : DT (Rd TT_u25q) :=
 .bi (br (decide (x1 < (↑x0.length : Int)))
     (br (inB x0.length x1) (br (sm (f_u74q (IntKind.i32.wrap (byteAt x0 x1)))) (some (gv (f_u74q (IntKind.i32.wrap (byteAt x0 x1))))) none) none) (some false)) (fun y0 =>
  .br (y0) (.at (.next ((x0, IntKind.i64.wrap (x1 + 1))))) (.at (.done 0)))
  (.no)
noncomputable def st_u25q : TT_u25q → DT (Rd TT_u25q) := (fun v => st_u25q_0 v.1 v.2)
noncomputable def l_u25q (v : TT_u25q) : Option (Nat × TT_u25q) := lock (iterO (fun v => (st_u25q v).ev) v)
theorem l_u25q_eq (v : TT_u25q) : l_u25q v = iterO (fun v => (st_u25q v).ev) v := lock_eq _
noncomputable def ll_u25q : LEnt := LE (τ := TT_u25q) (hD hs_u25q) (l_u25q) x_u25q
theorem t_u25q : Go.Eng.Told IP (loopAt F57 0).1 (loopAt F57 0).2 (ll_u25q) := loop_LE (inferInstance : Inhabited TT_u25q) (hs := hs_u25q) (st := st_u25q) (L := []) T22_ok (LOk_of (l := []) (by kernel_rfl) trivial) (l_u25q_eq) (fun v => by kernel_rfl) (fun v => by kernel_rfl)
abbrev B_u42q : Type := List UInt8
def p_u42q : PArgs := ⟨[.str, .fn (.func 65) []], []⟩
def r_u42q : List PRes := [⟨false, .str, []⟩]
noncomputable def tr_u42q (x0 : List UInt8) : DT B_u42q :=
 .bi (pj 0 (l_u25q (x0, 0))) (fun y0 =>
  .br (leB y0.snd y0.fst.length && true) (.at (List.take y0.snd.toNat y0.fst)) (.no))
  (.no)
noncomputable def f_u42q (x0 : List UInt8) : Option B_u42q := lock (tr_u42q x0).ev
theorem f_u42q_eq (x0 : List UInt8) : f_u42q x0 = (tr_u42q x0).ev := lock_eq _
theorem c_u42q : FH IP 57 p_u42q r_u42q (fun (v : List UInt8) => (f_u42q v : Option B_u42q)) := fun_FH (F := F57) (L := [(1005700, ll_u25q)]) (t := fun (v : List UInt8) => tr_u42q v) T22_ok (LOk_of (l := [loopAt F57 0]) (by kernel_rfl) ⟨sel_one (by kernel_rfl) t_u25q, trivial⟩) (by kernel_rfl) (fun v => by kernel_rfl) (fun v => f_u42q_eq v)
noncomputable def T23 : Tab := (57, FE p_u42q r_u42q (fun (v : List UInt8) => (f_u42q v : Option B_u42q))) :: T22
theorem T23_ok : TabOk IP T23 := ⟨FE_ok c_u42q, T22_ok⟩
abbrev B_u39q : Type := Bool
def p_u39q : PArgs := ⟨[.str], []⟩
def r_u39q : List PRes := [⟨false, .bool, []⟩]
noncomputable def tr_u39q (x0 : List UInt8) : DT B_u39q :=
 .bi (br (!x0 == []) (br (sm (f_u42q x0)) (some (gv (f_u42q x0) == x0)) none) (some false)) (fun y0 =>
  .bi (br y0 (br ((↑x0.length : Int) == 1) (some true) (br (inB x0.length 0) (some (byteAt x0 0 != 48)) none)) (some false)) (fun y1 =>
   .at (y1))
   (.no))
  (.no)
noncomputable def f_u39q (x0 : List UInt8) : Option B_u39q := lock (tr_u39q x0).ev
theorem f_u39q_eq (x0 : List UInt8) : f_u39q x0 = (tr_u39q x0).ev := lock_eq _
theorem c_u39q : FH IP 73 p_u39q r_u39q (fun (v : List UInt8) => (f_u39q v : Option B_u39q)) := fun_FH (F := F73) (L := []) (t := fun (v : List UInt8) => tr_u39q v) T23_ok (LOk_of (l := []) (by kernel_rfl) trivial) (by kernel_rfl) (fun v => by kernel_rfl) (fun v => f_u39q_eq v)
noncomputable def T24 : Tab := (73, FE p_u39q r_u39q (fun (v : List UInt8) => (f_u39q v : Option B_u39q))) :: T23
theorem T24_ok : TabOk IP T24 := ⟨FE_ok c_u39q, T23_ok⟩
abbrev B_u8q : Type := Bool
def p_u8q : PArgs := ⟨[.str, .str], []⟩
def r_u8q : List PRes := [⟨false, .bool, []⟩]
noncomputable def tr_u8q (x0 : List UInt8) (x1 : List UInt8) : DT B_u8q :=
 .bi (br (decide ((↑x0.length : Int) ≥ (↑x1.length : Int)))
     (br (leB (IntKind.i64.wrap ((↑x0.length : Int) - (↑x1.length : Int))) x0.length) (some (List.drop (IntKind.i64.wrap ((↑x0.length : Int) - (↑x1.length : Int))).toNat x0 == x1))
       none)
     (some false)) (fun y0 =>
  .at (y0))
  (.no)
noncomputable def f_u8q (x0 : List UInt8) (x1 : List UInt8) : Option B_u8q := lock (tr_u8q x0 x1).ev
theorem f_u8q_eq (x0 : List UInt8) (x1 : List UInt8) : f_u8q x0 x1 = (tr_u8q x0 x1).ev := lock_eq _
theorem c_u8q : FH IP 106 p_u8q r_u8q (fun (v : List UInt8 × List UInt8) => (f_u8q v.1 v.2 : Option B_u8q)) := fun_FH (F := F106) (L := []) (t := fun (v : List UInt8 × List UInt8) => tr_u8q v.1 v.2) T24_ok (LOk_of (l := []) (by kernel_rfl) trivial) (by kernel_rfl) (fun v => by kernel_rfl) (fun v => f_u8q_eq v.1 v.2)
noncomputable def T25 : Tab := (106, FE p_u8q r_u8q (fun (v : List UInt8 × List UInt8) => (f_u8q v.1 v.2 : Option B_u8q))) :: T24
theorem T25_ok : TabOk IP T25 := ⟨FE_ok c_u8q, T24_ok⟩
abbrev B_u6q : Type := List UInt8 × Bool
def p_u6q : PArgs := ⟨[.str, .str], []⟩
def r_u6q : List PRes := [⟨false, .tup [.str, .bool], []⟩]
noncomputable def tr_u6q (x0 : List UInt8) (x1 : List UInt8) : DT B_u6q :=
 .bi (f_u8q x0 x1) (fun y0 =>
  .br (!y0)
   (.at ((x0, false)))
   (.br (leB (IntKind.i64.wrap ((↑x0.length : Int) - (↑x1.length : Int))) x0.length && true)
    (.at ((List.take (IntKind.i64.wrap ((↑x0.length : Int) - (↑x1.length : Int))).toNat x0, true)))
    (.no)))
  (.no)
noncomputable def f_u6q (x0 : List UInt8) (x1 : List UInt8) : Option B_u6q := lock (tr_u6q x0 x1).ev
theorem f_u6q_eq (x0 : List UInt8) (x1 : List UInt8) : f_u6q x0 x1 = (tr_u6q x0 x1).ev := lock_eq _
theorem c_u6q : FH IP 97 p_u6q r_u6q (fun (v : List UInt8 × List UInt8) => (f_u6q v.1 v.2 : Option B_u6q)) := fun_FH (F := F97) (L := []) (t := fun (v : List UInt8 × List UInt8) => tr_u6q v.1 v.2) T25_ok (LOk_of (l := []) (by kernel_rfl) trivial) (by kernel_rfl) (fun v => by kernel_rfl) (fun v => f_u6q_eq v.1 v.2)
noncomputable def T26 : Tab := (97, FE p_u6q r_u6q (fun (v : List UInt8 × List UInt8) => (f_u6q v.1 v.2 : Option B_u6q))) :: T25
theorem T26_ok : TabOk IP T26 := ⟨FE_ok c_u6q, T25_ok⟩
abbrev B_u16q : Type := List UInt8 × Bool
def p_u16q : PArgs := ⟨[.str, .str], []⟩
def r_u16q : List PRes := [⟨false, .tup [.str, .bool], []⟩]
noncomputable def tr_u16q (x0 : List UInt8) (x1 : List UInt8) : DT B_u16q :=
 .bi (f_u6q x0 x1) (fun y0 =>
  .at ((y0.fst, y0.snd)))
  (.no)
noncomputable def f_u16q (x0 : List UInt8) (x1 : List UInt8) : Option B_u16q := lock (tr_u16q x0 x1).ev
theorem f_u16q_eq (x0 : List UInt8) (x1 : List UInt8) : f_u16q x0 x1 = (tr_u16q x0 x1).ev := lock_eq _
theorem c_u16q : FH IP 85 p_u16q r_u16q (fun (v : List UInt8 × List UInt8) => (f_u16q v.1 v.2 : Option B_u16q)) := fun_FH (F := F85) (L := []) (t := fun (v : List UInt8 × List UInt8) => tr_u16q v.1 v.2) T26_ok (LOk_of (l := []) (by kernel_rfl) trivial) (by kernel_rfl) (fun v => by kernel_rfl) (fun v => f_u16q_eq v.1 v.2)
noncomputable def T27 : Tab := (85, FE p_u16q r_u16q (fun (v : List UInt8 × List UInt8) => (f_u16q v.1 v.2 : Option B_u16q))) :: T26
theorem T27_ok : TabOk IP T27 := ⟨FE_ok c_u16q, T26_ok⟩
abbrev B_u11q : Type := Int
def p_u11q : PArgs := ⟨[.str, .str], []⟩
def r_u11q : List PRes := [⟨false, .int .i64, []⟩]
noncomputable def tr_u11q (x0 : List UInt8) (x1 : List UInt8) : DT B_u11q :=
 .bi (br ((↑x1.length : Int) == 0) (some true) (some (x1 == x0))) (fun y0 =>
  .br (y0)
   (.at (0))
   (.br ((↑x1.length : Int) == 1)
    (.br (inB x1.length 0) (.at (Lib.indexByte x0 (byteAt x1 0).toNat.toUInt8)) (.no))
    (.br (decide ((↑x1.length : Int) ≥ (↑x0.length : Int))) (.at (-1)) (.no))))
  (.no)
noncomputable def f_u11q (x0 : List UInt8) (x1 : List UInt8) : Option B_u11q := lock (tr_u11q x0 x1).ev
theorem f_u11q_eq (x0 : List UInt8) (x1 : List UInt8) : f_u11q x0 x1 = (tr_u11q x0 x1).ev := lock_eq _
theorem c_u11q : FH IP 70 p_u11q r_u11q (fun (v : List UInt8 × List UInt8) => (f_u11q v.1 v.2 : Option B_u11q)) := fun_FH (F := F70) (L := []) (t := fun (v : List UInt8 × List UInt8) => tr_u11q v.1 v.2) T27_ok (LOk_of (l := [loopAt F70 0]) (by kernel_rfl) ⟨sel_no (by kernel_rfl), trivial⟩) (by kernel_rfl) (fun v => by kernel_rfl) (fun v => f_u11q_eq v.1 v.2)
noncomputable def T28 : Tab := (70, FE p_u11q r_u11q (fun (v : List UInt8 × List UInt8) => (f_u11q v.1 v.2 : Option B_u11q))) :: T27
theorem T28_ok : TabOk IP T28 := ⟨FE_ok c_u11q, T27_ok⟩
abbrev B_u13q : Type := List UInt8 × List UInt8 × Bool
def p_u13q : PArgs := ⟨[.str, .str], []⟩
def r_u13q : List PRes := [⟨false, .tup [.str, .str, .bool], []⟩]
noncomputable def tr_u13q (x0 : List UInt8) (x1 : List UInt8) : DT B_u13q :=
 .bi (f_u11q x0 x1) (fun y0 =>
  .br (decide (y0 ≥ 0))
   (.br (leB y0 x0.length && true)
    (.br (leB (IntKind.i64.wrap (y0 + (↑x1.length : Int))) x0.length)
     (.at ((List.take y0.toNat x0, List.drop (IntKind.i64.wrap (y0 + (↑x1.length : Int))).toNat x0, true)))
     (.no))
    (.no))
   (.at ((x0, [], false))))
  (.no)
noncomputable def f_u13q (x0 : List UInt8) (x1 : List UInt8) : Option B_u13q := lock (tr_u13q x0 x1).ev
theorem f_u13q_eq (x0 : List UInt8) (x1 : List UInt8) : f_u13q x0 x1 = (tr_u13q x0 x1).ev := lock_eq _
theorem c_u13q : FH IP 98 p_u13q r_u13q (fun (v : List UInt8 × List UInt8) => (f_u13q v.1 v.2 : Option B_u13q)) := fun_FH (F := F98) (L := []) (t := fun (v : List UInt8 × List UInt8) => tr_u13q v.1 v.2) T28_ok (LOk_of (l := []) (by kernel_rfl) trivial) (by kernel_rfl) (fun v => by kernel_rfl) (fun v => f_u13q_eq v.1 v.2)
noncomputable def T29 : Tab := (98, FE p_u13q r_u13q (fun (v : List UInt8 × List UInt8) => (f_u13q v.1 v.2 : Option B_u13q))) :: T28
theorem T29_ok : TabOk IP T29 := ⟨FE_ok c_u13q, T28_ok⟩
abbrev B_u73q : Type := List UInt8 × List UInt8 × Bool
def p_u73q : PArgs := ⟨[.str, .str], []⟩
def r_u73q : List PRes := [⟨false, .tup [.str, .str, .bool], []⟩]
noncomputable def tr_u73q (x0 : List UInt8) (x1 : List UInt8) : DT B_u73q :=
 .bi (f_u13q x0 x1) (fun y0 =>
  .at ((y0.fst, y0.snd.fst, y0.snd.snd)))
  (.no)
noncomputable def f_u73q (x0 : List UInt8) (x1 : List UInt8) : Option B_u73q := lock (tr_u73q x0 x1).ev
theorem f_u73q_eq (x0 : List UInt8) (x1 : List UInt8) : f_u73q x0 x1 = (tr_u73q x0 x1).ev := lock_eq _
theorem c_u73q : FH IP 86 p_u73q r_u73q (fun (v : List UInt8 × List UInt8) => (f_u73q v.1 v.2 : Option B_u73q)) := fun_FH (F := F86) (L := []) (t := fun (v : List UInt8 × List UInt8) => tr_u73q v.1 v.2) T29_ok (LOk_of (l := []) (by kernel_rfl) trivial) (by kernel_rfl) (fun v => by kernel_rfl) (fun v => f_u73q_eq v.1 v.2)
noncomputable def T30 : Tab := (86, FE p_u73q r_u73q (fun (v : List UInt8 × List UInt8) => (f_u73q v.1 v.2 : Option B_u73q))) :: T29
theorem T30_ok : TabOk IP T30 := ⟨FE_ok c_u73q, T29_ok⟩
abbrev TT_u55q : Type := List UInt8 × List UInt8
def hs_u55q : List PSt := [⟨[(1007500, .junk), (6, .str), (7, .str)], [], 0, 0⟩]
noncomputable def x_u55q_0 (x0 : List UInt8) (x1 : List UInt8) : X × St := (X.exit 0, { tm := [(6, AV.str x0), (7, AV.str x1)], hp := [], nx := 0, k := 0 })
noncomputable def x_u55q : List (TT_u55q → X × St) := [fun w => x_u55q_0 w.1 w.2]
noncomputable def st_u55q_0 (x0 : List UInt8) (x1 : List UInt8) : DT (Rd TT_u55q) :=
 .br (decide ((↑x1.length : Int) < 4))
  (.br (decide (x1.length + 1 ≤ 4611686018427387904)) (.at (.next ((x0, x1 ++ [48])))) (.no))
  (.at (.done 0))
noncomputable def st_u55q : TT_u55q → DT (Rd TT_u55q) := (fun v => st_u55q_0 v.1 v.2)
noncomputable def l_u55q (v : TT_u55q) : Option (Nat × TT_u55q) := lock (iterO (fun v => (st_u55q v).ev) v)
theorem l_u55q_eq (v : TT_u55q) : l_u55q v = iterO (fun v => (st_u55q v).ev) v := lock_eq _
noncomputable def ll_u55q : LEnt := LE (τ := TT_u55q) (hD hs_u55q) (l_u55q) x_u55q
theorem t_u55q : Go.Eng.Told IP (loopAt F75 0).1 (loopAt F75 0).2 (ll_u55q) := loop_LE (inferInstance : Inhabited TT_u55q) (hs := hs_u55q) (st := st_u55q) (L := []) T30_ok (LOk_of (l := []) (by kernel_rfl) trivial) (l_u55q_eq) (fun v => by kernel_rfl) (fun v => by kernel_rfl)
abbrev B_u91q : Type := Int × Int
def p_u91q : PArgs := ⟨[.str], []⟩
def r_u91q : List PRes := [⟨false, .tup [.int .i64, .int .i64], []⟩]
noncomputable def tr_u91q (x0 : List UInt8) : DT B_u91q :=
 .bi (f_u16q x0 [37]) (fun y0 =>
  .bi (f_u73q y0.fst [46]) (fun y1 =>
   .bi (br (!y0.snd) (some true) (br (sm (f_u39q y1.fst)) (some !gv (f_u39q y1.fst)) none)) (fun y2 =>
    .bi (br y2 (some true)
        (br y1.snd.snd
          (br (y1.snd.fst == []) (some true)
            (br (decide ((↑y1.snd.fst.length : Int) > 4)) (some true)
              (br (sm (f_u42q y1.snd.fst))
                (br (!gv (f_u42q y1.snd.fst) == y1.snd.fst) (some true)
                  (br (inB y1.snd.fst.length (IntKind.i64.wrap ((↑y1.snd.fst.length : Int) - 1))) (some (byteAt y1.snd.fst (IntKind.i64.wrap ((↑y1.snd.fst.length : Int) - 1)) == 48))
                    none))
                none)))
          (some false))) (fun y3 =>
     .br (y3)
      (.at ((0, 2)))
      (.br (decide ((↑y1.fst.length : Int) > 3))
       (.at ((0, 1)))
       (.bi (pj 0 (l_u55q (y1.fst, y1.snd.fst))) (fun y4 =>
        .br (decide (y4.fst.length + y4.snd.length ≤ 4611686018427387904))
         (.br (pOk (y4.fst ++ y4.snd) && nOk (Lib.atoiAll (y4.fst ++ y4.snd)))
          (.br (decide (nVal (Lib.atoiAll (y4.fst ++ y4.snd)) > 1000000)) (.at ((0, 1))) (.at ((nVal (Lib.atoiAll (y4.fst ++ y4.snd)), 0))))
          (.br (pOk (y4.fst ++ y4.snd) && nRange (Lib.atoiAll (y4.fst ++ y4.snd)))
           (.br (decide (Lib.atoiSat (y4.fst ++ y4.snd) > 1000000)) (.at ((0, 1))) (.at ((Lib.atoiSat (y4.fst ++ y4.snd), 0))))
           (.br (pOk (y4.fst ++ y4.snd) && nSyntax (Lib.atoiAll (y4.fst ++ y4.snd))) (.at ((0, 0))) (.no))))
         (.no))
        (.no))))
     (.no))
    (.no))
   (.no))
  (.no)
noncomputable def f_u91q (x0 : List UInt8) : Option B_u91q := lock (tr_u91q x0).ev
theorem f_u91q_eq (x0 : List UInt8) : f_u91q x0 = (tr_u91q x0).ev := lock_eq _
theorem c_u91q : FH IP 75 p_u91q r_u91q (fun (v : List UInt8) => (f_u91q v : Option B_u91q)) := fun_FH (F := F75) (L := [(1007500, ll_u55q)]) (t := fun (v : List UInt8) => tr_u91q v) T30_ok (LOk_of (l := [loopAt F75 0]) (by kernel_rfl) ⟨sel_one (by kernel_rfl) t_u55q, trivial⟩) (by kernel_rfl) (fun v => by kernel_rfl) (fun v => f_u91q_eq v)
noncomputable def T31 : Tab := (75, FE p_u91q r_u91q (fun (v : List UInt8) => (f_u91q v : Option B_u91q))) :: T30
theorem T31_ok : TabOk IP T31 := ⟨FE_ok c_u91q, T30_ok⟩
abbrev B_u60q : Type := Int × Int × List UInt8 × Int
def p_u60q : PArgs := ⟨[.str], []⟩
def r_u60q : List PRes := [⟨false, .tup [.agg [.int .i64, .int .i64, .str], .int .i64], []⟩]
noncomputable def tr_u60q (x0 : List UInt8) : DT B_u60q :=
 .bi (f_u39q x0) (fun y0 =>
  .br (y0)
   (.br (pOk x0 && nOk (Lib.parseIntB 64 x0))
    (.at ((2, 0, x0, 0)))
    (.br (pOk x0 && nRange (Lib.parseIntB 64 x0))
     (.at ((0, 0, [], 6)))
     (.br (pOk x0 && nSyntax (Lib.parseIntB 64 x0)) (.at ((0, 0, [], 6))) (.no))))
   (.bi (f_u91q x0) (fun y1 =>
    .br (y1.snd == 0)
     (.at ((3, 0, x0, 0)))
     (.br (y1.snd == 1) (.at ((0, 0, [], 6))) (.at ((0, 0, [], 2)))))
    (.no)))
  (.no)
noncomputable def f_u60q (x0 : List UInt8) : Option B_u60q := lock (tr_u60q x0).ev
theorem f_u60q_eq (x0 : List UInt8) : f_u60q x0 = (tr_u60q x0).ev := lock_eq _
theorem c_u60q : FH IP 66 p_u60q r_u60q (fun (v : List UInt8) => (f_u60q v : Option B_u60q)) := fun_FH (F := F66) (L := []) (t := fun (v : List UInt8) => tr_u60q v) T31_ok (LOk_of (l := []) (by kernel_rfl) trivial) (by kernel_rfl) (fun v => by kernel_rfl) (fun v => f_u60q_eq v)
noncomputable def T32 : Tab := (66, FE p_u60q r_u60q (fun (v : List UInt8) => (f_u60q v : Option B_u60q))) :: T31
theorem T32_ok : TabOk IP T32 := ⟨FE_ok c_u60q, T31_ok⟩
abbrev B_u75q : Type := List AV
def p_u75q : PArgs := ⟨[], []⟩
def r_u75q : List PRes := [⟨false, .view 1, []⟩]
noncomputable def tr_u75q : DT B_u75q :=
 .at ([AV.str ([] ++ [61] ++ [61]), AV.str ([] ++ [33] ++ [61]), AV.str ([] ++ [60] ++ [61]), AV.str ([] ++ [123]), AV.str ([] ++ [125]), AV.str ([] ++ [40]), AV.str ([] ++ [41]),
  AV.str ([] ++ [44]), AV.str ([] ++ [59]), AV.str ([] ++ [58]), AV.str ([] ++ [36]), AV.str ([] ++ [43]), AV.str ([] ++ [45]), AV.str ([] ++ [42]), AV.str ([] ++ [47]),
  AV.str ([] ++ [60])])
noncomputable def f_u75q : Option B_u75q := lock (tr_u75q).ev
theorem f_u75q_eq : f_u75q = (tr_u75q).ev := lock_eq _
theorem c_u75q : FH IP 68 p_u75q r_u75q (fun (v : Unit) => (f_u75q : Option B_u75q)) := fun_FH (F := F68) (L := []) (t := fun (v : Unit) => tr_u75q) T32_ok (LOk_of (l := []) (by kernel_rfl) trivial) (by kernel_rfl) (fun v => by kernel_rfl) (fun v => f_u75q_eq)
noncomputable def T33 : Tab := (68, FE p_u75q r_u75q (fun (v : Unit) => (f_u75q : Option B_u75q))) :: T32
theorem T33_ok : TabOk IP T33 := ⟨FE_ok c_u75q, T32_ok⟩
abbrev B_u7q : Type := Bool
def p_u7q : PArgs := ⟨[.str, .str], []⟩
def r_u7q : List PRes := [⟨false, .bool, []⟩]
noncomputable def tr_u7q (x0 : List UInt8) (x1 : List UInt8) : DT B_u7q :=
 .bi (br (decide ((↑x0.length : Int) ≥ (↑x1.length : Int))) (br (leB (↑x1.length : Int) x0.length && true) (some (List.take (↑x1.length : Int).toNat x0 == x1)) none) (some false)) (fun y0 =>
  .at (y0))
  (.no)
noncomputable def f_u7q (x0 : List UInt8) (x1 : List UInt8) : Option B_u7q := lock (tr_u7q x0 x1).ev
theorem f_u7q_eq (x0 : List UInt8) (x1 : List UInt8) : f_u7q x0 x1 = (tr_u7q x0 x1).ev := lock_eq _
theorem c_u7q : FH IP 77 p_u7q r_u7q (fun (v : List UInt8 × List UInt8) => (f_u7q v.1 v.2 : Option B_u7q)) := fun_FH (F := F77) (L := []) (t := fun (v : List UInt8 × List UInt8) => tr_u7q v.1 v.2) T33_ok (LOk_of (l := []) (by kernel_rfl) trivial) (by kernel_rfl) (fun v => by kernel_rfl) (fun v => f_u7q_eq v.1 v.2)
noncomputable def T34 : Tab := (77, FE p_u7q r_u7q (fun (v : List UInt8 × List UInt8) => (f_u7q v.1 v.2 : Option B_u7q))) :: T33
theorem T34_ok : TabOk IP T34 := ⟨FE_ok c_u7q, T33_ok⟩
abbrev B_u17q : Type := Bool
def p_u17q : PArgs := ⟨[.str, .str], []⟩
def r_u17q : List PRes := [⟨false, .bool, []⟩]
noncomputable def tr_u17q (x0 : List UInt8) (x1 : List UInt8) : DT B_u17q :=
 .bi (f_u7q x0 x1) (fun y0 =>
  .at (y0))
  (.no)
noncomputable def f_u17q (x0 : List UInt8) (x1 : List UInt8) : Option B_u17q := lock (tr_u17q x0 x1).ev
theorem f_u17q_eq (x0 : List UInt8) (x1 : List UInt8) : f_u17q x0 x1 = (tr_u17q x0 x1).ev := lock_eq _
theorem c_u17q : FH IP 69 p_u17q r_u17q (fun (v : List UInt8 × List UInt8) => (f_u17q v.1 v.2 : Option B_u17q)) := fun_FH (F := F69) (L := []) (t := fun (v : List UInt8 × List UInt8) => tr_u17q v.1 v.2) T34_ok (LOk_of (l := []) (by kernel_rfl) trivial) (by kernel_rfl) (fun v => by kernel_rfl) (fun v => f_u17q_eq v.1 v.2)
noncomputable def T35 : Tab := (69, FE p_u17q r_u17q (fun (v : List UInt8 × List UInt8) => (f_u17q v.1 v.2 : Option B_u17q))) :: T34
theorem T35_ok : TabOk IP T35 := ⟨FE_ok c_u17q, T34_ok⟩
abbrev TT_u59q : Type := List UInt8 × List AV × Int × Int × Int × Int × List UInt8
def hs_u59q : List PSt := [⟨[(1005500, .junk), (0, .str), (2, .ref 0 0 0), (34, .view 1), (35, .int .i64), (36, .int .i64)], [(0, .box [.int .i64, .int .i64, .str] false)], 1, 0⟩]
noncomputable def x_u59q_0 (x0 : List UInt8) (x1 : List AV) (x2 : Int) (x3 : Int) (x4 : Int) (x5 : Int) (x6 : List UInt8) : X × St := (X.ret,
  { tm := [(2, AV.ref 0 0 0), (3, AV.int IntKind.i64 0)], hp := [(0, Blk.box [AV.int IntKind.i64 4, AV.int IntKind.i64 0, AV.str (strOf (cellAt x1 x3 0))] false)], nx := 1,
    k := 0 })
noncomputable def x_u59q_1 (x0 : List UInt8) (x1 : List AV) (x2 : Int) (x3 : Int) (x4 : Int) (x5 : Int) (x6 : List UInt8) : X × St := (X.exit 1, { tm := [(2, AV.ref 0 0 0), (3, AV.junk)], hp := [(0, Blk.box [AV.int IntKind.i64 x4, AV.int IntKind.i64 x5, AV.str x6] false)], nx := 1, k := 0 })
noncomputable def x_u59q : List (TT_u59q → X × St) := [fun w => x_u59q_0 w.1 w.2.1 w.2.2.1 w.2.2.2.1 w.2.2.2.2.1 w.2.2.2.2.2.1 w.2.2.2.2.2.2, fun w => x_u59q_1 w.1 w.2.1 w.2.2.1 w.2.2.2.1 w.2.2.2.2.1 w.2.2.2.2.2.1 w.2.2.2.2.2.2]
noncomputable def st_u59q_0 (x0 : List UInt8) (x1 : List AV) (x2 : Int) (x3 : Int) (x4 : Int) (x5 : Int) (x6 : List UInt8) : DT (Rd TT_u59q) :=
 .br (decide (x3 < x2))
  (.br (okAt [CS.str] x1 x3)
   (.bi (f_u17q x0 (strOf (cellAt x1 x3 0))) (fun y0 =>
    .br (y0) (.at (.done 0)) (.at (.next ((x0, x1, x2, IntKind.i64.wrap (x3 + 1), x4, x5, x6)))))
    (.no))
   (.no))
  (.at (.done 1))
noncomputable def st_u59q : TT_u59q → DT (Rd TT_u59q) := (fun v => st_u59q_0 v.1 v.2.1 v.2.2.1 v.2.2.2.1 v.2.2.2.2.1 v.2.2.2.2.2.1 v.2.2.2.2.2.2)
noncomputable def l_u59q (v : TT_u59q) : Option (Nat × TT_u59q) := lock (iterO (fun v => (st_u59q v).ev) v)
theorem l_u59q_eq (v : TT_u59q) : l_u59q v = iterO (fun v => (st_u59q v).ev) v := lock_eq _
noncomputable def ll_u59q : LEnt := LE (τ := TT_u59q) (hD hs_u59q) (l_u59q) x_u59q
theorem t_u59q : Go.Eng.Told IP (loopAt F55 0).1 (loopAt F55 0).2 (ll_u59q) := loop_LE (inferInstance : Inhabited TT_u59q) (hs := hs_u59q) (st := st_u59q) (L := []) T35_ok (LOk_of (l := []) (by kernel_rfl) trivial) (l_u59q_eq) (fun v => by kernel_rfl) (fun v => by kernel_rfl)
abbrev B_u93q : Type := Int × Int × List UInt8 × Int
def p_u93q : PArgs := ⟨[.str], []⟩
def r_u93q : List PRes := [⟨false, .tup [.agg [.int .i64, .int .i64, .str], .int .i64], []⟩]
noncomputable def tr_u93q (x0 : List UInt8) : DT B_u93q :=
 .br (inB x0.length 0)
  (.bi (f_u58q (IntKind.i32.wrap (byteAt x0 0))) (fun y0 =>
   .br (y0)
    (.bi (f_u40q x0) (fun y1 =>
     .bi (f_u92q y1) (fun y2 =>
      .br (y2)
       (.at ((5, 0, y1, 0)))
       (.br (decide ((↑y1.length : Int) > 16)) (.at ((0, 0, [], 4))) (.at ((1, 0, y1, 0)))))
      (.no))
     (.no))
    (.bi (f_u74q (IntKind.i32.wrap (byteAt x0 0))) (fun y1 =>
     .br (y1)
      (.bi (f_u41q x0) (fun y2 =>
       .bi (f_u60q y2) (fun y3 =>
        .at ((y3.fst, y3.snd.fst, y3.snd.snd.fst, y3.snd.snd.snd)))
        (.no))
       (.no))
      (.bi (f_u75q) (fun y2 =>
       .bi (pj 0 (l_u59q (x0, y2, (↑y2.length : Int), 0, 0, 0, []))) (fun y3 =>
        .at ((4, 0, strOf (cellAt y3.snd.fst y3.snd.snd.snd.fst 0), 0)))
        (.bi (pj 1 (l_u59q (x0, y2, (↑y2.length : Int), 0, 0, 0, []))) (fun y3 =>
         .at ((0, 0, [], 2)))
         (.no)))
       (.no)))
     (.no)))
   (.no))
  (.no)
noncomputable def f_u93q (x0 : List UInt8) : Option B_u93q := lock (tr_u93q x0).ev
theorem f_u93q_eq (x0 : List UInt8) : f_u93q x0 = (tr_u93q x0).ev := lock_eq _
theorem c_u93q : FH IP 55 p_u93q r_u93q (fun (v : List UInt8) => (f_u93q v : Option B_u93q)) := fun_FH (F := F55) (L := [(1005500, ll_u59q)]) (t := fun (v : List UInt8) => tr_u93q v) T35_ok (LOk_of (l := [loopAt F55 0]) (by kernel_rfl) ⟨sel_one (by kernel_rfl) t_u59q, trivial⟩) (by kernel_rfl) (fun v => by kernel_rfl) (fun v => f_u93q_eq v)
noncomputable def T36 : Tab := (55, FE p_u93q r_u93q (fun (v : List UInt8) => (f_u93q v : Option B_u93q))) :: T35
theorem T36_ok : TabOk IP T36 := ⟨FE_ok c_u93q, T35_ok⟩
abbrev TT_u20q : Type := (List UInt8 × Int) ⊕ (List UInt8 × Int × List AV)
def hs_u20q : List PSt := [⟨[(1005000, .junk), (0, .str), (5, .nils 3), (6, .int .i64)], [], 0, 0⟩, ⟨[(1005000, .junk), (0, .str), (5, .own 0 0), (6, .int .i64)], [(0, .arr 3 false)], 1, 0⟩]
noncomputable def x_u20q_0 (x0 : List UInt8) (x1 : Int) : X × St := (X.ret, { tm := [(2, AV.nils { sz := 3, kd := NKd.nil }), (3, AV.int IntKind.i64 0), (4, AV.int IntKind.i64 0)], hp := [], nx := 0, k := 0 })
noncomputable def x_u20q_1 (x0 : List UInt8) (x1 : Int) : X × St := (X.ret,
  {
    tm :=
      [(2, AV.nils { sz := 3, kd := NKd.nil }), (3, AV.int IntKind.i64 (IntKind.i64.wrap (x1 + (↑(Lib.countByte (List.take (gv (f_u56q x0)).toNat x0) 10) : Int)))),
        (4, AV.int IntKind.i64 (gv (f_u93q (List.drop (gv (f_u56q x0)).toNat x0))).snd.snd.snd)],
    hp := [], nx := 0, k := 0 })
noncomputable def x_u20q_2 (x0 : List UInt8) (x1 : Int) (x2 : List AV) : X × St := (X.ret, { tm := [(2, AV.own 0 0 none), (3, AV.int IntKind.i64 0), (4, AV.int IntKind.i64 0)], hp := [(0, Blk.arr 3 x2 false)], nx := 1, k := 0 })
noncomputable def x_u20q_3 (x0 : List UInt8) (x1 : Int) (x2 : List AV) : X × St := (X.ret,
  {
    tm :=
      [(2, AV.nils { sz := 3, kd := NKd.nil }), (3, AV.int IntKind.i64 (IntKind.i64.wrap (x1 + (↑(Lib.countByte (List.take (gv (f_u56q x0)).toNat x0) 10) : Int)))),
        (4, AV.int IntKind.i64 (gv (f_u93q (List.drop (gv (f_u56q x0)).toNat x0))).snd.snd.snd)],
    hp := [], nx := 0, k := 0 })
noncomputable def x_u20q : List (TT_u20q → X × St) := [fun w => x_u20q_0 (sl w).1 (sl w).2, fun w => x_u20q_1 (sl w).1 (sl w).2, fun w => x_u20q_2 (sr w).1 (sr w).2.1 (sr w).2.2, fun w => x_u20q_3 (sr w).1 (sr w).2.1 (sr w).2.2]
noncomputable def st_u20q_0 (x0 : List UInt8) (x1 : Int) : DT (Rd TT_u20q) :=
 .bi (f_u56q x0) (fun y0 =>
  .br (leB y0 x0.length && true)
   (.br (leB y0 x0.length)
    (.br (List.drop y0.toNat x0 == [])
     (.at (.done 0))
     (.bi (f_u93q (List.drop y0.toNat x0)) (fun y1 =>
      .br (y1.snd.snd.snd != 0)
       (.at (.done 1))
       (.br (leB (↑y1.snd.snd.fst.length : Int) (List.drop y0.toNat x0).length)
        (.at (.next ((.inr (List.drop (↑y1.snd.snd.fst.length : Int).toNat (List.drop y0.toNat x0), IntKind.i64.wrap (x1 + (↑(Lib.countByte (List.take y0.toNat x0) 10) : Int)), [AV.agg [AV.int IntKind.i64 y1.fst, AV.int IntKind.i64 (IntKind.i64.wrap (x1 + (↑(Lib.countByte (List.take y0.toNat x0) 10) : Int))), AV.str y1.snd.snd.fst]])))))
        (.no)))
      (.no)))
    (.no))
   (.no))
  (.no)
noncomputable def st_u20q_1 (x0 : List UInt8) (x1 : Int) (x2 : List AV) : DT (Rd TT_u20q) :=
 .bi (f_u56q x0) (fun y0 =>
  .br (leB y0 x0.length && true)
   (.br (leB y0 x0.length)
    (.br (List.drop y0.toNat x0 == [])
     (.at (.done 2))
     (.bi (f_u93q (List.drop y0.toNat x0)) (fun y1 =>
      .br (y1.snd.snd.snd != 0)
       (.at (.done 3))
       (.br (room (x2.length + 1) 32)
        (.br (leB (↑y1.snd.snd.fst.length : Int) (List.drop y0.toNat x0).length)
         (.at (.next ((.inr (List.drop (↑y1.snd.snd.fst.length : Int).toNat (List.drop y0.toNat x0), IntKind.i64.wrap (x1 + (↑(Lib.countByte (List.take y0.toNat x0) 10) : Int)), x2 ++ [AV.agg [AV.int IntKind.i64 y1.fst, AV.int IntKind.i64 (IntKind.i64.wrap (x1 + (↑(Lib.countByte (List.take y0.toNat x0) 10) : Int))), AV.str y1.snd.snd.fst]])))))
         (.no))
        (.no)))
      (.no)))
    (.no))
   (.no))
  (.no)
noncomputable def st_u20q : TT_u20q → DT (Rd TT_u20q) := (Sum.elim (fun v => st_u20q_0 v.1 v.2) (fun v => st_u20q_1 v.1 v.2.1 v.2.2))
noncomputable def l_u20q (v : TT_u20q) : Option (Nat × TT_u20q) := lock (iterO (fun v => (st_u20q v).ev) v)
theorem l_u20q_eq (v : TT_u20q) : l_u20q v = iterO (fun v => (st_u20q v).ev) v := lock_eq _
noncomputable def ll_u20q : LEnt := LE (τ := TT_u20q) (hD hs_u20q) (l_u20q) x_u20q
theorem t_u20q : Go.Eng.Told IP (loopAt F50 0).1 (loopAt F50 0).2 (ll_u20q) := loop_LE (inferInstance : Inhabited TT_u20q) (hs := hs_u20q) (st := st_u20q) (L := []) T36_ok (LOk_of (l := []) (by kernel_rfl) trivial) (l_u20q_eq) (fun v => match v with | (.inl v) => by kernel_rfl | (.inr v) => by kernel_rfl) (fun v => match v with | (.inl v) => by kernel_rfl | (.inr v) => by kernel_rfl)
abbrev B_u30q : Type := List AV × Int × Int
def p_u30q : PArgs := ⟨[.str], []⟩
def r_u30q : List PRes := [⟨false, .tup [.view 3, .int .i64, .int .i64], []⟩]
noncomputable def tr_u30q (x0 : List UInt8) : DT B_u30q :=
 .br (decide ((↑x0.length : Int) > 2048))
  (.at (([], 0, 5)))
  (.bi (pj 0 (l_u20q (Sum.inl (x0, 1)))) (fun y0 =>
   .at (([], 0, 0)))
   (.bi (pj 1 (l_u20q (Sum.inl (x0, 1)))) (fun y0 =>
    .at (([], IntKind.i64.wrap ((sl y0).snd + (↑(Lib.countByte (List.take (gv (f_u56q (sl y0).fst)).toNat (sl y0).fst) 10) : Int)), (gv (f_u93q (List.drop (gv (f_u56q (sl y0).fst)).toNat (sl y0).fst))).snd.snd.snd)))
    (.bi (pj 2 (l_u20q (Sum.inl (x0, 1)))) (fun y0 =>
     .at (((sr y0).snd.snd, 0, 0)))
     (.bi (pj 3 (l_u20q (Sum.inl (x0, 1)))) (fun y0 =>
      .at (([], IntKind.i64.wrap ((sr y0).snd.fst + (↑(Lib.countByte (List.take (gv (f_u56q (sr y0).fst)).toNat (sr y0).fst) 10) : Int)), (gv (f_u93q (List.drop (gv (f_u56q (sr y0).fst)).toNat (sr y0).fst))).snd.snd.snd)))
      (.no)))))
noncomputable def f_u30q (x0 : List UInt8) : Option B_u30q := lock (tr_u30q x0).ev
theorem f_u30q_eq (x0 : List UInt8) : f_u30q x0 = (tr_u30q x0).ev := lock_eq _
theorem c_u30q : FH IP 50 p_u30q r_u30q (fun (v : List UInt8) => (f_u30q v : Option B_u30q)) := fun_FH (F := F50) (L := [(1005000, ll_u20q)]) (t := fun (v : List UInt8) => tr_u30q v) T36_ok (LOk_of (l := [loopAt F50 0]) (by kernel_rfl) ⟨sel_one (by kernel_rfl) t_u20q, trivial⟩) (by kernel_rfl) (fun v => by kernel_rfl) (fun v => f_u30q_eq v)
noncomputable def T37 : Tab := (50, FE p_u30q r_u30q (fun (v : List UInt8) => (f_u30q v : Option B_u30q))) :: T36
theorem T37_ok : TabOk IP T37 := ⟨FE_ok c_u30q, T36_ok⟩
abbrev B_u38q : Type := Bool
def p_u38q : PArgs := ⟨[.str], []⟩
def r_u38q : List PRes := [⟨false, .bool, []⟩]
noncomputable def tr_u38q (x0 : List UInt8) : DT B_u38q :=
 .bi (f_u30q x0) (fun y0 =>
  .bi (br (y0.snd.snd == 0) (some ((↑y0.fst.length : Int) == 1)) (some false)) (fun y1 =>
   .bi (br y1 (br (okAt [CS.int IntKind.i64, CS.int IntKind.i64, CS.str] y0.fst 0) (some (intOf (cellAt y0.fst 0 0) == 1)) none) (some false)) (fun y2 =>
    .bi (br y2 (br (okAt [CS.int IntKind.i64, CS.int IntKind.i64, CS.str] y0.fst 0) (some (strOf (cellAt y0.fst 0 2) == x0)) none) (some false)) (fun y3 =>
     .at (y3))
     (.no))
    (.no))
   (.no))
  (.no)
noncomputable def f_u38q (x0 : List UInt8) : Option B_u38q := lock (tr_u38q x0).ev
theorem f_u38q_eq (x0 : List UInt8) : f_u38q x0 = (tr_u38q x0).ev := lock_eq _
theorem c_u38q : FH IP 46 p_u38q r_u38q (fun (v : List UInt8) => (f_u38q v : Option B_u38q)) := fun_FH (F := F46) (L := []) (t := fun (v : List UInt8) => tr_u38q v) T37_ok (LOk_of (l := []) (by kernel_rfl) trivial) (by kernel_rfl) (fun v => by kernel_rfl) (fun v => f_u38q_eq v)
noncomputable def T38 : Tab := (46, FE p_u38q r_u38q (fun (v : List UInt8) => (f_u38q v : Option B_u38q))) :: T37
theorem T38_ok : TabOk IP T38 := ⟨FE_ok c_u38q, T37_ok⟩
abbrev B_u90q : Type := Bool
def p_u90q : PArgs := ⟨[.agg [.int .i64, .int .i64, .str, .view 4]], []⟩
def r_u90q : List PRes := [⟨false, .bool, []⟩]
noncomputable def tr_u90q (x0 : Int) (x1 : Int) (x2 : List UInt8) (x3 : List AV) : DT B_u90q :=
 .bi (br (x0 != 4) (some true) (br (sm (f_u38q x2)) (some (gv (f_u38q x2))) none)) (fun y0 =>
  .at (y0))
  (.no)
noncomputable def f_u90q (x0 : Int) (x1 : Int) (x2 : List UInt8) (x3 : List AV) : Option B_u90q := lock (tr_u90q x0 x1 x2 x3).ev
theorem f_u90q_eq (x0 : Int) (x1 : Int) (x2 : List UInt8) (x3 : List AV) : f_u90q x0 x1 x2 x3 = (tr_u90q x0 x1 x2 x3).ev := lock_eq _
theorem c_u90q : FH IP 34 p_u90q r_u90q (fun (v : Int × Int × List UInt8 × List AV) => (f_u90q v.1 v.2.1 v.2.2.1 v.2.2.2 : Option B_u90q)) := fun_FH (F := F34) (L := []) (t := fun (v : Int × Int × List UInt8 × List AV) => tr_u90q v.1 v.2.1 v.2.2.1 v.2.2.2) T38_ok (LOk_of (l := []) (by kernel_rfl) trivial) (by kernel_rfl) (fun v => by kernel_rfl) (fun v => f_u90q_eq v.1 v.2.1 v.2.2.1 v.2.2.2)
noncomputable def T39 : Tab := (34, FE p_u90q r_u90q (fun (v : Int × Int × List UInt8 × List AV) => (f_u90q v.1 v.2.1 v.2.2.1 v.2.2.2 : Option B_u90q))) :: T38
theorem T39_ok : TabOk IP T39 := ⟨FE_ok c_u90q, T38_ok⟩
abbrev B_u71q : Type := Bool
def p_u71q : PArgs := ⟨[.agg [.int .i64, .int .i64, .str, .view 4], .fn (.func 34) []], []⟩
def r_u71q : List PRes := [⟨false, .bool, []⟩]
abbrev GT_u71q : Type := Int → Int → (List UInt8) → (List AV) → Option B_u71q
abbrev B_u0q : Type := Bool
def p_u0q : PArgs := ⟨[.view 4, .fn (.func 44) [.ptr [.fn (.func 34) []]]], []⟩
def r_u0q : List PRes := [⟨false, .bool, []⟩]
abbrev GT_u0q : Type := (List AV) → Option B_u0q
abbrev B_u4q : Type := Int
def p_u4q : PArgs := ⟨[.view 4, .fn (.func 44) [.ptr [.fn (.func 34) []]]], []⟩
def r_u4q : List PRes := [⟨false, .int .i64, []⟩]
abbrev GT_u4q : Type := (List AV) → Option B_u4q
abbrev B_u36q : Type := Bool
def p_u36q : PArgs := ⟨[.agg [.int .i64, .int .i64, .str, .view 4], .ptr [.fn (.func 34) []]], []⟩
def r_u36q : List PRes := [⟨false, .bool, []⟩]
abbrev GT_u36q : Type := Int → Int → (List UInt8) → (List AV) → Option B_u36q
def GH_u71q (G_u71q : GT_u71q) (G_u0q : GT_u0q) (G_u4q : GT_u4q) (G_u36q : GT_u36q) : Prop := FH IP 32 p_u71q r_u71q (fun (v : Int × Int × List UInt8 × List AV) => (G_u71q v.1 v.2.1 v.2.2.1 v.2.2.2 : Option B_u71q)) ∧ FH IP 43 p_u0q r_u0q (fun (v : List AV) => (G_u0q v : Option B_u0q)) ∧ FH IP 49 p_u4q r_u4q (fun (v : List AV) => (G_u4q v : Option B_u4q)) ∧ FH IP 44 p_u36q r_u36q (fun (v : Int × Int × List UInt8 × List AV) => (G_u36q v.1 v.2.1 v.2.2.1 v.2.2.2 : Option B_u36q))
noncomputable def TG_u71q (G_u71q : GT_u71q) (G_u0q : GT_u0q) (G_u4q : GT_u4q) (G_u36q : GT_u36q) : Tab := (32, FE p_u71q r_u71q (fun (v : Int × Int × List UInt8 × List AV) => (G_u71q v.1 v.2.1 v.2.2.1 v.2.2.2 : Option B_u71q))) :: (43, FE p_u0q r_u0q (fun (v : List AV) => (G_u0q v : Option B_u0q))) :: (49, FE p_u4q r_u4q (fun (v : List AV) => (G_u4q v : Option B_u4q))) :: (44, FE p_u36q r_u36q (fun (v : Int × Int × List UInt8 × List AV) => (G_u36q v.1 v.2.1 v.2.2.1 v.2.2.2 : Option B_u36q))) :: T39
theorem TG_u71q_ok (G_u71q : GT_u71q) (G_u0q : GT_u0q) (G_u4q : GT_u4q) (G_u36q : GT_u36q) (hG : GH_u71q G_u71q G_u0q G_u4q G_u36q) : TabOk IP (TG_u71q G_u71q G_u0q G_u4q G_u36q) := ⟨FE_ok (hG.1), FE_ok (hG.2.1), FE_ok (hG.2.2.1), FE_ok (hG.2.2.2), T39_ok⟩
abbrev TT_u2q : Type := List AV × Int × Int
def hs_u2q : List PSt := [⟨[(1004900, .junk), (0, .view 4), (1, .fn (.func 44) [.ptr [.fn (.func 34) []]]), (7, .int .i64), (8, .int .i64)], [], 0, 0⟩]
noncomputable def x_u2q_0 (x0 : List AV) (x1 : Int) (x2 : Int) : X × St := (X.ret, { tm := [(4, AV.int IntKind.i64 x2)], hp := [], nx := 0, k := 0 })
noncomputable def x_u2q_1 (x0 : List AV) (x1 : Int) (x2 : Int) : X × St := (X.exit 0, { tm := [(4, AV.junk)], hp := [], nx := 0, k := 0 })
noncomputable def x_u2q : List (TT_u2q → X × St) := [fun w => x_u2q_0 w.1 w.2.1 w.2.2, fun w => x_u2q_1 w.1 w.2.1 w.2.2]
noncomputable def st_u2q_0 (G_u71q : GT_u71q) (G_u0q : GT_u0q) (G_u4q : GT_u4q) (G_u36q : GT_u36q) (x0 : List AV) (x1 : Int) (x2 : Int) : DT (Rd TT_u2q) :=
 .br (decide (x2 < x1))
  (.br (okAt [CS.int IntKind.i64, CS.int IntKind.i64, CS.str, CS.slice 4] x0 x2)
   (.bi (G_u36q (intOf (cellAt x0 x2 0)) (intOf (cellAt x0 x2 1)) (strOf (cellAt x0 x2 2)) (viewOf (cellAt x0 x2 3))) (fun y0 =>
    .br (y0) (.at (.done 0)) (.at (.next ((x0, x1, IntKind.i64.wrap (x2 + 1))))))
    (.no))
   (.no))
  (.at (.done 1))
noncomputable def st_u2q (G_u71q : GT_u71q) (G_u0q : GT_u0q) (G_u4q : GT_u4q) (G_u36q : GT_u36q) : TT_u2q → DT (Rd TT_u2q) := (fun v => st_u2q_0 G_u71q G_u0q G_u4q G_u36q v.1 v.2.1 v.2.2)
noncomputable def l_u2q (G_u71q : GT_u71q) (G_u0q : GT_u0q) (G_u4q : GT_u4q) (G_u36q : GT_u36q) (v : TT_u2q) : Option (Nat × TT_u2q) := lock (iterO (fun v => (st_u2q G_u71q G_u0q G_u4q G_u36q v).ev) v)
theorem l_u2q_eq (G_u71q : GT_u71q) (G_u0q : GT_u0q) (G_u4q : GT_u4q) (G_u36q : GT_u36q) (v : TT_u2q) : l_u2q G_u71q G_u0q G_u4q G_u36q v = iterO (fun v => (st_u2q G_u71q G_u0q G_u4q G_u36q v).ev) v := lock_eq _
noncomputable def ll_u2q (G_u71q : GT_u71q) (G_u0q : GT_u0q) (G_u4q : GT_u4q) (G_u36q : GT_u36q) : LEnt := LE (τ := TT_u2q) (hD hs_u2q) (l_u2q G_u71q G_u0q G_u4q G_u36q) x_u2q
theorem t_u2q (G_u71q : GT_u71q) (G_u0q : GT_u0q) (G_u4q : GT_u4q) (G_u36q : GT_u36q) (hG : GH_u71q G_u71q G_u0q G_u4q G_u36q) : Go.Eng.Told IP (loopAt F49 0).1 (loopAt F49 0).2 (ll_u2q G_u71q G_u0q G_u4q G_u36q) := loop_LE (inferInstance : Inhabited TT_u2q) (hs := hs_u2q) (st := st_u2q G_u71q G_u0q G_u4q G_u36q) (L := []) (TG_u71q_ok G_u71q G_u0q G_u4q G_u36q hG) (LOk_of (l := []) (by kernel_rfl) trivial) (l_u2q_eq G_u71q G_u0q G_u4q G_u36q) (fun v => by kernel_rfl) (fun v => by kernel_rfl)
noncomputable def tr_u71q (G_u71q : GT_u71q) (G_u0q : GT_u0q) (G_u4q : GT_u4q) (G_u36q : GT_u36q) (x0 : Int) (x1 : Int) (x2 : List UInt8) (x3 : List AV) : DT B_u71q :=
 .bi (f_u90q x0 x1 x2 x3) (fun y0 =>
  .bi (br y0 (br (sm (G_u0q x3)) (some !gv (G_u0q x3)) none) (some false)) (fun y1 =>
   .at (y1))
   (.no))
  (.no)
noncomputable def tr_u0q (G_u71q : GT_u71q) (G_u0q : GT_u0q) (G_u4q : GT_u4q) (G_u36q : GT_u36q) (x0 : List AV) : DT B_u0q :=
 .bi (G_u4q x0) (fun y0 =>
  .at (decide (y0 ≥ 0)))
  (.no)
noncomputable def tr_u4q (G_u71q : GT_u71q) (G_u0q : GT_u0q) (G_u4q : GT_u4q) (G_u36q : GT_u36q) (x0 : List AV) : DT B_u4q :=
 .bi (pj 0
     (l_u2q G_u71q G_u0q G_u4q G_u36q
       (x0, (↑x0.length : Int), 0))) (fun y0 =>
  .at (y0.snd.snd))
  (.bi (pj 1
      (l_u2q G_u71q G_u0q G_u4q G_u36q
        (x0, (↑x0.length : Int), 0))) (fun y0 =>
   .at (-1))
   (.no))
noncomputable def tr_u36q (G_u71q : GT_u71q) (G_u0q : GT_u0q) (G_u4q : GT_u4q) (G_u36q : GT_u36q) (x0 : Int) (x1 : Int) (x2 : List UInt8) (x3 : List AV) : DT B_u36q :=
 .bi (G_u71q x0 x1 x2 x3) (fun y0 =>
  .at (!y0))
  (.no)
end Go.Proofs.H11

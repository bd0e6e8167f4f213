/- Functions over plain data. Printed by a program of mine. -/
import Derived.Test.YthljpgljbpdmjaaGreatDoorD15e_2
import Derived.KernelRfl
set_option linter.unusedVariables false
set_option linter.unusedSimpArgs false
set_option linter.unnecessarySimpa false
namespace Go.Proofs.H15e
open Go Go.Eng
set_option maxRecDepth 100000
abbrev TT_u54q : Type := List UInt8 × Int
def hs_u54q : List PSt := [⟨[(1015100, .junk), (0, .str), (3, .int .i64)], [], 0, 0⟩]
noncomputable def x_u54q_0 (x0 : List UInt8) (x1 : Int) : X × St := (X.ret, { tm := [(2, AV.int IntKind.i64 x1), (3, AV.int IntKind.i64 x1)], hp := [], nx := 0, k := 0 })
noncomputable def x_u54q_1 (x0 : List UInt8) (x1 : Int) : X × St := (X.exit 0, { tm := [(2, AV.junk), (3, AV.int IntKind.i64 x1)], hp := [], nx := 0, k := 0 })
noncomputable def x_u54q : List (TT_u54q → X × St) := [fun w => x_u54q_0 w.1 w.2, fun w => x_u54q_1 w.1 w.2]
noncomputable def st_u54q_0 (x0 : List UInt8) (x1 : Int) : DT (Rd TT_u54q) :=
 .br (decide (x1 < (↑x0.length : Int)))
  (.br (inB x0.length x1)
   (.br (byteAt x0 x1 == 32)
    (.br (byteAt x0 x1 == 32)
     (.at (.next ((x0, IntKind.i64.wrap (x1 + 1)))))
     (.br (byteAt x0 x1 == 35)
      (.br (leB x1 x0.length)
       (.bi (f_u89q (List.drop x1.toNat x0)) (fun y0 =>
        .at (.next ((x0, IntKind.i64.wrap (x1 + (↑y0.length : Int))))))
        (.no))
       (.no))
      (.at (.done 0))))
    (.br (byteAt x0 x1 == 9)
     (.br (byteAt x0 x1 == 9)
      (.at (.next ((x0, IntKind.i64.wrap (x1 + 1)))))
      (.br (byteAt x0 x1 == 35)
       (.br (leB x1 x0.length)
        (.bi (f_u89q (List.drop x1.toNat x0)) (fun y0 =>
         .at (.next ((x0, IntKind.i64.wrap (x1 + (↑y0.length : Int))))))
         (.no))
        (.no))
       (.at (.done 0))))
     (.br (byteAt x0 x1 == 10)
      (.at (.next ((x0, IntKind.i64.wrap (x1 + 1)))))
      (.br (byteAt x0 x1 == 35)
       (.br (leB x1 x0.length)
        (.bi (f_u89q (List.drop x1.toNat x0)) (fun y0 =>
         .at (.next ((x0, IntKind.i64.wrap (x1 + (↑y0.length : Int))))))
         (.no))
        (.no))
       (.at (.done 0))))))
   (.no))
  (.at (.done 1))
noncomputable def st_u54q : TT_u54q → DT (Rd TT_u54q) := (fun v => st_u54q_0 v.1 v.2)
noncomputable def l_u54q (v : TT_u54q) : Option (Nat × TT_u54q) := lock (iterO (fun v => (st_u54q v).ev) v)
theorem l_u54q_eq (v : TT_u54q) : l_u54q v = iterO (fun v => (st_u54q v).ev) v := lock_eq _
noncomputable def ll_u54q : LEnt := LE (τ := TT_u54q) (hD hs_u54q) (l_u54q) x_u54q
theorem t_u54q : Go.Eng.Told IP (loopAt F151 0).1 (loopAt F151 0).2 (ll_u54q) := loop_LE (inferInstance : Inhabited TT_u54q) (hs := hs_u54q) (st := st_u54q) (L := []) T25_ok (LOk_of (l := []) (by kernel_rfl) trivial) (l_u54q_eq) (fun v => by kernel_rfl) (fun v => by kernel_rfl)
abbrev B_u84q : Type := Int
def p_u84q : PArgs := ⟨[.str], []⟩
def r_u84q : List PRes := [⟨false, .int .i64, []⟩]
noncomputable def tr_u84q (x0 : List UInt8) : DT B_u84q :=
 .bi (pj 0 (l_u54q (x0, 0))) (fun y0 =>
  .at (y0.2))
  (.bi (pj 1 (l_u54q (x0, 0))) (fun y0 =>
   .at (y0.2))
   (.no))
noncomputable def f_u84q (x0 : List UInt8) : Option B_u84q := lock (tr_u84q x0).ev
theorem f_u84q_eq (x0 : List UInt8) : f_u84q x0 = (tr_u84q x0).ev := lock_eq _
theorem c_u84q : FH IP 151 p_u84q r_u84q (fun (v : List UInt8) => (f_u84q v : Option B_u84q)) := fun_FH (F := F151) (L := [(1015100, ll_u54q)]) (t := fun (v : List UInt8) => tr_u84q v) T25_ok (LOk_of (l := [loopAt F151 0]) (by kernel_rfl) ⟨sel_one (by kernel_rfl) t_u54q, trivial⟩) (by kernel_rfl) (fun v => by kernel_rfl) (fun v => f_u84q_eq v)
noncomputable def T26 : Tab := (151, FE p_u84q r_u84q (fun (v : List UInt8) => (f_u84q v : Option B_u84q))) :: T25
theorem T26_ok : TabOk IP T26 := ⟨FE_ok c_u84q, T25_ok⟩
abbrev B_u86q : Type := Bool
def p_u86q : PArgs := ⟨[.int .i32], []⟩
def r_u86q : List PRes := [⟨false, .bool, []⟩]
noncomputable def tr_u86q (x0 : Int) : DT B_u86q :=
 .bi (br (decide (x0 ≥ 97)) (some (decide (x0 ≤ 122))) (some false)) (fun y0 =>
  .at (y0))
  (.no)
noncomputable def f_u86q (x0 : Int) : Option B_u86q := lock (tr_u86q x0).ev
theorem f_u86q_eq (x0 : Int) : f_u86q x0 = (tr_u86q x0).ev := lock_eq _
theorem c_u86q : FH IP 169 p_u86q r_u86q (fun (v : Int) => (f_u86q v : Option B_u86q)) := fun_FH (F := F169) (L := []) (t := fun (v : Int) => tr_u86q v) T26_ok (LOk_of (l := []) (by kernel_rfl) trivial) (by kernel_rfl) (fun v => by kernel_rfl) (fun v => f_u86q_eq v)
noncomputable def T27 : Tab := (169, FE p_u86q r_u86q (fun (v : Int) => (f_u86q v : Option B_u86q))) :: T26
theorem T27_ok : TabOk IP T27 := ⟨FE_ok c_u86q, T26_ok⟩
abbrev B_u96q : Type := Bool
def p_u96q : PArgs := ⟨[.int .i32], []⟩
def r_u96q : List PRes := [⟨false, .bool, []⟩]
noncomputable def tr_u96q (x0 : Int) : DT B_u96q :=
 .bi (br (decide (x0 ≥ 48)) (some (decide (x0 ≤ 57))) (some false)) (fun y0 =>
  .at (y0))
  (.no)
noncomputable def f_u96q (x0 : Int) : Option B_u96q := lock (tr_u96q x0).ev
theorem f_u96q_eq (x0 : Int) : f_u96q x0 = (tr_u96q x0).ev := lock_eq _
theorem c_u96q : FH IP 172 p_u96q r_u96q (fun (v : Int) => (f_u96q v : Option B_u96q)) := fun_FH (F := F172) (L := []) (t := fun (v : Int) => tr_u96q v) T27_ok (LOk_of (l := []) (by kernel_rfl) trivial) (by kernel_rfl) (fun v => by kernel_rfl) (fun v => f_u96q_eq v)
noncomputable def T28 : Tab := (172, FE p_u96q r_u96q (fun (v : Int) => (f_u96q v : Option B_u96q))) :: T27
theorem T28_ok : TabOk IP T28 := ⟨FE_ok c_u96q, T27_ok⟩
abbrev B_u85q : Type := Bool
def p_u85q : PArgs := ⟨[.int .i32], []⟩
def r_u85q : List PRes := [⟨false, .bool, []⟩]
noncomputable def tr_u85q (x0 : Int) : DT B_u85q :=
 .bi (f_u86q x0) (fun y0 =>
  .bi (br y0 (some true) (br (sm (f_u96q x0)) (some (gv (f_u96q x0))) none)) (fun y1 =>
   .bi (br y1 (some true) (some (x0 == 95))) (fun y2 =>
    .at (y2))
    (.no))
   (.no))
  (.no)
noncomputable def f_u85q (x0 : Int) : Option B_u85q := lock (tr_u85q x0).ev
theorem f_u85q_eq (x0 : Int) : f_u85q x0 = (tr_u85q x0).ev := lock_eq _
theorem c_u85q : FH IP 170 p_u85q r_u85q (fun (v : Int) => (f_u85q v : Option B_u85q)) := fun_FH (F := F170) (L := []) (t := fun (v : Int) => tr_u85q v) T28_ok (LOk_of (l := []) (by kernel_rfl) trivial) (by kernel_rfl) (fun v => by kernel_rfl) (fun v => f_u85q_eq v)
noncomputable def T29 : Tab := (170, FE p_u85q r_u85q (fun (v : Int) => (f_u85q v : Option B_u85q))) :: T28
theorem T29_ok : TabOk IP T29 := ⟨FE_ok c_u85q, T28_ok⟩
abbrev TT_u40q : Type := List UInt8 × Int
def hs_u40q : List PSt := [⟨[(1016400, .junk), (0, .str), (1, .fn (.func 170) []), (5, .int .i64)], [], 0, 0⟩]
noncomputable def x_u40q_0 (x0 : List UInt8) (x1 : Int) : X × St := (X.exit 0, { tm := [(0, AV.str x0), (5, AV.int IntKind.i64 x1)], hp := [], nx := 0, k := 0 })
noncomputable def x_u40q : List (TT_u40q → X × St) := [fun w => x_u40q_0 w.1 w.2]
noncomputable def st_u40q_0 (x0 : List UInt8) (x1 : Int) : DT (Rd TT_u40q) :=
 .bi (br (decide (x1 < (↑x0.length : Int)))
     (br (inB x0.length x1) (br (sm (f_u85q (IntKind.i32.wrap (byteAt x0 x1)))) (some (gv (f_u85q (IntKind.i32.wrap (byteAt x0 x1))))) none) none) (some false)) (fun y0 =>
  .br (y0) (.at (.next ((x0, IntKind.i64.wrap (x1 + 1))))) (.at (.done 0)))
  (.no)
noncomputable def st_u40q : TT_u40q → DT (Rd TT_u40q) := (fun v => st_u40q_0 v.1 v.2)
noncomputable def l_u40q (v : TT_u40q) : Option (Nat × TT_u40q) := lock (iterO (fun v => (st_u40q v).ev) v)
theorem l_u40q_eq (v : TT_u40q) : l_u40q v = iterO (fun v => (st_u40q v).ev) v := lock_eq _
noncomputable def ll_u40q : LEnt := LE (τ := TT_u40q) (hD hs_u40q) (l_u40q) x_u40q
theorem t_u40q : Go.Eng.Told IP (loopAt F164 0).1 (loopAt F164 0).2 (ll_u40q) := loop_LE (inferInstance : Inhabited TT_u40q) (hs := hs_u40q) (st := st_u40q) (L := []) T29_ok (LOk_of (l := []) (by kernel_rfl) trivial) (l_u40q_eq) (fun v => by kernel_rfl) (fun v => by kernel_rfl)
abbrev B_u65q : Type := List UInt8
def p_u65q : PArgs := ⟨[.str, .fn (.func 170) []], []⟩
def r_u65q : List PRes := [⟨false, .str, []⟩]
noncomputable def tr_u65q (x0 : List UInt8) : DT B_u65q :=
 .bi (pj 0 (l_u40q (x0, 0))) (fun y0 =>
  .br (leB y0.2 y0.1.length && true) (.at (List.take y0.2.toNat y0.1)) (.no))
  (.no)
noncomputable def f_u65q (x0 : List UInt8) : Option B_u65q := lock (tr_u65q x0).ev
theorem f_u65q_eq (x0 : List UInt8) : f_u65q x0 = (tr_u65q x0).ev := lock_eq _
theorem c_u65q : FH IP 164 p_u65q r_u65q (fun (v : List UInt8) => (f_u65q v : Option B_u65q)) := fun_FH (F := F164) (L := [(1016400, ll_u40q)]) (t := fun (v : List UInt8) => tr_u65q v) T29_ok (LOk_of (l := [loopAt F164 0]) (by kernel_rfl) ⟨sel_one (by kernel_rfl) t_u40q, trivial⟩) (by kernel_rfl) (fun v => by kernel_rfl) (fun v => f_u65q_eq v)
noncomputable def T30 : Tab := (164, FE p_u65q r_u65q (fun (v : List UInt8) => (f_u65q v : Option B_u65q))) :: T29
theorem T30_ok : TabOk IP T30 := ⟨FE_ok c_u65q, T29_ok⟩
abbrev B_u98q : Type := List AV
def p_u98q : PArgs := ⟨[], []⟩
def r_u98q : List PRes := [⟨false, .view 1, []⟩]
noncomputable def tr_u98q : DT B_u98q :=
 .at ([AV.str ([] ++ [112] ++ [114] ++ [111] ++ [100] ++ [117] ++ [99] ++ [116]), AV.str ([] ++ [99] ++ [117] ++ [114] ++ [114] ++ [101] ++ [110] ++ [99] ++ [121]),
  AV.str ([] ++ [99] ++ [97] ++ [108] ++ [101] ++ [110] ++ [100] ++ [97] ++ [114]), AV.str ([] ++ [102] ++ [114] ++ [111] ++ [109]),
  AV.str ([] ++ [101] ++ [118] ++ [101] ++ [114] ++ [121]), AV.str ([] ++ [111] ++ [118] ++ [101] ++ [114] ++ [100] ++ [114] ++ [97] ++ [102] ++ [116]),
  AV.str ([] ++ [116] ++ [97] ++ [120]), AV.str ([] ++ [99] ++ [114] ++ [101] ++ [100] ++ [105] ++ [116]), AV.str ([] ++ [100] ++ [101] ++ [98] ++ [105] ++ [116]),
  AV.str ([] ++ [109] ++ [97] ++ [114] ++ [103] ++ [105] ++ [110] ++ [97] ++ [108]), AV.str ([] ++ [119] ++ [104] ++ [111] ++ [108] ++ [101]),
  AV.str ([] ++ [97] ++ [99] ++ [116] ++ [51] ++ [54] ++ [48]), AV.str ([] ++ [97] ++ [99] ++ [116] ++ [51] ++ [54] ++ [53]),
  AV.str ([] ++ [97] ++ [99] ++ [116] ++ [117] ++ [97] ++ [108]), AV.str ([] ++ [116] ++ [104] ++ [105] ++ [114] ++ [116] ++ [121]),
  AV.str ([] ++ [100] ++ [111] ++ [119] ++ [110]), AV.str ([] ++ [117] ++ [112]), AV.str ([] ++ [102] ++ [108] ++ [111] ++ [111] ++ [114]),
  AV.str ([] ++ [99] ++ [101] ++ [105] ++ [108]), AV.str ([] ++ [104] ++ [97] ++ [108] ++ [102] ++ [95] ++ [117] ++ [112]),
  AV.str ([] ++ [104] ++ [97] ++ [108] ++ [102] ++ [95] ++ [101] ++ [118] ++ [101] ++ [110]), AV.str ([] ++ [107] ++ [101] ++ [101] ++ [112]),
  AV.str ([] ++ [100] ++ [114] ++ [111] ++ [112]), AV.str ([] ++ [102] ++ [101] ++ [101]), AV.str ([] ++ [108] ++ [105] ++ [109] ++ [105] ++ [116]),
  AV.str ([] ++ [119] ++ [104] ++ [101] ++ [110]), AV.str ([] ++ [97] ++ [109] ++ [111] ++ [117] ++ [110] ++ [116] ++ [95] ++ [111] ++ [102]),
  AV.str ([] ++ [115] ++ [105] ++ [110] ++ [103] ++ [108] ++ [101]), AV.str ([] ++ [100] ++ [97] ++ [105] ++ [108] ++ [121]),
  AV.str ([] ++ [109] ++ [111] ++ [110] ++ [116] ++ [104] ++ [108] ++ [121]), AV.str ([] ++ [109] ++ [111] ++ [110] ++ [116] ++ [104]),
  AV.str ([] ++ [114] ++ [101] ++ [116] ++ [117] ++ [114] ++ [110]), AV.str ([] ++ [99] ++ [108] ++ [111] ++ [115] ++ [101]),
  AV.str ([] ++ [101] ++ [118] ++ [101] ++ [110] ++ [116]), AV.str ([] ++ [105] ++ [102]), AV.str ([] ++ [116] ++ [104] ++ [101] ++ [110]),
  AV.str ([] ++ [101] ++ [108] ++ [115] ++ [101]), AV.str ([] ++ [97] ++ [110] ++ [100]), AV.str ([] ++ [111] ++ [114]), AV.str ([] ++ [110] ++ [111] ++ [116]),
  AV.str ([] ++ [109] ++ [105] ++ [110]), AV.str ([] ++ [109] ++ [97] ++ [120])])
noncomputable def f_u98q : Option B_u98q := lock (tr_u98q).ev
theorem f_u98q_eq : f_u98q = (tr_u98q).ev := lock_eq _
theorem c_u98q : FH IP 184 p_u98q r_u98q (fun (v : Unit) => (f_u98q : Option B_u98q)) := fun_FH (F := F184) (L := []) (t := fun (v : Unit) => tr_u98q) T30_ok (LOk_of (l := []) (by kernel_rfl) trivial) (by kernel_rfl) (fun v => by kernel_rfl) (fun v => f_u98q_eq)
noncomputable def T31 : Tab := (184, FE p_u98q r_u98q (fun (v : Unit) => (f_u98q : Option B_u98q))) :: T30
theorem T31_ok : TabOk IP T31 := ⟨FE_ok c_u98q, T30_ok⟩
abbrev TT_u18q : Type := List AV × List UInt8 × Int × Int
def hs_u18q : List PSt := [⟨[(1019500, .junk), (0, .view 1), (1, .str), (7, .int .i64), (8, .int .i64)], [], 0, 0⟩]
noncomputable def x_u18q_0 (x0 : List AV) (x1 : List UInt8) (x2 x3 : Int) : X × St := (X.ret, { tm := [(4, AV.int IntKind.i64 x3)], hp := [], nx := 0, k := 0 })
noncomputable def x_u18q_1 (x0 : List AV) (x1 : List UInt8) (x2 x3 : Int) : X × St := (X.exit 0, { tm := [(4, AV.junk)], hp := [], nx := 0, k := 0 })
noncomputable def x_u18q : List (TT_u18q → X × St) := [fun w => x_u18q_0 w.1 w.2.1 w.2.2.1 w.2.2.2, fun w => x_u18q_1 w.1 w.2.1 w.2.2.1 w.2.2.2]
noncomputable def st_u18q_0 (x0 : List AV) (x1 : List UInt8) (x2 x3 : Int) : DT (Rd TT_u18q) :=
 .br (decide (x3 < x2))
  (.br (okAt [CS.str] x0 x3)
   (.br (x1 == strOf (cellAt x0 x3 0)) (.at (.done 0)) (.at (.next ((x0, x1, x2, IntKind.i64.wrap (x3 + 1))))))
   (.no))
  (.at (.done 1))
noncomputable def st_u18q : TT_u18q → DT (Rd TT_u18q) := (fun v => st_u18q_0 v.1 v.2.1 v.2.2.1 v.2.2.2)
noncomputable def l_u18q (v : TT_u18q) : Option (Nat × TT_u18q) := lock (iterO (fun v => (st_u18q v).ev) v)
theorem l_u18q_eq (v : TT_u18q) : l_u18q v = iterO (fun v => (st_u18q v).ev) v := lock_eq _
noncomputable def ll_u18q : LEnt := LE (τ := TT_u18q) (hD hs_u18q) (l_u18q) x_u18q
theorem t_u18q : Go.Eng.Told IP (loopAt F195 0).1 (loopAt F195 0).2 (ll_u18q) := loop_LE (inferInstance : Inhabited TT_u18q) (hs := hs_u18q) (st := st_u18q) (L := []) T31_ok (LOk_of (l := []) (by kernel_rfl) trivial) (l_u18q_eq) (fun v => by kernel_rfl) (fun v => by kernel_rfl)
abbrev B_u20q : Type := Int
def p_u20q : PArgs := ⟨[.view 1, .str], []⟩
def r_u20q : List PRes := [⟨false, .int .i64, []⟩]
noncomputable def tr_u20q (x0 : List AV) (x1 : List UInt8) : DT B_u20q :=
 .bi (pj 0 (l_u18q (x0, x1, (↑x0.length : Int), 0))) (fun y0 =>
  .at (y0.2.2.2))
  (.bi (pj 1 (l_u18q (x0, x1, (↑x0.length : Int), 0))) (fun y0 =>
   .at (-1))
   (.no))
noncomputable def f_u20q (x0 : List AV) (x1 : List UInt8) : Option B_u20q := lock (tr_u20q x0 x1).ev
theorem f_u20q_eq (x0 : List AV) (x1 : List UInt8) : f_u20q x0 x1 = (tr_u20q x0 x1).ev := lock_eq _
theorem c_u20q : FH IP 195 p_u20q r_u20q (fun (v : List AV × List UInt8) => (f_u20q v.1 v.2 : Option B_u20q)) := fun_FH (F := F195) (L := [(1019500, ll_u18q)]) (t := fun (v : List AV × List UInt8) => tr_u20q v.1 v.2) T31_ok (LOk_of (l := [loopAt F195 0]) (by kernel_rfl) ⟨sel_one (by kernel_rfl) t_u18q, trivial⟩) (by kernel_rfl) (fun v => by kernel_rfl) (fun v => f_u20q_eq v.1 v.2)
noncomputable def T32 : Tab := (195, FE p_u20q r_u20q (fun (v : List AV × List UInt8) => (f_u20q v.1 v.2 : Option B_u20q))) :: T31
theorem T32_ok : TabOk IP T32 := ⟨FE_ok c_u20q, T31_ok⟩
abbrev B_u17q : Type := Bool
def p_u17q : PArgs := ⟨[.view 1, .str], []⟩
def r_u17q : List PRes := [⟨false, .bool, []⟩]
noncomputable def tr_u17q (x0 : List AV) (x1 : List UInt8) : DT B_u17q :=
 .bi (f_u20q x0 x1) (fun y0 =>
  .at (decide (y0 ≥ 0)))
  (.no)
noncomputable def f_u17q (x0 : List AV) (x1 : List UInt8) : Option B_u17q := lock (tr_u17q x0 x1).ev
theorem f_u17q_eq (x0 : List AV) (x1 : List UInt8) : f_u17q x0 x1 = (tr_u17q x0 x1).ev := lock_eq _
theorem c_u17q : FH IP 183 p_u17q r_u17q (fun (v : List AV × List UInt8) => (f_u17q v.1 v.2 : Option B_u17q)) := fun_FH (F := F183) (L := []) (t := fun (v : List AV × List UInt8) => tr_u17q v.1 v.2) T32_ok (LOk_of (l := []) (by kernel_rfl) trivial) (by kernel_rfl) (fun v => by kernel_rfl) (fun v => f_u17q_eq v.1 v.2)
noncomputable def T33 : Tab := (183, FE p_u17q r_u17q (fun (v : List AV × List UInt8) => (f_u17q v.1 v.2 : Option B_u17q))) :: T32
theorem T33_ok : TabOk IP T33 := ⟨FE_ok c_u17q, T32_ok⟩
abbrev B_u111q : Type := Bool
def p_u111q : PArgs := ⟨[.str], []⟩
def r_u111q : List PRes := [⟨false, .bool, []⟩]
noncomputable def tr_u111q (x0 : List UInt8) : DT B_u111q :=
 .bi (f_u98q) (fun y0 =>
  .bi (f_u17q y0 x0) (fun y1 =>
   .at (y1))
   (.no))
  (.no)
noncomputable def f_u111q (x0 : List UInt8) : Option B_u111q := lock (tr_u111q x0).ev
theorem f_u111q_eq (x0 : List UInt8) : f_u111q x0 = (tr_u111q x0).ev := lock_eq _
theorem c_u111q : FH IP 171 p_u111q r_u111q (fun (v : List UInt8) => (f_u111q v : Option B_u111q)) := fun_FH (F := F171) (L := []) (t := fun (v : List UInt8) => tr_u111q v) T33_ok (LOk_of (l := []) (by kernel_rfl) trivial) (by kernel_rfl) (fun v => by kernel_rfl) (fun v => f_u111q_eq v)
noncomputable def T34 : Tab := (171, FE p_u111q r_u111q (fun (v : List UInt8) => (f_u111q v : Option B_u111q))) :: T33
theorem T34_ok : TabOk IP T34 := ⟨FE_ok c_u111q, T33_ok⟩
abbrev B_u56q : Type := Bool
def p_u56q : PArgs := ⟨[.int .i32], []⟩
def r_u56q : List PRes := [⟨false, .bool, []⟩]
noncomputable def tr_u56q (x0 : Int) : DT B_u56q :=
 .bi (f_u85q x0) (fun y0 =>
  .bi (br y0 (some true) (some (x0 == 46))) (fun y1 =>
   .bi (br y1 (some true) (some (x0 == 37))) (fun y2 =>
    .at (y2))
    (.no))
   (.no))
  (.no)
noncomputable def f_u56q (x0 : Int) : Option B_u56q := lock (tr_u56q x0).ev
theorem f_u56q_eq (x0 : Int) : f_u56q x0 = (tr_u56q x0).ev := lock_eq _
theorem c_u56q : FH IP 174 p_u56q r_u56q (fun (v : Int) => (f_u56q v : Option B_u56q)) := fun_FH (F := F174) (L := []) (t := fun (v : Int) => tr_u56q v) T34_ok (LOk_of (l := []) (by kernel_rfl) trivial) (by kernel_rfl) (fun v => by kernel_rfl) (fun v => f_u56q_eq v)
noncomputable def T35 : Tab := (174, FE p_u56q r_u56q (fun (v : Int) => (f_u56q v : Option B_u56q))) :: T34
theorem T35_ok : TabOk IP T35 := ⟨FE_ok c_u56q, T34_ok⟩
abbrev TT_u41q : Type := List UInt8 × Int
def hs_u41q : List PSt := [⟨[(1016400, .junk), (0, .str), (1, .fn (.func 174) []), (5, .int .i64)], [], 0, 0⟩]
noncomputable def x_u41q_0 (x0 : List UInt8) (x1 : Int) : X × St := (X.exit 0, { tm := [(0, AV.str x0), (5, AV.int IntKind.i64 x1)], hp := [], nx := 0, k := 0 })
noncomputable def x_u41q : List (TT_u41q → X × St) := [fun w => x_u41q_0 w.1 w.2]
noncomputable def st_u41q_0 (x0 : List UInt8) (x1 : Int) : DT (Rd TT_u41q) :=
 .bi (br (decide (x1 < (↑x0.length : Int)))
     (br (inB x0.length x1) (br (sm (f_u56q (IntKind.i32.wrap (byteAt x0 x1)))) (some (gv (f_u56q (IntKind.i32.wrap (byteAt x0 x1))))) none) none) (some false)) (fun y0 =>
  .br (y0) (.at (.next ((x0, IntKind.i64.wrap (x1 + 1))))) (.at (.done 0)))
  (.no)
noncomputable def st_u41q : TT_u41q → DT (Rd TT_u41q) := (fun v => st_u41q_0 v.1 v.2)
noncomputable def l_u41q (v : TT_u41q) : Option (Nat × TT_u41q) := lock (iterO (fun v => (st_u41q v).ev) v)
theorem l_u41q_eq (v : TT_u41q) : l_u41q v = iterO (fun v => (st_u41q v).ev) v := lock_eq _
noncomputable def ll_u41q : LEnt := LE (τ := TT_u41q) (hD hs_u41q) (l_u41q) x_u41q
theorem t_u41q : Go.Eng.Told IP (loopAt F164 0).1 (loopAt F164 0).2 (ll_u41q) := loop_LE (inferInstance : Inhabited TT_u41q) (hs := hs_u41q) (st := st_u41q) (L := []) T35_ok (LOk_of (l := []) (by kernel_rfl) trivial) (l_u41q_eq) (fun v => by kernel_rfl) (fun v => by kernel_rfl)
abbrev B_u66q : Type := List UInt8
def p_u66q : PArgs := ⟨[.str, .fn (.func 174) []], []⟩
def r_u66q : List PRes := [⟨false, .str, []⟩]
noncomputable def tr_u66q (x0 : List UInt8) : DT B_u66q :=
 .bi (pj 0 (l_u41q (x0, 0))) (fun y0 =>
  .br (leB y0.2 y0.1.length && true) (.at (List.take y0.2.toNat y0.1)) (.no))
  (.no)
noncomputable def f_u66q (x0 : List UInt8) : Option B_u66q := lock (tr_u66q x0).ev
theorem f_u66q_eq (x0 : List UInt8) : f_u66q x0 = (tr_u66q x0).ev := lock_eq _
theorem c_u66q : FH IP 164 p_u66q r_u66q (fun (v : List UInt8) => (f_u66q v : Option B_u66q)) := fun_FH (F := F164) (L := [(1016400, ll_u41q)]) (t := fun (v : List UInt8) => tr_u66q v) T35_ok (LOk_of (l := [loopAt F164 0]) (by kernel_rfl) ⟨sel_one (by kernel_rfl) t_u41q, trivial⟩) (by kernel_rfl) (fun v => by kernel_rfl) (fun v => f_u66q_eq v)
noncomputable def T36 : Tab := (164, FE p_u66q r_u66q (fun (v : List UInt8) => (f_u66q v : Option B_u66q))) :: T35
theorem T36_ok : TabOk IP T36 := ⟨FE_ok c_u66q, T35_ok⟩
abbrev TT_u42q : Type := List UInt8 × Int
def hs_u42q : List PSt := [⟨[(1016400, .junk), (0, .str), (1, .fn (.func 172) []), (5, .int .i64)], [], 0, 0⟩]
noncomputable def x_u42q_0 (x0 : List UInt8) (x1 : Int) : X × St := (X.exit 0, { tm := [(0, AV.str x0), (5, AV.int IntKind.i64 x1)], hp := [], nx := 0, k := 0 })
noncomputable def x_u42q : List (TT_u42q → X × St) := [fun w => x_u42q_0 w.1 w.2]
noncomputable def st_u42q_0 (x0 : List UInt8) (x1 : Int) : DT (Rd TT_u42q) :=
 .bi (br (decide (x1 < (↑x0.length : Int)))
     (br (inB x0.length x1) (br (sm (f_u96q (IntKind.i32.wrap (byteAt x0 x1)))) (some (gv (f_u96q (IntKind.i32.wrap (byteAt x0 x1))))) none) none) (some false)) (fun y0 =>
  .br (y0) (.at (.next ((x0, IntKind.i64.wrap (x1 + 1))))) (.at (.done 0)))
  (.no)
noncomputable def st_u42q : TT_u42q → DT (Rd TT_u42q) := (fun v => st_u42q_0 v.1 v.2)
noncomputable def l_u42q (v : TT_u42q) : Option (Nat × TT_u42q) := lock (iterO (fun v => (st_u42q v).ev) v)
theorem l_u42q_eq (v : TT_u42q) : l_u42q v = iterO (fun v => (st_u42q v).ev) v := lock_eq _
noncomputable def ll_u42q : LEnt := LE (τ := TT_u42q) (hD hs_u42q) (l_u42q) x_u42q
theorem t_u42q : Go.Eng.Told IP (loopAt F164 0).1 (loopAt F164 0).2 (ll_u42q) := loop_LE (inferInstance : Inhabited TT_u42q) (hs := hs_u42q) (st := st_u42q) (L := []) T36_ok (LOk_of (l := []) (by kernel_rfl) trivial) (l_u42q_eq) (fun v => by kernel_rfl) (fun v => by kernel_rfl)
abbrev B_u67q : Type := List UInt8
def p_u67q : PArgs := ⟨[.str, .fn (.func 172) []], []⟩
def r_u67q : List PRes := [⟨false, .str, []⟩]
noncomputable def tr_u67q (x0 : List UInt8) : DT B_u67q :=
 .bi (pj 0 (l_u42q (x0, 0))) (fun y0 =>
  .br (leB y0.2 y0.1.length && true) (.at (List.take y0.2.toNat y0.1)) (.no))
  (.no)
noncomputable def f_u67q (x0 : List UInt8) : Option B_u67q := lock (tr_u67q x0).ev
theorem f_u67q_eq (x0 : List UInt8) : f_u67q x0 = (tr_u67q x0).ev := lock_eq _
theorem c_u67q : FH IP 164 p_u67q r_u67q (fun (v : List UInt8) => (f_u67q v : Option B_u67q)) := fun_FH (F := F164) (L := [(1016400, ll_u42q)]) (t := fun (v : List UInt8) => tr_u67q v) T36_ok (LOk_of (l := [loopAt F164 0]) (by kernel_rfl) ⟨sel_one (by kernel_rfl) t_u42q, trivial⟩) (by kernel_rfl) (fun v => by kernel_rfl) (fun v => f_u67q_eq v)
noncomputable def T37 : Tab := (164, FE p_u67q r_u67q (fun (v : List UInt8) => (f_u67q v : Option B_u67q))) :: T36
theorem T37_ok : TabOk IP T37 := ⟨FE_ok c_u67q, T36_ok⟩
abbrev B_u64q : Type := Bool
def p_u64q : PArgs := ⟨[.str], []⟩
def r_u64q : List PRes := [⟨false, .bool, []⟩]
noncomputable def tr_u64q (x0 : List UInt8) : DT B_u64q :=
 .bi (br (!x0 == []) (br (sm (f_u67q x0)) (some (gv (f_u67q x0) == x0)) none) (some false)) (fun y0 =>
  .bi (br y0 (br ((↑x0.length : Int) == 1) (some true) (br (inB x0.length 0) (some (byteAt x0 0 != 48)) none)) (some false)) (fun y1 =>
   .at (y1))
   (.no))
  (.no)
noncomputable def f_u64q (x0 : List UInt8) : Option B_u64q := lock (tr_u64q x0).ev
theorem f_u64q_eq (x0 : List UInt8) : f_u64q x0 = (tr_u64q x0).ev := lock_eq _
theorem c_u64q : FH IP 185 p_u64q r_u64q (fun (v : List UInt8) => (f_u64q v : Option B_u64q)) := fun_FH (F := F185) (L := []) (t := fun (v : List UInt8) => tr_u64q v) T37_ok (LOk_of (l := []) (by kernel_rfl) trivial) (by kernel_rfl) (fun v => by kernel_rfl) (fun v => f_u64q_eq v)
noncomputable def T38 : Tab := (185, FE p_u64q r_u64q (fun (v : List UInt8) => (f_u64q v : Option B_u64q))) :: T37
theorem T38_ok : TabOk IP T38 := ⟨FE_ok c_u64q, T37_ok⟩
abbrev B_u16q : Type := Bool
def p_u16q : PArgs := ⟨[.str, .str], []⟩
def r_u16q : List PRes := [⟨false, .bool, []⟩]
noncomputable def tr_u16q (x0 x1 : List UInt8) : DT B_u16q :=
 .bi (br (decide ((↑x0.length : Int) ≥ (↑x1.length : Int)))
     (br (leB (IntKind.i64.wrap ((↑x0.length : Int) - (↑x1.length : Int))) x0.length) (some (List.drop (IntKind.i64.wrap ((↑x0.length : Int) - (↑x1.length : Int))).toNat x0 == x1))
       none)
     (some false)) (fun y0 =>
  .at (y0))
  (.no)
noncomputable def f_u16q (x0 x1 : List UInt8) : Option B_u16q := lock (tr_u16q x0 x1).ev
theorem f_u16q_eq (x0 x1 : List UInt8) : f_u16q x0 x1 = (tr_u16q x0 x1).ev := lock_eq _
theorem c_u16q : FH IP 221 p_u16q r_u16q (fun (v : List UInt8 × List UInt8) => (f_u16q v.1 v.2 : Option B_u16q)) := fun_FH (F := F221) (L := []) (t := fun (v : List UInt8 × List UInt8) => tr_u16q v.1 v.2) T38_ok (LOk_of (l := []) (by kernel_rfl) trivial) (by kernel_rfl) (fun v => by kernel_rfl) (fun v => f_u16q_eq v.1 v.2)
noncomputable def T39 : Tab := (221, FE p_u16q r_u16q (fun (v : List UInt8 × List UInt8) => (f_u16q v.1 v.2 : Option B_u16q))) :: T38
theorem T39_ok : TabOk IP T39 := ⟨FE_ok c_u16q, T38_ok⟩
abbrev B_u14q : Type := List UInt8 × Bool
def p_u14q : PArgs := ⟨[.str, .str], []⟩
def r_u14q : List PRes := [⟨false, .tup [.str, .bool], []⟩]
noncomputable def tr_u14q (x0 x1 : List UInt8) : DT B_u14q :=
 .bi (f_u16q x0 x1) (fun y0 =>
  .br (!y0)
   (.at ((x0, false)))
   (.br (leB (IntKind.i64.wrap ((↑x0.length : Int) - (↑x1.length : Int))) x0.length && true)
    (.at ((List.take (IntKind.i64.wrap ((↑x0.length : Int) - (↑x1.length : Int))).toNat x0, true)))
    (.no)))
  (.no)
noncomputable def f_u14q (x0 x1 : List UInt8) : Option B_u14q := lock (tr_u14q x0 x1).ev
theorem f_u14q_eq (x0 x1 : List UInt8) : f_u14q x0 x1 = (tr_u14q x0 x1).ev := lock_eq _
theorem c_u14q : FH IP 211 p_u14q r_u14q (fun (v : List UInt8 × List UInt8) => (f_u14q v.1 v.2 : Option B_u14q)) := fun_FH (F := F211) (L := []) (t := fun (v : List UInt8 × List UInt8) => tr_u14q v.1 v.2) T39_ok (LOk_of (l := []) (by kernel_rfl) trivial) (by kernel_rfl) (fun v => by kernel_rfl) (fun v => f_u14q_eq v.1 v.2)
noncomputable def T40 : Tab := (211, FE p_u14q r_u14q (fun (v : List UInt8 × List UInt8) => (f_u14q v.1 v.2 : Option B_u14q))) :: T39
theorem T40_ok : TabOk IP T40 := ⟨FE_ok c_u14q, T39_ok⟩
abbrev B_u28q : Type := List UInt8 × Bool
def p_u28q : PArgs := ⟨[.str, .str], []⟩
def r_u28q : List PRes := [⟨false, .tup [.str, .bool], []⟩]
noncomputable def tr_u28q (x0 x1 : List UInt8) : DT B_u28q :=
 .bi (f_u14q x0 x1) (fun y0 =>
  .at ((y0.1, y0.2)))
  (.no)
noncomputable def f_u28q (x0 x1 : List UInt8) : Option B_u28q := lock (tr_u28q x0 x1).ev
theorem f_u28q_eq (x0 x1 : List UInt8) : f_u28q x0 x1 = (tr_u28q x0 x1).ev := lock_eq _
theorem c_u28q : FH IP 198 p_u28q r_u28q (fun (v : List UInt8 × List UInt8) => (f_u28q v.1 v.2 : Option B_u28q)) := fun_FH (F := F198) (L := []) (t := fun (v : List UInt8 × List UInt8) => tr_u28q v.1 v.2) T40_ok (LOk_of (l := []) (by kernel_rfl) trivial) (by kernel_rfl) (fun v => by kernel_rfl) (fun v => f_u28q_eq v.1 v.2)
noncomputable def T41 : Tab := (198, FE p_u28q r_u28q (fun (v : List UInt8 × List UInt8) => (f_u28q v.1 v.2 : Option B_u28q))) :: T40
theorem T41_ok : TabOk IP T41 := ⟨FE_ok c_u28q, T40_ok⟩
abbrev B_u19q : Type := Int
def p_u19q : PArgs := ⟨[.str, .str], []⟩
def r_u19q : List PRes := [⟨false, .int .i64, []⟩]
noncomputable def tr_u19q (x0 x1 : List UInt8) : DT B_u19q :=
 .bi (br ((↑x1.length : Int) == 0) (some true) (some (x1 == x0))) (fun y0 =>
  .br (y0)
   (.at (0))
   (.br ((↑x1.length : Int) == 1)
    (.br (inB x1.length 0) (.at (Lib.indexByte x0 (byteAt x1 0).toNat.toUInt8)) (.no))
    (.br (decide ((↑x1.length : Int) ≥ (↑x0.length : Int))) (.at (-1)) (.no))))
  (.no)
noncomputable def f_u19q (x0 x1 : List UInt8) : Option B_u19q := lock (tr_u19q x0 x1).ev
theorem f_u19q_eq (x0 x1 : List UInt8) : f_u19q x0 x1 = (tr_u19q x0 x1).ev := lock_eq _
theorem c_u19q : FH IP 182 p_u19q r_u19q (fun (v : List UInt8 × List UInt8) => (f_u19q v.1 v.2 : Option B_u19q)) := fun_FH (F := F182) (L := []) (t := fun (v : List UInt8 × List UInt8) => tr_u19q v.1 v.2) T41_ok (LOk_of (l := [loopAt F182 0]) (by kernel_rfl) ⟨sel_no (by kernel_rfl), trivial⟩) (by kernel_rfl) (fun v => by kernel_rfl) (fun v => f_u19q_eq v.1 v.2)
noncomputable def T42 : Tab := (182, FE p_u19q r_u19q (fun (v : List UInt8 × List UInt8) => (f_u19q v.1 v.2 : Option B_u19q))) :: T41
theorem T42_ok : TabOk IP T42 := ⟨FE_ok c_u19q, T41_ok⟩
abbrev B_u22q : Type := List UInt8 × List UInt8 × Bool
def p_u22q : PArgs := ⟨[.str, .str], []⟩
def r_u22q : List PRes := [⟨false, .tup [.str, .str, .bool], []⟩]
noncomputable def tr_u22q (x0 x1 : List UInt8) : DT B_u22q :=
 .bi (f_u19q x0 x1) (fun y0 =>
  .br (decide (y0 ≥ 0))
   (.br (leB y0 x0.length && true)
    (.br (leB (IntKind.i64.wrap (y0 + (↑x1.length : Int))) x0.length)
     (.at ((List.take y0.toNat x0, List.drop (IntKind.i64.wrap (y0 + (↑x1.length : Int))).toNat x0, true)))
     (.no))
    (.no))
   (.at ((x0, [], false))))
  (.no)
noncomputable def f_u22q (x0 x1 : List UInt8) : Option B_u22q := lock (tr_u22q x0 x1).ev
theorem f_u22q_eq (x0 x1 : List UInt8) : f_u22q x0 x1 = (tr_u22q x0 x1).ev := lock_eq _
theorem c_u22q : FH IP 212 p_u22q r_u22q (fun (v : List UInt8 × List UInt8) => (f_u22q v.1 v.2 : Option B_u22q)) := fun_FH (F := F212) (L := []) (t := fun (v : List UInt8 × List UInt8) => tr_u22q v.1 v.2) T42_ok (LOk_of (l := []) (by kernel_rfl) trivial) (by kernel_rfl) (fun v => by kernel_rfl) (fun v => f_u22q_eq v.1 v.2)
noncomputable def T43 : Tab := (212, FE p_u22q r_u22q (fun (v : List UInt8 × List UInt8) => (f_u22q v.1 v.2 : Option B_u22q))) :: T42
theorem T43_ok : TabOk IP T43 := ⟨FE_ok c_u22q, T42_ok⟩
abbrev B_u95q : Type := List UInt8 × List UInt8 × Bool
def p_u95q : PArgs := ⟨[.str, .str], []⟩
def r_u95q : List PRes := [⟨false, .tup [.str, .str, .bool], []⟩]
noncomputable def tr_u95q (x0 x1 : List UInt8) : DT B_u95q :=
 .bi (f_u22q x0 x1) (fun y0 =>
  .at ((y0.1, y0.2.1, y0.2.2)))
  (.no)
noncomputable def f_u95q (x0 x1 : List UInt8) : Option B_u95q := lock (tr_u95q x0 x1).ev
theorem f_u95q_eq (x0 x1 : List UInt8) : f_u95q x0 x1 = (tr_u95q x0 x1).ev := lock_eq _
theorem c_u95q : FH IP 199 p_u95q r_u95q (fun (v : List UInt8 × List UInt8) => (f_u95q v.1 v.2 : Option B_u95q)) := fun_FH (F := F199) (L := []) (t := fun (v : List UInt8 × List UInt8) => tr_u95q v.1 v.2) T43_ok (LOk_of (l := []) (by kernel_rfl) trivial) (by kernel_rfl) (fun v => by kernel_rfl) (fun v => f_u95q_eq v.1 v.2)
noncomputable def T44 : Tab := (199, FE p_u95q r_u95q (fun (v : List UInt8 × List UInt8) => (f_u95q v.1 v.2 : Option B_u95q))) :: T43
theorem T44_ok : TabOk IP T44 := ⟨FE_ok c_u95q, T43_ok⟩
abbrev TT_u83q : Type := List UInt8 × List UInt8
def hs_u83q : List PSt := [⟨[(1018700, .junk), (6, .str), (7, .str)], [], 0, 0⟩]
noncomputable def x_u83q_0 (x0 x1 : List UInt8) : X × St := (X.exit 0, { tm := [(6, AV.str x0), (7, AV.str x1)], hp := [], nx := 0, k := 0 })
noncomputable def x_u83q : List (TT_u83q → X × St) := [fun w => x_u83q_0 w.1 w.2]
noncomputable def st_u83q_0 (x0 x1 : List UInt8) : DT (Rd TT_u83q) :=
 .br (decide ((↑x1.length : Int) < 4))
  (.br (decide (x1.length + 1 ≤ 4611686018427387904)) (.at (.next ((x0, x1 ++ [48])))) (.no))
  (.at (.done 0))
noncomputable def st_u83q : TT_u83q → DT (Rd TT_u83q) := (fun v => st_u83q_0 v.1 v.2)
noncomputable def l_u83q (v : TT_u83q) : Option (Nat × TT_u83q) := lock (iterO (fun v => (st_u83q v).ev) v)
theorem l_u83q_eq (v : TT_u83q) : l_u83q v = iterO (fun v => (st_u83q v).ev) v := lock_eq _
noncomputable def ll_u83q : LEnt := LE (τ := TT_u83q) (hD hs_u83q) (l_u83q) x_u83q
theorem t_u83q : Go.Eng.Told IP (loopAt F187 0).1 (loopAt F187 0).2 (ll_u83q) := loop_LE (inferInstance : Inhabited TT_u83q) (hs := hs_u83q) (st := st_u83q) (L := []) T44_ok (LOk_of (l := []) (by kernel_rfl) trivial) (l_u83q_eq) (fun v => by kernel_rfl) (fun v => by kernel_rfl)
abbrev B_u110q : Type := Int × Int
def p_u110q : PArgs := ⟨[.str], []⟩
def r_u110q : List PRes := [⟨false, .tup [.int .i64, .int .i64], []⟩]
noncomputable def tr_u110q (x0 : List UInt8) : DT B_u110q :=
 .bi (f_u28q x0 [37]) (fun y0 =>
  .bi (f_u95q y0.1 [46]) (fun y1 =>
   .bi (br (!y0.2) (some true) (br (sm (f_u64q y1.1)) (some !gv (f_u64q y1.1)) none)) (fun y2 =>
    .bi (br y2 (some true)
        (br y1.2.2
          (br (y1.2.1 == []) (some true)
            (br (decide ((↑y1.2.1.length : Int) > 4)) (some true)
              (br (sm (f_u67q y1.2.1))
                (br (!gv (f_u67q y1.2.1) == y1.2.1) (some true)
                  (br (inB y1.2.1.length (IntKind.i64.wrap ((↑y1.2.1.length : Int) - 1))) (some (byteAt y1.2.1 (IntKind.i64.wrap ((↑y1.2.1.length : Int) - 1)) == 48))
                    none))
                none)))
          (some false))) (fun y3 =>
     .br (y3)
      (.at ((0, 2)))
      (.br (decide ((↑y1.1.length : Int) > 3))
       (.at ((0, 1)))
       (.bi (pj 0 (l_u83q (y1.1, y1.2.1))) (fun y4 =>
        .br (decide (y4.1.length + y4.2.length ≤ 4611686018427387904))
         (.br (pOk (y4.1 ++ y4.2) && nOk (Lib.atoiAll (y4.1 ++ y4.2)))
          (.br (decide (nVal (Lib.atoiAll (y4.1 ++ y4.2)) > 1000000)) (.at ((0, 1))) (.at ((nVal (Lib.atoiAll (y4.1 ++ y4.2)), 0))))
          (.br (pOk (y4.1 ++ y4.2) && nRange (Lib.atoiAll (y4.1 ++ y4.2)))
           (.br (decide (Lib.atoiSat (y4.1 ++ y4.2) > 1000000)) (.at ((0, 1))) (.at ((Lib.atoiSat (y4.1 ++ y4.2), 0))))
           (.br (pOk (y4.1 ++ y4.2) && nSyntax (Lib.atoiAll (y4.1 ++ y4.2))) (.at ((0, 0))) (.no))))
         (.no))
        (.no))))
     (.no))
    (.no))
   (.no))
  (.no)
noncomputable def f_u110q (x0 : List UInt8) : Option B_u110q := lock (tr_u110q x0).ev
theorem f_u110q_eq (x0 : List UInt8) : f_u110q x0 = (tr_u110q x0).ev := lock_eq _
theorem c_u110q : FH IP 187 p_u110q r_u110q (fun (v : List UInt8) => (f_u110q v : Option B_u110q)) := fun_FH (F := F187) (L := [(1018700, ll_u83q)]) (t := fun (v : List UInt8) => tr_u110q v) T44_ok (LOk_of (l := [loopAt F187 0]) (by kernel_rfl) ⟨sel_one (by kernel_rfl) t_u83q, trivial⟩) (by kernel_rfl) (fun v => by kernel_rfl) (fun v => f_u110q_eq v)
noncomputable def T45 : Tab := (187, FE p_u110q r_u110q (fun (v : List UInt8) => (f_u110q v : Option B_u110q))) :: T44
theorem T45_ok : TabOk IP T45 := ⟨FE_ok c_u110q, T44_ok⟩
abbrev B_u88q : Type := Int × Int × List UInt8 × Int
def p_u88q : PArgs := ⟨[.str], []⟩
def r_u88q : List PRes := [⟨false, .tup [.agg [.int .i64, .int .i64, .str], .int .i64], []⟩]
noncomputable def tr_u88q (x0 : List UInt8) : DT B_u88q :=
 .bi (f_u64q x0) (fun y0 =>
  .br (y0)
   (.br (pOk x0 && nOk (Lib.parseIntB 64 x0))
    (.at ((2, 0, x0, 0)))
    (.br (pOk x0 && nRange (Lib.parseIntB 64 x0))
     (.at ((0, 0, [], 6)))
     (.br (pOk x0 && nSyntax (Lib.parseIntB 64 x0)) (.at ((0, 0, [], 6))) (.no))))
   (.bi (f_u110q x0) (fun y1 =>
    .br (y1.2 == 0)
     (.at ((3, 0, x0, 0)))
     (.br (y1.2 == 1) (.at ((0, 0, [], 6))) (.at ((0, 0, [], 2)))))
    (.no)))
  (.no)
noncomputable def f_u88q (x0 : List UInt8) : Option B_u88q := lock (tr_u88q x0).ev
theorem f_u88q_eq (x0 : List UInt8) : f_u88q x0 = (tr_u88q x0).ev := lock_eq _
theorem c_u88q : FH IP 173 p_u88q r_u88q (fun (v : List UInt8) => (f_u88q v : Option B_u88q)) := fun_FH (F := F173) (L := []) (t := fun (v : List UInt8) => tr_u88q v) T45_ok (LOk_of (l := []) (by kernel_rfl) trivial) (by kernel_rfl) (fun v => by kernel_rfl) (fun v => f_u88q_eq v)
noncomputable def T46 : Tab := (173, FE p_u88q r_u88q (fun (v : List UInt8) => (f_u88q v : Option B_u88q))) :: T45
theorem T46_ok : TabOk IP T46 := ⟨FE_ok c_u88q, T45_ok⟩
abbrev B_u97q : Type := List AV
def p_u97q : PArgs := ⟨[], []⟩
def r_u97q : List PRes := [⟨false, .view 1, []⟩]
noncomputable def tr_u97q : DT B_u97q :=
 .at ([AV.str ([] ++ [61] ++ [61]), AV.str ([] ++ [33] ++ [61]), AV.str ([] ++ [60] ++ [61]), AV.str ([] ++ [123]), AV.str ([] ++ [125]), AV.str ([] ++ [40]), AV.str ([] ++ [41]),
  AV.str ([] ++ [44]), AV.str ([] ++ [59]), AV.str ([] ++ [58]), AV.str ([] ++ [36]), AV.str ([] ++ [43]), AV.str ([] ++ [45]), AV.str ([] ++ [42]), AV.str ([] ++ [47]),
  AV.str ([] ++ [60])])
noncomputable def f_u97q : Option B_u97q := lock (tr_u97q).ev
theorem f_u97q_eq : f_u97q = (tr_u97q).ev := lock_eq _
theorem c_u97q : FH IP 175 p_u97q r_u97q (fun (v : Unit) => (f_u97q : Option B_u97q)) := fun_FH (F := F175) (L := []) (t := fun (v : Unit) => tr_u97q) T46_ok (LOk_of (l := []) (by kernel_rfl) trivial) (by kernel_rfl) (fun v => by kernel_rfl) (fun v => f_u97q_eq)
noncomputable def T47 : Tab := (175, FE p_u97q r_u97q (fun (v : Unit) => (f_u97q : Option B_u97q))) :: T46
theorem T47_ok : TabOk IP T47 := ⟨FE_ok c_u97q, T46_ok⟩
abbrev B_u15q : Type := Bool
def p_u15q : PArgs := ⟨[.str, .str], []⟩
def r_u15q : List PRes := [⟨false, .bool, []⟩]
noncomputable def tr_u15q (x0 x1 : List UInt8) : DT B_u15q :=
 .bi (br (decide ((↑x0.length : Int) ≥ (↑x1.length : Int))) (br (leB (↑x1.length : Int) x0.length && true) (some (List.take (↑x1.length : Int).toNat x0 == x1)) none) (some false)) (fun y0 =>
  .at (y0))
  (.no)
noncomputable def f_u15q (x0 x1 : List UInt8) : Option B_u15q := lock (tr_u15q x0 x1).ev
theorem f_u15q_eq (x0 x1 : List UInt8) : f_u15q x0 x1 = (tr_u15q x0 x1).ev := lock_eq _
theorem c_u15q : FH IP 189 p_u15q r_u15q (fun (v : List UInt8 × List UInt8) => (f_u15q v.1 v.2 : Option B_u15q)) := fun_FH (F := F189) (L := []) (t := fun (v : List UInt8 × List UInt8) => tr_u15q v.1 v.2) T47_ok (LOk_of (l := []) (by kernel_rfl) trivial) (by kernel_rfl) (fun v => by kernel_rfl) (fun v => f_u15q_eq v.1 v.2)
noncomputable def T48 : Tab := (189, FE p_u15q r_u15q (fun (v : List UInt8 × List UInt8) => (f_u15q v.1 v.2 : Option B_u15q))) :: T47
theorem T48_ok : TabOk IP T48 := ⟨FE_ok c_u15q, T47_ok⟩
abbrev B_u29q : Type := Bool
def p_u29q : PArgs := ⟨[.str, .str], []⟩
def r_u29q : List PRes := [⟨false, .bool, []⟩]
noncomputable def tr_u29q (x0 x1 : List UInt8) : DT B_u29q :=
 .bi (f_u15q x0 x1) (fun y0 =>
  .at (y0))
  (.no)
noncomputable def f_u29q (x0 x1 : List UInt8) : Option B_u29q := lock (tr_u29q x0 x1).ev
theorem f_u29q_eq (x0 x1 : List UInt8) : f_u29q x0 x1 = (tr_u29q x0 x1).ev := lock_eq _
theorem c_u29q : FH IP 176 p_u29q r_u29q (fun (v : List UInt8 × List UInt8) => (f_u29q v.1 v.2 : Option B_u29q)) := fun_FH (F := F176) (L := []) (t := fun (v : List UInt8 × List UInt8) => tr_u29q v.1 v.2) T48_ok (LOk_of (l := []) (by kernel_rfl) trivial) (by kernel_rfl) (fun v => by kernel_rfl) (fun v => f_u29q_eq v.1 v.2)
noncomputable def T49 : Tab := (176, FE p_u29q r_u29q (fun (v : List UInt8 × List UInt8) => (f_u29q v.1 v.2 : Option B_u29q))) :: T48
theorem T49_ok : TabOk IP T49 := ⟨FE_ok c_u29q, T48_ok⟩
abbrev TT_u87q : Type := List UInt8 × List AV × Int × Int × Int × Int × List UInt8
def hs_u87q : List PSt := [⟨[(1015300, .junk), (0, .str), (2, .ref 0 0 0), (34, .view 1), (35, .int .i64), (36, .int .i64)], [(0, .box [.int .i64, .int .i64, .str] false)], 1, 0⟩]
noncomputable def x_u87q_0 (x0 : List UInt8) (x1 : List AV) (x2 x3 : Int) (x4 x5 : Int) (x6 : List UInt8) : X × St := (X.ret,
  { tm := [(2, AV.ref 0 0 0), (3, AV.int IntKind.i64 0)], hp := [(0, Blk.box [AV.int IntKind.i64 4, AV.int IntKind.i64 0, AV.str (strOf (cellAt x1 x3 0))] false)], nx := 1,
    k := 0 })
noncomputable def x_u87q_1 (x0 : List UInt8) (x1 : List AV) (x2 x3 : Int) (x4 x5 : Int) (x6 : List UInt8) : X × St := (X.exit 1, { tm := [(2, AV.ref 0 0 0), (3, AV.junk)], hp := [(0, Blk.box [AV.int IntKind.i64 x4, AV.int IntKind.i64 x5, AV.str x6] false)], nx := 1, k := 0 })
noncomputable def x_u87q : List (TT_u87q → X × St) := [fun w => x_u87q_0 w.1 w.2.1 w.2.2.1 w.2.2.2.1 w.2.2.2.2.1 w.2.2.2.2.2.1 w.2.2.2.2.2.2, fun w => x_u87q_1 w.1 w.2.1 w.2.2.1 w.2.2.2.1 w.2.2.2.2.1 w.2.2.2.2.2.1 w.2.2.2.2.2.2]
noncomputable def st_u87q_0 (x0 : List UInt8) (x1 : List AV) (x2 x3 : Int) (x4 x5 : Int) (x6 : List UInt8) : DT (Rd TT_u87q) :=
 .br (decide (x3 < x2))
  (.br (okAt [CS.str] x1 x3)
   (.bi (f_u29q x0 (strOf (cellAt x1 x3 0))) (fun y0 =>
    .br (y0) (.at (.done 0)) (.at (.next ((x0, x1, x2, IntKind.i64.wrap (x3 + 1), x4, x5, x6)))))
    (.no))
   (.no))
  (.at (.done 1))
noncomputable def st_u87q : TT_u87q → DT (Rd TT_u87q) := (fun v => st_u87q_0 v.1 v.2.1 v.2.2.1 v.2.2.2.1 v.2.2.2.2.1 v.2.2.2.2.2.1 v.2.2.2.2.2.2)
noncomputable def l_u87q (v : TT_u87q) : Option (Nat × TT_u87q) := lock (iterO (fun v => (st_u87q v).ev) v)
theorem l_u87q_eq (v : TT_u87q) : l_u87q v = iterO (fun v => (st_u87q v).ev) v := lock_eq _
noncomputable def ll_u87q : LEnt := LE (τ := TT_u87q) (hD hs_u87q) (l_u87q) x_u87q
theorem t_u87q : Go.Eng.Told IP (loopAt F153 0).1 (loopAt F153 0).2 (ll_u87q) := loop_LE (inferInstance : Inhabited TT_u87q) (hs := hs_u87q) (st := st_u87q) (L := []) T49_ok (LOk_of (l := []) (by kernel_rfl) trivial) (l_u87q_eq) (fun v => by kernel_rfl) (fun v => by kernel_rfl)
abbrev B_u112q : Type := Int × Int × List UInt8 × Int
def p_u112q : PArgs := ⟨[.str], []⟩
def r_u112q : List PRes := [⟨false, .tup [.agg [.int .i64, .int .i64, .str], .int .i64], []⟩]
noncomputable def tr_u112q (x0 : List UInt8) : DT B_u112q :=
 .br (inB x0.length 0)
  (.bi (f_u86q (IntKind.i32.wrap (byteAt x0 0))) (fun y0 =>
   .br (y0)
    (.bi (f_u65q x0) (fun y1 =>
     .bi (f_u111q y1) (fun y2 =>
      .br (y2)
       (.at ((5, 0, y1, 0)))
       (.br (decide ((↑y1.length : Int) > 16)) (.at ((0, 0, [], 4))) (.at ((1, 0, y1, 0)))))
      (.no))
     (.no))
    (.bi (f_u96q (IntKind.i32.wrap (byteAt x0 0))) (fun y1 =>
     .br (y1)
      (.bi (f_u66q x0) (fun y2 =>
       .bi (f_u88q y2) (fun y3 =>
        .at ((y3.1, y3.2.1, y3.2.2.1, y3.2.2.2)))
        (.no))
       (.no))
      (.bi (f_u97q) (fun y2 =>
       .bi (pj 0 (l_u87q (x0, y2, (↑y2.length : Int), 0, 0, 0, []))) (fun y3 =>
        .at ((4, 0, strOf (cellAt y3.2.1 y3.2.2.2.1 0), 0)))
        (.bi (pj 1 (l_u87q (x0, y2, (↑y2.length : Int), 0, 0, 0, []))) (fun y3 =>
         .at ((0, 0, [], 2)))
         (.no)))
       (.no)))
     (.no)))
   (.no))
  (.no)
noncomputable def f_u112q (x0 : List UInt8) : Option B_u112q := lock (tr_u112q x0).ev
theorem f_u112q_eq (x0 : List UInt8) : f_u112q x0 = (tr_u112q x0).ev := lock_eq _
theorem c_u112q : FH IP 153 p_u112q r_u112q (fun (v : List UInt8) => (f_u112q v : Option B_u112q)) := fun_FH (F := F153) (L := [(1015300, ll_u87q)]) (t := fun (v : List UInt8) => tr_u112q v) T49_ok (LOk_of (l := [loopAt F153 0]) (by kernel_rfl) ⟨sel_one (by kernel_rfl) t_u87q, trivial⟩) (by kernel_rfl) (fun v => by kernel_rfl) (fun v => f_u112q_eq v)
noncomputable def T50 : Tab := (153, FE p_u112q r_u112q (fun (v : List UInt8) => (f_u112q v : Option B_u112q))) :: T49
theorem T50_ok : TabOk IP T50 := ⟨FE_ok c_u112q, T49_ok⟩
end Go.Proofs.H15e

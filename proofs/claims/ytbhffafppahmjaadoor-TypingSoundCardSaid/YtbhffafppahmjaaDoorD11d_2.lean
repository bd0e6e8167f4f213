/- Functions over plain data. Printed by a program of mine. -/
import Derived.Test.YtbhffafppahmjaaDoorD11d_1
import Derived.KernelRfl
set_option linter.unusedVariables false
set_option linter.unusedSimpArgs false
set_option linter.unnecessarySimpa false
namespace Go.Proofs.H11d
open Go Go.Eng
set_option maxRecDepth 100000
noncomputable def N_u73q : Nat → GT_u73q × GT_u1q × GT_u5q × GT_u47q
  | 0 => (fun _ _ _ _ => none, fun _ => none, fun _ => none, fun _ _ _ _ => none)
  | n + 1 => (fun x0 x1 x2 x3 => (tr_u73q ((N_u73q n).1) ((N_u73q n).2.1) ((N_u73q n).2.2.1) ((N_u73q n).2.2.2) x0 x1 x2 x3).ev, fun x0 => (tr_u1q ((N_u73q n).1) ((N_u73q n).2.1) ((N_u73q n).2.2.1) ((N_u73q n).2.2.2) x0).ev, fun x0 => (tr_u5q ((N_u73q n).1) ((N_u73q n).2.1) ((N_u73q n).2.2.1) ((N_u73q n).2.2.2) x0).ev, fun x0 x1 x2 x3 => (tr_u47q ((N_u73q n).1) ((N_u73q n).2.1) ((N_u73q n).2.2.1) ((N_u73q n).2.2.2) x0 x1 x2 x3).ev)
noncomputable def f_u73q (x0 : Int) (x1 : Int) (x2 : List UInt8) (x3 : List AV) : Option B_u73q := limO fun n => (N_u73q n).1 x0 x1 x2 x3
noncomputable def f_u1q (x0 : List AV) : Option B_u1q := limO fun n => (N_u73q n).2.1 x0
noncomputable def f_u5q (x0 : List AV) : Option B_u5q := limO fun n => (N_u73q n).2.2.1 x0
noncomputable def f_u47q (x0 : Int) (x1 : Int) (x2 : List UInt8) (x3 : List AV) : Option B_u47q := limO fun n => (N_u73q n).2.2.2 x0 x1 x2 x3
theorem N_u73q_ok : ∀ n, GH_u73q ((N_u73q n).1) ((N_u73q n).2.1) ((N_u73q n).2.2.1) ((N_u73q n).2.2.2)
  | 0 => ⟨(fun v y h => nomatch h), (fun v y h => nomatch h), (fun v y h => nomatch h), (fun v y h => nomatch h)⟩
  | n + 1 => have hG := N_u73q_ok n
    ⟨fun_FH (F := F26) (L := []) (t := fun (v : Int × Int × List UInt8 × List AV) => tr_u73q ((N_u73q n).1) ((N_u73q n).2.1) ((N_u73q n).2.2.1) ((N_u73q n).2.2.2) v.1 v.2.1 v.2.2.1 v.2.2.2) (TG_u73q_ok ((N_u73q n).1) ((N_u73q n).2.1) ((N_u73q n).2.2.1) ((N_u73q n).2.2.2) hG) (LOk_of (l := []) (by kernel_rfl) trivial) (by kernel_rfl) (fun v => by kernel_rfl) (fun v => rfl), fun_FH (F := F31) (L := []) (t := fun (v : List AV) => tr_u1q ((N_u73q n).1) ((N_u73q n).2.1) ((N_u73q n).2.2.1) ((N_u73q n).2.2.2) v) (TG_u73q_ok ((N_u73q n).1) ((N_u73q n).2.1) ((N_u73q n).2.2.1) ((N_u73q n).2.2.2) hG) (LOk_of (l := []) (by kernel_rfl) trivial) (by kernel_rfl) (fun v => by kernel_rfl) (fun v => rfl), fun_FH (F := F35) (L := [(1003500, ll_u3q ((N_u73q n).1) ((N_u73q n).2.1) ((N_u73q n).2.2.1) ((N_u73q n).2.2.2))]) (t := fun (v : List AV) => tr_u5q ((N_u73q n).1) ((N_u73q n).2.1) ((N_u73q n).2.2.1) ((N_u73q n).2.2.2) v) (TG_u73q_ok ((N_u73q n).1) ((N_u73q n).2.1) ((N_u73q n).2.2.1) ((N_u73q n).2.2.2) hG) (LOk_of (l := [loopAt F35 0]) (by kernel_rfl) ⟨sel_one (by kernel_rfl) (t_u3q ((N_u73q n).1) ((N_u73q n).2.1) ((N_u73q n).2.2.1) ((N_u73q n).2.2.2) hG), trivial⟩) (by kernel_rfl) (fun v => by kernel_rfl) (fun v => rfl), fun_FH (F := F32) (L := []) (t := fun (v : Int × Int × List UInt8 × List AV) => tr_u47q ((N_u73q n).1) ((N_u73q n).2.1) ((N_u73q n).2.2.1) ((N_u73q n).2.2.2) v.1 v.2.1 v.2.2.1 v.2.2.2) (TG_u73q_ok ((N_u73q n).1) ((N_u73q n).2.1) ((N_u73q n).2.2.1) ((N_u73q n).2.2.2) hG) (LOk_of (l := []) (by kernel_rfl) trivial) (by kernel_rfl) (fun v => by kernel_rfl) (fun v => rfl)⟩
theorem c_u73q : FH IP 26 p_u73q r_u73q (fun (v : Int × Int × List UInt8 × List AV) => (f_u73q v.1 v.2.1 v.2.2.1 v.2.2.2 : Option B_u73q)) := lim_FH (p := p_u73q) (rs := r_u73q) (s := fun n (v : Int × Int × List UInt8 × List AV) => (N_u73q n).1 v.1 v.2.1 v.2.2.1 v.2.2.2) fun n => (N_u73q_ok n).1
theorem c_u1q : FH IP 31 p_u1q r_u1q (fun (v : List AV) => (f_u1q v : Option B_u1q)) := lim_FH (p := p_u1q) (rs := r_u1q) (s := fun n (v : List AV) => (N_u73q n).2.1 v) fun n => (N_u73q_ok n).2.1
theorem c_u5q : FH IP 35 p_u5q r_u5q (fun (v : List AV) => (f_u5q v : Option B_u5q)) := lim_FH (p := p_u5q) (rs := r_u5q) (s := fun n (v : List AV) => (N_u73q n).2.2.1 v) fun n => (N_u73q_ok n).2.2.1
theorem c_u47q : FH IP 32 p_u47q r_u47q (fun (v : Int × Int × List UInt8 × List AV) => (f_u47q v.1 v.2.1 v.2.2.1 v.2.2.2 : Option B_u47q)) := lim_FH (p := p_u47q) (rs := r_u47q) (s := fun n (v : Int × Int × List UInt8 × List AV) => (N_u73q n).2.2.2 v.1 v.2.1 v.2.2.1 v.2.2.2) fun n => (N_u73q_ok n).2.2.2
noncomputable def T10 : Tab := (26, FE p_u73q r_u73q (fun (v : Int × Int × List UInt8 × List AV) => (f_u73q v.1 v.2.1 v.2.2.1 v.2.2.2 : Option B_u73q))) :: T9
theorem T10_ok : TabOk IP T10 := ⟨FE_ok c_u73q, T9_ok⟩
noncomputable def T11 : Tab := (31, FE p_u1q r_u1q (fun (v : List AV) => (f_u1q v : Option B_u1q))) :: T10
theorem T11_ok : TabOk IP T11 := ⟨FE_ok c_u1q, T10_ok⟩
noncomputable def T12 : Tab := (35, FE p_u5q r_u5q (fun (v : List AV) => (f_u5q v : Option B_u5q))) :: T11
theorem T12_ok : TabOk IP T12 := ⟨FE_ok c_u5q, T11_ok⟩
noncomputable def T13 : Tab := (32, FE p_u47q r_u47q (fun (v : Int × Int × List UInt8 × List AV) => (f_u47q v.1 v.2.1 v.2.2.1 v.2.2.2 : Option B_u47q))) :: T12
theorem T13_ok : TabOk IP T13 := ⟨FE_ok c_u47q, T12_ok⟩
abbrev B_u28q : Type := Bool
def p_u28q : PArgs := ⟨[.int .i32], []⟩
def r_u28q : List PRes := [⟨false, .bool, []⟩]
noncomputable def tr_u28q (x0 : Int) : DT B_u28q :=
 .at (x0 != 10)
noncomputable def f_u28q (x0 : Int) : Option B_u28q := lock (tr_u28q x0).ev
theorem f_u28q_eq (x0 : Int) : f_u28q x0 = (tr_u28q x0).ev := lock_eq _
theorem c_u28q : FH IP 41 p_u28q r_u28q (fun (v : Int) => (f_u28q v : Option B_u28q)) := fun_FH (F := F41) (L := []) (t := fun (v : Int) => tr_u28q v) T13_ok (LOk_of (l := []) (by kernel_rfl) trivial) (by kernel_rfl) (fun v => by kernel_rfl) (fun v => f_u28q_eq v)
noncomputable def T14 : Tab := (41, FE p_u28q r_u28q (fun (v : Int) => (f_u28q v : Option B_u28q))) :: T13
theorem T14_ok : TabOk IP T14 := ⟨FE_ok c_u28q, T13_ok⟩
abbrev TT_u30q : Type := List UInt8 × Int
def hs_u30q : List PSt := [⟨[(1004000, .junk), (0, .str), (1, .fn (.func 41) []), (5, .int .i64)], [], 0, 0⟩]
noncomputable def x_u30q_0 (x0 : List UInt8) (x1 : Int) : X × St := (X.exit 0, { tm := [(0, AV.str x0), (5, AV.int IntKind.i64 x1)], hp := [], nx := 0, k := 0 })
noncomputable def x_u30q : List (TT_u30q → X × St) := [fun w => x_u30q_0 w.1 w.2]
noncomputable def st_u30q_0 (x0 : List UInt8) (x1 : Int) : DT (Rd TT_u30q) :=
 .bi (br (decide (x1 < (↑x0.length : Int)))
     (br (inB x0.length x1) (br (sm (f_u28q (IntKind.i32.wrap (byteAt x0 x1)))) (some (gv (f_u28q (IntKind.i32.wrap (byteAt x0 x1))))) none) none) (some false)) (fun y0 =>
  .br (y0) (.at (.next ((x0, IntKind.i64.wrap (x1 + 1))))) (.at (.done 0)))
  (.no)
noncomputable def st_u30q : TT_u30q → DT (Rd TT_u30q) := (fun v => st_u30q_0 v.1 v.2)
noncomputable def l_u30q (v : TT_u30q) : Option (Nat × TT_u30q) := lock (iterO (fun v => (st_u30q v).ev) v)
theorem l_u30q_eq (v : TT_u30q) : l_u30q v = iterO (fun v => (st_u30q v).ev) v := lock_eq _
noncomputable def ll_u30q : LEnt := LE (τ := TT_u30q) (hD hs_u30q) (l_u30q) x_u30q
theorem t_u30q : Go.Eng.Told IP (loopAt F40 0).1 (loopAt F40 0).2 (ll_u30q) := loop_LE (inferInstance : Inhabited TT_u30q) (hs := hs_u30q) (st := st_u30q) (L := []) T14_ok (LOk_of (l := []) (by kernel_rfl) trivial) (l_u30q_eq) (fun v => by kernel_rfl) (fun v => by kernel_rfl)
abbrev B_u54q : Type := List UInt8
def p_u54q : PArgs := ⟨[.str, .fn (.func 41) []], []⟩
def r_u54q : List PRes := [⟨false, .str, []⟩]
noncomputable def tr_u54q (x0 : List UInt8) : DT B_u54q :=
 .bi (pj 0 (l_u30q (x0, 0))) (fun y0 =>
  .br (leB y0.snd y0.fst.length && true) (.at (List.take y0.snd.toNat y0.fst)) (.no))
  (.no)
noncomputable def f_u54q (x0 : List UInt8) : Option B_u54q := lock (tr_u54q x0).ev
theorem f_u54q_eq (x0 : List UInt8) : f_u54q x0 = (tr_u54q x0).ev := lock_eq _
theorem c_u54q : FH IP 40 p_u54q r_u54q (fun (v : List UInt8) => (f_u54q v : Option B_u54q)) := fun_FH (F := F40) (L := [(1004000, ll_u30q)]) (t := fun (v : List UInt8) => tr_u54q v) T14_ok (LOk_of (l := [loopAt F40 0]) (by kernel_rfl) ⟨sel_one (by kernel_rfl) t_u30q, trivial⟩) (by kernel_rfl) (fun v => by kernel_rfl) (fun v => f_u54q_eq v)
noncomputable def T15 : Tab := (40, FE p_u54q r_u54q (fun (v : List UInt8) => (f_u54q v : Option B_u54q))) :: T14
theorem T15_ok : TabOk IP T15 := ⟨FE_ok c_u54q, T14_ok⟩
abbrev TT_u27q : Type := List UInt8 × Int
def hs_u27q : List PSt := [⟨[(1003700, .junk), (0, .str), (3, .int .i64)], [], 0, 0⟩]
noncomputable def x_u27q_0 (x0 : List UInt8) (x1 : Int) : X × St := (X.ret, { tm := [(2, AV.int IntKind.i64 x1), (3, AV.int IntKind.i64 x1)], hp := [], nx := 0, k := 0 })
noncomputable def x_u27q_1 (x0 : List UInt8) (x1 : Int) : X × St := (X.exit 0, { tm := [(2, AV.junk), (3, AV.int IntKind.i64 x1)], hp := [], nx := 0, k := 0 })
noncomputable def x_u27q : List (TT_u27q → X × St) := [fun w => x_u27q_0 w.1 w.2, fun w => x_u27q_1 w.1 w.2]
noncomputable def st_u27q_0 (x0 : List UInt8) (x1 : Int) : DT (Rd TT_u27q) :=
 .br (decide (x1 < (↑x0.length : Int)))
  (.br (inB x0.length x1)
   (.br (byteAt x0 x1 == 32)
    (.br (byteAt x0 x1 == 32)
     (.at (.next ((x0, IntKind.i64.wrap (x1 + 1)))))
     (.br (byteAt x0 x1 == 35)
      (.br (leB x1 x0.length)
       (.bi (f_u54q (List.drop x1.toNat x0)) (fun y0 =>
        .at (.next ((x0, IntKind.i64.wrap (x1 + (↑y0.length : Int))))))
        (.no))
       (.no))
      (.at (.done 0))))
    (.br (byteAt x0 x1 == 9)
     (.br (byteAt x0 x1 == 9)
      (.at (.next ((x0, IntKind.i64.wrap (x1 + 1)))))
      (.br (byteAt x0 x1 == 35)
       (.br (leB x1 x0.length)
        (.bi (f_u54q (List.drop x1.toNat x0)) (fun y0 =>
         .at (.next ((x0, IntKind.i64.wrap (x1 + (↑y0.length : Int))))))
         (.no))
        (.no))
       (.at (.done 0))))
     (.br (byteAt x0 x1 == 10)
      (.at (.next ((x0, IntKind.i64.wrap (x1 + 1)))))
      (.br (byteAt x0 x1 == 35)
       (.br (leB x1 x0.length)
        (.bi (f_u54q (List.drop x1.toNat x0)) (fun y0 =>
         .at (.next ((x0, IntKind.i64.wrap (x1 + (↑y0.length : Int))))))
         (.no))
        (.no))
       (.at (.done 0))))))
   (.no))
  (.at (.done 1))
noncomputable def st_u27q : TT_u27q → DT (Rd TT_u27q) := (fun v => st_u27q_0 v.1 v.2)
noncomputable def l_u27q (v : TT_u27q) : Option (Nat × TT_u27q) := lock (iterO (fun v => (st_u27q v).ev) v)
theorem l_u27q_eq (v : TT_u27q) : l_u27q v = iterO (fun v => (st_u27q v).ev) v := lock_eq _
noncomputable def ll_u27q : LEnt := LE (τ := TT_u27q) (hD hs_u27q) (l_u27q) x_u27q
theorem t_u27q : Go.Eng.Told IP (loopAt F37 0).1 (loopAt F37 0).2 (ll_u27q) := loop_LE (inferInstance : Inhabited TT_u27q) (hs := hs_u27q) (st := st_u27q) (L := []) T15_ok (LOk_of (l := []) (by kernel_rfl) trivial) (l_u27q_eq) (fun v => by kernel_rfl) (fun v => by kernel_rfl)
abbrev B_u49q : Type := Int
def p_u49q : PArgs := ⟨[.str], []⟩
def r_u49q : List PRes := [⟨false, .int .i64, []⟩]
noncomputable def tr_u49q (x0 : List UInt8) : DT B_u49q :=
 .bi (pj 0 (l_u27q (x0, 0))) (fun y0 =>
  .at (y0.snd))
  (.bi (pj 1 (l_u27q (x0, 0))) (fun y0 =>
   .at (y0.snd))
   (.no))
noncomputable def f_u49q (x0 : List UInt8) : Option B_u49q := lock (tr_u49q x0).ev
theorem f_u49q_eq (x0 : List UInt8) : f_u49q x0 = (tr_u49q x0).ev := lock_eq _
theorem c_u49q : FH IP 37 p_u49q r_u49q (fun (v : List UInt8) => (f_u49q v : Option B_u49q)) := fun_FH (F := F37) (L := [(1003700, ll_u27q)]) (t := fun (v : List UInt8) => tr_u49q v) T15_ok (LOk_of (l := [loopAt F37 0]) (by kernel_rfl) ⟨sel_one (by kernel_rfl) t_u27q, trivial⟩) (by kernel_rfl) (fun v => by kernel_rfl) (fun v => f_u49q_eq v)
noncomputable def T16 : Tab := (37, FE p_u49q r_u49q (fun (v : List UInt8) => (f_u49q v : Option B_u49q))) :: T15
theorem T16_ok : TabOk IP T16 := ⟨FE_ok c_u49q, T15_ok⟩
abbrev B_u51q : Type := Bool
def p_u51q : PArgs := ⟨[.int .i32], []⟩
def r_u51q : List PRes := [⟨false, .bool, []⟩]
noncomputable def tr_u51q (x0 : Int) : DT B_u51q :=
 .bi (br (decide (x0 ≥ 97)) (some (decide (x0 ≤ 122))) (some false)) (fun y0 =>
  .at (y0))
  (.no)
noncomputable def f_u51q (x0 : Int) : Option B_u51q := lock (tr_u51q x0).ev
theorem f_u51q_eq (x0 : Int) : f_u51q x0 = (tr_u51q x0).ev := lock_eq _
theorem c_u51q : FH IP 45 p_u51q r_u51q (fun (v : Int) => (f_u51q v : Option B_u51q)) := fun_FH (F := F45) (L := []) (t := fun (v : Int) => tr_u51q v) T16_ok (LOk_of (l := []) (by kernel_rfl) trivial) (by kernel_rfl) (fun v => by kernel_rfl) (fun v => f_u51q_eq v)
noncomputable def T17 : Tab := (45, FE p_u51q r_u51q (fun (v : Int) => (f_u51q v : Option B_u51q))) :: T16
theorem T17_ok : TabOk IP T17 := ⟨FE_ok c_u51q, T16_ok⟩
abbrev B_u62q : Type := Bool
def p_u62q : PArgs := ⟨[.int .i32], []⟩
def r_u62q : List PRes := [⟨false, .bool, []⟩]
noncomputable def tr_u62q (x0 : Int) : DT B_u62q :=
 .bi (br (decide (x0 ≥ 48)) (some (decide (x0 ≤ 57))) (some false)) (fun y0 =>
  .at (y0))
  (.no)
noncomputable def f_u62q (x0 : Int) : Option B_u62q := lock (tr_u62q x0).ev
theorem f_u62q_eq (x0 : Int) : f_u62q x0 = (tr_u62q x0).ev := lock_eq _
theorem c_u62q : FH IP 48 p_u62q r_u62q (fun (v : Int) => (f_u62q v : Option B_u62q)) := fun_FH (F := F48) (L := []) (t := fun (v : Int) => tr_u62q v) T17_ok (LOk_of (l := []) (by kernel_rfl) trivial) (by kernel_rfl) (fun v => by kernel_rfl) (fun v => f_u62q_eq v)
noncomputable def T18 : Tab := (48, FE p_u62q r_u62q (fun (v : Int) => (f_u62q v : Option B_u62q))) :: T17
theorem T18_ok : TabOk IP T18 := ⟨FE_ok c_u62q, T17_ok⟩
abbrev B_u50q : Type := Bool
def p_u50q : PArgs := ⟨[.int .i32], []⟩
def r_u50q : List PRes := [⟨false, .bool, []⟩]
noncomputable def tr_u50q (x0 : Int) : DT B_u50q :=
 .bi (f_u51q x0) (fun y0 =>
  .bi (br y0 (some true) (br (sm (f_u62q x0)) (some (gv (f_u62q x0))) none)) (fun y1 =>
   .bi (br y1 (some true) (some (x0 == 95))) (fun y2 =>
    .at (y2))
    (.no))
   (.no))
  (.no)
noncomputable def f_u50q (x0 : Int) : Option B_u50q := lock (tr_u50q x0).ev
theorem f_u50q_eq (x0 : Int) : f_u50q x0 = (tr_u50q x0).ev := lock_eq _
theorem c_u50q : FH IP 46 p_u50q r_u50q (fun (v : Int) => (f_u50q v : Option B_u50q)) := fun_FH (F := F46) (L := []) (t := fun (v : Int) => tr_u50q v) T18_ok (LOk_of (l := []) (by kernel_rfl) trivial) (by kernel_rfl) (fun v => by kernel_rfl) (fun v => f_u50q_eq v)
noncomputable def T19 : Tab := (46, FE p_u50q r_u50q (fun (v : Int) => (f_u50q v : Option B_u50q))) :: T18
theorem T19_ok : TabOk IP T19 := ⟨FE_ok c_u50q, T18_ok⟩
abbrev TT_u21q : Type := List UInt8 × Int
def hs_u21q : List PSt := [⟨[(1004000, .junk), (0, .str), (1, .fn (.func 46) []), (5, .int .i64)], [], 0, 0⟩]
noncomputable def x_u21q_0 (x0 : List UInt8) (x1 : Int) : X × St := (X.exit 0, { tm := [(0, AV.str x0), (5, AV.int IntKind.i64 x1)], hp := [], nx := 0, k := 0 })
noncomputable def x_u21q : List (TT_u21q → X × St) := [fun w => x_u21q_0 w.1 w.2]
noncomputable def st_u21q_0 (x0 : List UInt8) (x1 : Int) : DT (Rd TT_u21q) :=
 .bi (br (decide (x1 < (↑x0.length : Int)))
     (br (inB x0.length x1) (br (sm (f_u50q (IntKind.i32.wrap (byteAt x0 x1)))) (some (gv (f_u50q (IntKind.i32.wrap (byteAt x0 x1))))) none) none) (some false)) (fun y0 =>
  .br (y0) (.at (.next ((x0, IntKind.i64.wrap (x1 + 1))))) (.at (.done 0)))
  (.no)
noncomputable def st_u21q : TT_u21q → DT (Rd TT_u21q) := (fun v => st_u21q_0 v.1 v.2)
noncomputable def l_u21q (v : TT_u21q) : Option (Nat × TT_u21q) := lock (iterO (fun v => (st_u21q v).ev) v)
theorem l_u21q_eq (v : TT_u21q) : l_u21q v = iterO (fun v => (st_u21q v).ev) v := lock_eq _
noncomputable def ll_u21q : LEnt := LE (τ := TT_u21q) (hD hs_u21q) (l_u21q) x_u21q
theorem t_u21q : Go.Eng.Told IP (loopAt F40 0).1 (loopAt F40 0).2 (ll_u21q) := loop_LE (inferInstance : Inhabited TT_u21q) (hs := hs_u21q) (st := st_u21q) (L := []) T19_ok (LOk_of (l := []) (by kernel_rfl) trivial) (l_u21q_eq) (fun v => by kernel_rfl) (fun v => by kernel_rfl)
abbrev B_u36q : Type := List UInt8
def p_u36q : PArgs := ⟨[.str, .fn (.func 46) []], []⟩
def r_u36q : List PRes := [⟨false, .str, []⟩]
noncomputable def tr_u36q (x0 : List UInt8) : DT B_u36q :=
 .bi (pj 0 (l_u21q (x0, 0))) (fun y0 =>
  .br (leB y0.snd y0.fst.length && true) (.at (List.take y0.snd.toNat y0.fst)) (.no))
  (.no)
noncomputable def f_u36q (x0 : List UInt8) : Option B_u36q := lock (tr_u36q x0).ev
theorem f_u36q_eq (x0 : List UInt8) : f_u36q x0 = (tr_u36q x0).ev := lock_eq _
theorem c_u36q : FH IP 40 p_u36q r_u36q (fun (v : List UInt8) => (f_u36q v : Option B_u36q)) := fun_FH (F := F40) (L := [(1004000, ll_u21q)]) (t := fun (v : List UInt8) => tr_u36q v) T19_ok (LOk_of (l := [loopAt F40 0]) (by kernel_rfl) ⟨sel_one (by kernel_rfl) t_u21q, trivial⟩) (by kernel_rfl) (fun v => by kernel_rfl) (fun v => f_u36q_eq v)
noncomputable def T20 : Tab := (40, FE p_u36q r_u36q (fun (v : List UInt8) => (f_u36q v : Option B_u36q))) :: T19
theorem T20_ok : TabOk IP T20 := ⟨FE_ok c_u36q, T19_ok⟩
abbrev B_u64q : Type := List AV
def p_u64q : PArgs := ⟨[], []⟩
def r_u64q : List PRes := [⟨false, .view 1, []⟩]
noncomputable def tr_u64q : DT B_u64q :=
 .at ([AV.str ([] ++ [112] ++ [114] ++ [111] ++ [100] ++ [117] ++ [99] ++ [116]), AV.str ([] ++ [99] ++ [117] ++ [114] ++ [114] ++ [101] ++ [110] ++ [99] ++ [121]),
  AV.str ([] ++ [99] ++ [97] ++ [108] ++ [101] ++ [110] ++ [100] ++ [97] ++ [114]), AV.str ([] ++ [102] ++ [114] ++ [111] ++ [109]),
  AV.str ([] ++ [101] ++ [118] ++ [101] ++ [114] ++ [121]), AV.str ([] ++ [111] ++ [118] ++ [101] ++ [114] ++ [100] ++ [114] ++ [97] ++ [102] ++ [116]),
  AV.str ([] ++ [116] ++ [97] ++ [120]), AV.str ([] ++ [99] ++ [114] ++ [101] ++ [100] ++ [105] ++ [116]), AV.str ([] ++ [100] ++ [101] ++ [98] ++ [105] ++ [116]),
  AV.str ([] ++ [109] ++ [97] ++ [114] ++ [103] ++ [105] ++ [110] ++ [97] ++ [108]), AV.str ([] ++ [119] ++ [104] ++ [111] ++ [108] ++ [101]),
  AV.str ([] ++ [97] ++ [99] ++ [116] ++ [51] ++ [54] ++ [48]), AV.str ([] ++ [97] ++ [99] ++ [116] ++ [51] ++ [54] ++ [53]),
  AV.str ([] ++ [97] ++ [99] ++ [116] ++ [117] ++ [97] ++ [108]), AV.str ([] ++ [116] ++ [104] ++ [105] ++ [114] ++ [116] ++ [121]),
  AV.str ([] ++ [100] ++ [111] ++ [119] ++ [110]), AV.str ([] ++ [117] ++ [112]), AV.str ([] ++ [102] ++ [108] ++ [111] ++ [111] ++ [114]),
  AV.str ([] ++ [99] ++ [101] ++ [105] ++ [108]), AV.str ([] ++ [104] ++ [97] ++ [108] ++ [102] ++ [95] ++ [117] ++ [112]),
  AV.str ([] ++ [104] ++ [97] ++ [108] ++ [102] ++ [95] ++ [101] ++ [118] ++ [101] ++ [110]), AV.str ([] ++ [107] ++ [101] ++ [101] ++ [112]),
  AV.str ([] ++ [100] ++ [114] ++ [111] ++ [112]), AV.str ([] ++ [102] ++ [101] ++ [101]), AV.str ([] ++ [108] ++ [105] ++ [109] ++ [105] ++ [116]),
  AV.str ([] ++ [119] ++ [104] ++ [101] ++ [110]), AV.str ([] ++ [97] ++ [109] ++ [111] ++ [117] ++ [110] ++ [116] ++ [95] ++ [111] ++ [102]),
  AV.str ([] ++ [115] ++ [105] ++ [110] ++ [103] ++ [108] ++ [101]), AV.str ([] ++ [100] ++ [97] ++ [105] ++ [108] ++ [121]),
  AV.str ([] ++ [109] ++ [111] ++ [110] ++ [116] ++ [104] ++ [108] ++ [121]), AV.str ([] ++ [109] ++ [111] ++ [110] ++ [116] ++ [104]),
  AV.str ([] ++ [114] ++ [101] ++ [116] ++ [117] ++ [114] ++ [110]), AV.str ([] ++ [99] ++ [108] ++ [111] ++ [115] ++ [101]),
  AV.str ([] ++ [101] ++ [118] ++ [101] ++ [110] ++ [116]), AV.str ([] ++ [105] ++ [102]), AV.str ([] ++ [116] ++ [104] ++ [101] ++ [110]),
  AV.str ([] ++ [101] ++ [108] ++ [115] ++ [101]), AV.str ([] ++ [97] ++ [110] ++ [100]), AV.str ([] ++ [111] ++ [114]), AV.str ([] ++ [110] ++ [111] ++ [116]),
  AV.str ([] ++ [109] ++ [105] ++ [110]), AV.str ([] ++ [109] ++ [97] ++ [120])])
noncomputable def f_u64q : Option B_u64q := lock (tr_u64q).ev
theorem f_u64q_eq : f_u64q = (tr_u64q).ev := lock_eq _
theorem c_u64q : FH IP 55 p_u64q r_u64q (fun (v : Unit) => (f_u64q : Option B_u64q)) := fun_FH (F := F55) (L := []) (t := fun (v : Unit) => tr_u64q) T20_ok (LOk_of (l := []) (by kernel_rfl) trivial) (by kernel_rfl) (fun v => by kernel_rfl) (fun v => f_u64q_eq)
noncomputable def T21 : Tab := (55, FE p_u64q r_u64q (fun (v : Unit) => (f_u64q : Option B_u64q))) :: T20
theorem T21_ok : TabOk IP T21 := ⟨FE_ok c_u64q, T20_ok⟩
abbrev TT_u10q : Type := List AV × List UInt8 × Int × Int
def hs_u10q : List PSt := [⟨[(1006500, .junk), (0, .view 1), (1, .str), (7, .int .i64), (8, .int .i64)], [], 0, 0⟩]
noncomputable def x_u10q_0 (x0 : List AV) (x1 : List UInt8) (x2 : Int) (x3 : Int) : X × St := (X.ret, { tm := [(4, AV.int IntKind.i64 x3)], hp := [], nx := 0, k := 0 })
noncomputable def x_u10q_1 (x0 : List AV) (x1 : List UInt8) (x2 : Int) (x3 : Int) : X × St := (X.exit 0, { tm := [(4, AV.junk)], hp := [], nx := 0, k := 0 })
noncomputable def x_u10q : List (TT_u10q → X × St) := [fun w => x_u10q_0 w.1 w.2.1 w.2.2.1 w.2.2.2, fun w => x_u10q_1 w.1 w.2.1 w.2.2.1 w.2.2.2]
noncomputable def st_u10q_0 (x0 : List AV) (x1 : List UInt8) (x2 : Int) (x3 : Int) : DT (Rd TT_u10q) :=
 .br (decide (x3 < x2))
  (.br (okAt [CS.str] x0 x3)
   (.br (x1 == strOf (cellAt x0 x3 0)) (.at (.done 0)) (.at (.next ((x0, x1, x2, IntKind.i64.wrap (x3 + 1))))))
   (.no))
  (.at (.done 1))
noncomputable def st_u10q : TT_u10q → DT (Rd TT_u10q) := (fun v => st_u10q_0 v.1 v.2.1 v.2.2.1 v.2.2.2)
noncomputable def l_u10q (v : TT_u10q) : Option (Nat × TT_u10q) := lock (iterO (fun v => (st_u10q v).ev) v)
theorem l_u10q_eq (v : TT_u10q) : l_u10q v = iterO (fun v => (st_u10q v).ev) v := lock_eq _
noncomputable def ll_u10q : LEnt := LE (τ := TT_u10q) (hD hs_u10q) (l_u10q) x_u10q
theorem t_u10q : Go.Eng.Told IP (loopAt F65 0).1 (loopAt F65 0).2 (ll_u10q) := loop_LE (inferInstance : Inhabited TT_u10q) (hs := hs_u10q) (st := st_u10q) (L := []) T21_ok (LOk_of (l := []) (by kernel_rfl) trivial) (l_u10q_eq) (fun v => by kernel_rfl) (fun v => by kernel_rfl)
abbrev B_u12q : Type := Int
def p_u12q : PArgs := ⟨[.view 1, .str], []⟩
def r_u12q : List PRes := [⟨false, .int .i64, []⟩]
noncomputable def tr_u12q (x0 : List AV) (x1 : List UInt8) : DT B_u12q :=
 .bi (pj 0 (l_u10q (x0, x1, (↑x0.length : Int), 0))) (fun y0 =>
  .at (y0.snd.snd.snd))
  (.bi (pj 1 (l_u10q (x0, x1, (↑x0.length : Int), 0))) (fun y0 =>
   .at (-1))
   (.no))
noncomputable def f_u12q (x0 : List AV) (x1 : List UInt8) : Option B_u12q := lock (tr_u12q x0 x1).ev
theorem f_u12q_eq (x0 : List AV) (x1 : List UInt8) : f_u12q x0 x1 = (tr_u12q x0 x1).ev := lock_eq _
theorem c_u12q : FH IP 65 p_u12q r_u12q (fun (v : List AV × List UInt8) => (f_u12q v.1 v.2 : Option B_u12q)) := fun_FH (F := F65) (L := [(1006500, ll_u10q)]) (t := fun (v : List AV × List UInt8) => tr_u12q v.1 v.2) T21_ok (LOk_of (l := [loopAt F65 0]) (by kernel_rfl) ⟨sel_one (by kernel_rfl) t_u10q, trivial⟩) (by kernel_rfl) (fun v => by kernel_rfl) (fun v => f_u12q_eq v.1 v.2)
noncomputable def T22 : Tab := (65, FE p_u12q r_u12q (fun (v : List AV × List UInt8) => (f_u12q v.1 v.2 : Option B_u12q))) :: T21
theorem T22_ok : TabOk IP T22 := ⟨FE_ok c_u12q, T21_ok⟩
abbrev B_u9q : Type := Bool
def p_u9q : PArgs := ⟨[.view 1, .str], []⟩
def r_u9q : List PRes := [⟨false, .bool, []⟩]
noncomputable def tr_u9q (x0 : List AV) (x1 : List UInt8) : DT B_u9q :=
 .bi (f_u12q x0 x1) (fun y0 =>
  .at (decide (y0 ≥ 0)))
  (.no)
noncomputable def f_u9q (x0 : List AV) (x1 : List UInt8) : Option B_u9q := lock (tr_u9q x0 x1).ev
theorem f_u9q_eq (x0 : List AV) (x1 : List UInt8) : f_u9q x0 x1 = (tr_u9q x0 x1).ev := lock_eq _
theorem c_u9q : FH IP 54 p_u9q r_u9q (fun (v : List AV × List UInt8) => (f_u9q v.1 v.2 : Option B_u9q)) := fun_FH (F := F54) (L := []) (t := fun (v : List AV × List UInt8) => tr_u9q v.1 v.2) T22_ok (LOk_of (l := []) (by kernel_rfl) trivial) (by kernel_rfl) (fun v => by kernel_rfl) (fun v => f_u9q_eq v.1 v.2)
noncomputable def T23 : Tab := (54, FE p_u9q r_u9q (fun (v : List AV × List UInt8) => (f_u9q v.1 v.2 : Option B_u9q))) :: T22
theorem T23_ok : TabOk IP T23 := ⟨FE_ok c_u9q, T22_ok⟩
abbrev B_u76q : Type := Bool
def p_u76q : PArgs := ⟨[.str], []⟩
def r_u76q : List PRes := [⟨false, .bool, []⟩]
noncomputable def tr_u76q (x0 : List UInt8) : DT B_u76q :=
 .bi (f_u64q) (fun y0 =>
  .bi (f_u9q y0 x0) (fun y1 =>
   .at (y1))
   (.no))
  (.no)
noncomputable def f_u76q (x0 : List UInt8) : Option B_u76q := lock (tr_u76q x0).ev
theorem f_u76q_eq (x0 : List UInt8) : f_u76q x0 = (tr_u76q x0).ev := lock_eq _
theorem c_u76q : FH IP 47 p_u76q r_u76q (fun (v : List UInt8) => (f_u76q v : Option B_u76q)) := fun_FH (F := F47) (L := []) (t := fun (v : List UInt8) => tr_u76q v) T23_ok (LOk_of (l := []) (by kernel_rfl) trivial) (by kernel_rfl) (fun v => by kernel_rfl) (fun v => f_u76q_eq v)
noncomputable def T24 : Tab := (47, FE p_u76q r_u76q (fun (v : List UInt8) => (f_u76q v : Option B_u76q))) :: T23
theorem T24_ok : TabOk IP T24 := ⟨FE_ok c_u76q, T23_ok⟩
abbrev B_u29q : Type := Bool
def p_u29q : PArgs := ⟨[.int .i32], []⟩
def r_u29q : List PRes := [⟨false, .bool, []⟩]
noncomputable def tr_u29q (x0 : Int) : DT B_u29q :=
 .bi (f_u50q x0) (fun y0 =>
  .bi (br y0 (some true) (some (x0 == 46))) (fun y1 =>
   .bi (br y1 (some true) (some (x0 == 37))) (fun y2 =>
    .at (y2))
    (.no))
   (.no))
  (.no)
noncomputable def f_u29q (x0 : Int) : Option B_u29q := lock (tr_u29q x0).ev
theorem f_u29q_eq (x0 : Int) : f_u29q x0 = (tr_u29q x0).ev := lock_eq _
theorem c_u29q : FH IP 50 p_u29q r_u29q (fun (v : Int) => (f_u29q v : Option B_u29q)) := fun_FH (F := F50) (L := []) (t := fun (v : Int) => tr_u29q v) T24_ok (LOk_of (l := []) (by kernel_rfl) trivial) (by kernel_rfl) (fun v => by kernel_rfl) (fun v => f_u29q_eq v)
noncomputable def T25 : Tab := (50, FE p_u29q r_u29q (fun (v : Int) => (f_u29q v : Option B_u29q))) :: T24
theorem T25_ok : TabOk IP T25 := ⟨FE_ok c_u29q, T24_ok⟩
abbrev TT_u22q : Type := List UInt8 × Int
def hs_u22q : List PSt := [⟨[(1004000, .junk), (0, .str), (1, .fn (.func 50) []), (5, .int .i64)], [], 0, 0⟩]
noncomputable def x_u22q_0 (x0 : List UInt8) (x1 : Int) : X × St := (X.exit 0, { tm := [(0, AV.str x0), (5, AV.int IntKind.i64 x1)], hp := [], nx := 0, k := 0 })
noncomputable def x_u22q : List (TT_u22q → X × St) := [fun w => x_u22q_0 w.1 w.2]
noncomputable def st_u22q_0 (x0 : List UInt8) (x1 : Int) : DT (Rd TT_u22q) :=
 .bi (br (decide (x1 < (↑x0.length : Int)))
     (br (inB x0.length x1) (br (sm (f_u29q (IntKind.i32.wrap (byteAt x0 x1)))) (some (gv (f_u29q (IntKind.i32.wrap (byteAt x0 x1))))) none) none) (some false)) (fun y0 =>
  .br (y0) (.at (.next ((x0, IntKind.i64.wrap (x1 + 1))))) (.at (.done 0)))
  (.no)
noncomputable def st_u22q : TT_u22q → DT (Rd TT_u22q) := (fun v => st_u22q_0 v.1 v.2)
noncomputable def l_u22q (v : TT_u22q) : Option (Nat × TT_u22q) := lock (iterO (fun v => (st_u22q v).ev) v)
theorem l_u22q_eq (v : TT_u22q) : l_u22q v = iterO (fun v => (st_u22q v).ev) v := lock_eq _
noncomputable def ll_u22q : LEnt := LE (τ := TT_u22q) (hD hs_u22q) (l_u22q) x_u22q
theorem t_u22q : Go.Eng.Told IP (loopAt F40 0).1 (loopAt F40 0).2 (ll_u22q) := loop_LE (inferInstance : Inhabited TT_u22q) (hs := hs_u22q) (st := st_u22q) (L := []) T25_ok (LOk_of (l := []) (by kernel_rfl) trivial) (l_u22q_eq) (fun v => by kernel_rfl) (fun v => by kernel_rfl)
abbrev B_u37q : Type := List UInt8
def p_u37q : PArgs := ⟨[.str, .fn (.func 50) []], []⟩
def r_u37q : List PRes := [⟨false, .str, []⟩]
noncomputable def tr_u37q (x0 : List UInt8) : DT B_u37q :=
 .bi (pj 0 (l_u22q (x0, 0))) (fun y0 =>
  .br (leB y0.snd y0.fst.length && true) (.at (List.take y0.snd.toNat y0.fst)) (.no))
  (.no)
noncomputable def f_u37q (x0 : List UInt8) : Option B_u37q := lock (tr_u37q x0).ev
theorem f_u37q_eq (x0 : List UInt8) : f_u37q x0 = (tr_u37q x0).ev := lock_eq _
theorem c_u37q : FH IP 40 p_u37q r_u37q (fun (v : List UInt8) => (f_u37q v : Option B_u37q)) := fun_FH (F := F40) (L := [(1004000, ll_u22q)]) (t := fun (v : List UInt8) => tr_u37q v) T25_ok (LOk_of (l := [loopAt F40 0]) (by kernel_rfl) ⟨sel_one (by kernel_rfl) t_u22q, trivial⟩) (by kernel_rfl) (fun v => by kernel_rfl) (fun v => f_u37q_eq v)
noncomputable def T26 : Tab := (40, FE p_u37q r_u37q (fun (v : List UInt8) => (f_u37q v : Option B_u37q))) :: T25
theorem T26_ok : TabOk IP T26 := ⟨FE_ok c_u37q, T25_ok⟩
abbrev TT_u23q : Type := List UInt8 × Int
def hs_u23q : List PSt := [⟨[(1004000, .junk), (0, .str), (1, .fn (.func 48) []), (5, .int .i64)], [], 0, 0⟩]
noncomputable def x_u23q_0 (x0 : List UInt8) (x1 : Int) : X × St := (X.exit 0, { tm := [(0, AV.str x0), (5, AV.int IntKind.i64 x1)], hp := [], nx := 0, k := 0 })
noncomputable def x_u23q : List (TT_u23q → X × St) := [fun w => x_u23q_0 w.1 w.2]
noncomputable def st_u23q_0 (x0 : List UInt8) (x1 : Int) : DT (Rd TT_u23q) :=
 .bi (br (decide (x1 < (↑x0.length : Int)))
     (br (inB x0.length x1) (br (sm (f_u62q (IntKind.i32.wrap (byteAt x0 x1)))) (some (gv (f_u62q (IntKind.i32.wrap (byteAt x0 x1))))) none) none) (some false)) (fun y0 =>
  .br (y0) (.at (.next ((x0, IntKind.i64.wrap (x1 + 1))))) (.at (.done 0)))
  (.no)
noncomputable def st_u23q : TT_u23q → DT (Rd TT_u23q) := (fun v => st_u23q_0 v.1 v.2)
noncomputable def l_u23q (v : TT_u23q) : Option (Nat × TT_u23q) := lock (iterO (fun v => (st_u23q v).ev) v)
theorem l_u23q_eq (v : TT_u23q) : l_u23q v = iterO (fun v => (st_u23q v).ev) v := lock_eq _
noncomputable def ll_u23q : LEnt := LE (τ := TT_u23q) (hD hs_u23q) (l_u23q) x_u23q
theorem t_u23q : Go.Eng.Told IP (loopAt F40 0).1 (loopAt F40 0).2 (ll_u23q) := loop_LE (inferInstance : Inhabited TT_u23q) (hs := hs_u23q) (st := st_u23q) (L := []) T26_ok (LOk_of (l := []) (by kernel_rfl) trivial) (l_u23q_eq) (fun v => by kernel_rfl) (fun v => by kernel_rfl)
abbrev B_u38q : Type := List UInt8
def p_u38q : PArgs := ⟨[.str, .fn (.func 48) []], []⟩
def r_u38q : List PRes := [⟨false, .str, []⟩]
noncomputable def tr_u38q (x0 : List UInt8) : DT B_u38q :=
 .bi (pj 0 (l_u23q (x0, 0))) (fun y0 =>
  .br (leB y0.snd y0.fst.length && true) (.at (List.take y0.snd.toNat y0.fst)) (.no))
  (.no)
noncomputable def f_u38q (x0 : List UInt8) : Option B_u38q := lock (tr_u38q x0).ev
theorem f_u38q_eq (x0 : List UInt8) : f_u38q x0 = (tr_u38q x0).ev := lock_eq _
theorem c_u38q : FH IP 40 p_u38q r_u38q (fun (v : List UInt8) => (f_u38q v : Option B_u38q)) := fun_FH (F := F40) (L := [(1004000, ll_u23q)]) (t := fun (v : List UInt8) => tr_u38q v) T26_ok (LOk_of (l := [loopAt F40 0]) (by kernel_rfl) ⟨sel_one (by kernel_rfl) t_u23q, trivial⟩) (by kernel_rfl) (fun v => by kernel_rfl) (fun v => f_u38q_eq v)
noncomputable def T27 : Tab := (40, FE p_u38q r_u38q (fun (v : List UInt8) => (f_u38q v : Option B_u38q))) :: T26
theorem T27_ok : TabOk IP T27 := ⟨FE_ok c_u38q, T26_ok⟩
abbrev B_u35q : Type := Bool
def p_u35q : PArgs := ⟨[.str], []⟩
def r_u35q : List PRes := [⟨false, .bool, []⟩]
noncomputable def tr_u35q (x0 : List UInt8) : DT B_u35q :=
 .bi (br (!x0 == []) (br (sm (f_u38q x0)) (some (gv (f_u38q x0) == x0)) none) (some false)) (fun y0 =>
  .bi (br y0 (br ((↑x0.length : Int) == 1) (some true) (br (inB x0.length 0) (some (byteAt x0 0 != 48)) none)) (some false)) (fun y1 =>
   .at (y1))
   (.no))
  (.no)
noncomputable def f_u35q (x0 : List UInt8) : Option B_u35q := lock (tr_u35q x0).ev
theorem f_u35q_eq (x0 : List UInt8) : f_u35q x0 = (tr_u35q x0).ev := lock_eq _
theorem c_u35q : FH IP 56 p_u35q r_u35q (fun (v : List UInt8) => (f_u35q v : Option B_u35q)) := fun_FH (F := F56) (L := []) (t := fun (v : List UInt8) => tr_u35q v) T27_ok (LOk_of (l := []) (by kernel_rfl) trivial) (by kernel_rfl) (fun v => by kernel_rfl) (fun v => f_u35q_eq v)
noncomputable def T28 : Tab := (56, FE p_u35q r_u35q (fun (v : List UInt8) => (f_u35q v : Option B_u35q))) :: T27
theorem T28_ok : TabOk IP T28 := ⟨FE_ok c_u35q, T27_ok⟩
abbrev B_u8q : Type := Bool
def p_u8q : PArgs := ⟨[.str, .str], []⟩
def r_u8q : List PRes := [⟨false, .bool, []⟩]
noncomputable def tr_u8q (x0 : List UInt8) (x1 : List UInt8) : DT B_u8q :=
 .bi (br (decide ((↑x0.length : Int) ≥ (↑x1.length : Int)))
     (br (leB (IntKind.i64.wrap ((↑x0.length : Int) - (↑x1.length : Int))) x0.length) (some (List.drop (IntKind.i64.wrap ((↑x0.length : Int) - (↑x1.length : Int))).toNat x0 == x1))
       none)
     (some false)) (fun y0 =>
  .at (y0))
  (.no)
noncomputable def f_u8q (x0 : List UInt8) (x1 : List UInt8) : Option B_u8q := lock (tr_u8q x0 x1).ev
theorem f_u8q_eq (x0 : List UInt8) (x1 : List UInt8) : f_u8q x0 x1 = (tr_u8q x0 x1).ev := lock_eq _
theorem c_u8q : FH IP 89 p_u8q r_u8q (fun (v : List UInt8 × List UInt8) => (f_u8q v.1 v.2 : Option B_u8q)) := fun_FH (F := F89) (L := []) (t := fun (v : List UInt8 × List UInt8) => tr_u8q v.1 v.2) T28_ok (LOk_of (l := []) (by kernel_rfl) trivial) (by kernel_rfl) (fun v => by kernel_rfl) (fun v => f_u8q_eq v.1 v.2)
noncomputable def T29 : Tab := (89, FE p_u8q r_u8q (fun (v : List UInt8 × List UInt8) => (f_u8q v.1 v.2 : Option B_u8q))) :: T28
theorem T29_ok : TabOk IP T29 := ⟨FE_ok c_u8q, T28_ok⟩
abbrev B_u6q : Type := List UInt8 × Bool
def p_u6q : PArgs := ⟨[.str, .str], []⟩
def r_u6q : List PRes := [⟨false, .tup [.str, .bool], []⟩]
noncomputable def tr_u6q (x0 : List UInt8) (x1 : List UInt8) : DT B_u6q :=
 .bi (f_u8q x0 x1) (fun y0 =>
  .br (!y0)
   (.at ((x0, false)))
   (.br (leB (IntKind.i64.wrap ((↑x0.length : Int) - (↑x1.length : Int))) x0.length && true)
    (.at ((List.take (IntKind.i64.wrap ((↑x0.length : Int) - (↑x1.length : Int))).toNat x0, true)))
    (.no)))
  (.no)
noncomputable def f_u6q (x0 : List UInt8) (x1 : List UInt8) : Option B_u6q := lock (tr_u6q x0 x1).ev
theorem f_u6q_eq (x0 : List UInt8) (x1 : List UInt8) : f_u6q x0 x1 = (tr_u6q x0 x1).ev := lock_eq _
theorem c_u6q : FH IP 80 p_u6q r_u6q (fun (v : List UInt8 × List UInt8) => (f_u6q v.1 v.2 : Option B_u6q)) := fun_FH (F := F80) (L := []) (t := fun (v : List UInt8 × List UInt8) => tr_u6q v.1 v.2) T29_ok (LOk_of (l := []) (by kernel_rfl) trivial) (by kernel_rfl) (fun v => by kernel_rfl) (fun v => f_u6q_eq v.1 v.2)
noncomputable def T30 : Tab := (80, FE p_u6q r_u6q (fun (v : List UInt8 × List UInt8) => (f_u6q v.1 v.2 : Option B_u6q))) :: T29
theorem T30_ok : TabOk IP T30 := ⟨FE_ok c_u6q, T29_ok⟩
abbrev B_u15q : Type := List UInt8 × Bool
def p_u15q : PArgs := ⟨[.str, .str], []⟩
def r_u15q : List PRes := [⟨false, .tup [.str, .bool], []⟩]
noncomputable def tr_u15q (x0 : List UInt8) (x1 : List UInt8) : DT B_u15q :=
 .bi (f_u6q x0 x1) (fun y0 =>
  .at ((y0.fst, y0.snd)))
  (.no)
noncomputable def f_u15q (x0 : List UInt8) (x1 : List UInt8) : Option B_u15q := lock (tr_u15q x0 x1).ev
theorem f_u15q_eq (x0 : List UInt8) (x1 : List UInt8) : f_u15q x0 x1 = (tr_u15q x0 x1).ev := lock_eq _
theorem c_u15q : FH IP 68 p_u15q r_u15q (fun (v : List UInt8 × List UInt8) => (f_u15q v.1 v.2 : Option B_u15q)) := fun_FH (F := F68) (L := []) (t := fun (v : List UInt8 × List UInt8) => tr_u15q v.1 v.2) T30_ok (LOk_of (l := []) (by kernel_rfl) trivial) (by kernel_rfl) (fun v => by kernel_rfl) (fun v => f_u15q_eq v.1 v.2)
noncomputable def T31 : Tab := (68, FE p_u15q r_u15q (fun (v : List UInt8 × List UInt8) => (f_u15q v.1 v.2 : Option B_u15q))) :: T30
theorem T31_ok : TabOk IP T31 := ⟨FE_ok c_u15q, T30_ok⟩
abbrev B_u11q : Type := Int
def p_u11q : PArgs := ⟨[.str, .str], []⟩
def r_u11q : List PRes := [⟨false, .int .i64, []⟩]
noncomputable def tr_u11q (x0 : List UInt8) (x1 : List UInt8) : DT B_u11q :=
 .bi (br ((↑x1.length : Int) == 0) (some true) (some (x1 == x0))) (fun y0 =>
  .br (y0)
   (.at (0))
   (.br ((↑x1.length : Int) == 1)
    (.br (inB x1.length 0) (.at (Lib.indexByte x0 (byteAt x1 0).toNat.toUInt8)) (.no))
    (.br (decide ((↑x1.length : Int) ≥ (↑x0.length : Int))) (.at (-1)) (.no))))
  (.no)
noncomputable def f_u11q (x0 : List UInt8) (x1 : List UInt8) : Option B_u11q := lock (tr_u11q x0 x1).ev
theorem f_u11q_eq (x0 : List UInt8) (x1 : List UInt8) : f_u11q x0 x1 = (tr_u11q x0 x1).ev := lock_eq _
theorem c_u11q : FH IP 53 p_u11q r_u11q (fun (v : List UInt8 × List UInt8) => (f_u11q v.1 v.2 : Option B_u11q)) := fun_FH (F := F53) (L := []) (t := fun (v : List UInt8 × List UInt8) => tr_u11q v.1 v.2) T31_ok (LOk_of (l := [loopAt F53 0]) (by kernel_rfl) ⟨sel_no (by kernel_rfl), trivial⟩) (by kernel_rfl) (fun v => by kernel_rfl) (fun v => f_u11q_eq v.1 v.2)
noncomputable def T32 : Tab := (53, FE p_u11q r_u11q (fun (v : List UInt8 × List UInt8) => (f_u11q v.1 v.2 : Option B_u11q))) :: T31
theorem T32_ok : TabOk IP T32 := ⟨FE_ok c_u11q, T31_ok⟩
abbrev B_u13q : Type := List UInt8 × List UInt8 × Bool
def p_u13q : PArgs := ⟨[.str, .str], []⟩
def r_u13q : List PRes := [⟨false, .tup [.str, .str, .bool], []⟩]
noncomputable def tr_u13q (x0 : List UInt8) (x1 : List UInt8) : DT B_u13q :=
 .bi (f_u11q x0 x1) (fun y0 =>
  .br (decide (y0 ≥ 0))
   (.br (leB y0 x0.length && true)
    (.br (leB (IntKind.i64.wrap (y0 + (↑x1.length : Int))) x0.length)
     (.at ((List.take y0.toNat x0, List.drop (IntKind.i64.wrap (y0 + (↑x1.length : Int))).toNat x0, true)))
     (.no))
    (.no))
   (.at ((x0, [], false))))
  (.no)
noncomputable def f_u13q (x0 : List UInt8) (x1 : List UInt8) : Option B_u13q := lock (tr_u13q x0 x1).ev
theorem f_u13q_eq (x0 : List UInt8) (x1 : List UInt8) : f_u13q x0 x1 = (tr_u13q x0 x1).ev := lock_eq _
theorem c_u13q : FH IP 81 p_u13q r_u13q (fun (v : List UInt8 × List UInt8) => (f_u13q v.1 v.2 : Option B_u13q)) := fun_FH (F := F81) (L := []) (t := fun (v : List UInt8 × List UInt8) => tr_u13q v.1 v.2) T32_ok (LOk_of (l := []) (by kernel_rfl) trivial) (by kernel_rfl) (fun v => by kernel_rfl) (fun v => f_u13q_eq v.1 v.2)
noncomputable def T33 : Tab := (81, FE p_u13q r_u13q (fun (v : List UInt8 × List UInt8) => (f_u13q v.1 v.2 : Option B_u13q))) :: T32
theorem T33_ok : TabOk IP T33 := ⟨FE_ok c_u13q, T32_ok⟩
abbrev B_u61q : Type := List UInt8 × List UInt8 × Bool
def p_u61q : PArgs := ⟨[.str, .str], []⟩
def r_u61q : List PRes := [⟨false, .tup [.str, .str, .bool], []⟩]
noncomputable def tr_u61q (x0 : List UInt8) (x1 : List UInt8) : DT B_u61q :=
 .bi (f_u13q x0 x1) (fun y0 =>
  .at ((y0.fst, y0.snd.fst, y0.snd.snd)))
  (.no)
noncomputable def f_u61q (x0 : List UInt8) (x1 : List UInt8) : Option B_u61q := lock (tr_u61q x0 x1).ev
theorem f_u61q_eq (x0 : List UInt8) (x1 : List UInt8) : f_u61q x0 x1 = (tr_u61q x0 x1).ev := lock_eq _
theorem c_u61q : FH IP 69 p_u61q r_u61q (fun (v : List UInt8 × List UInt8) => (f_u61q v.1 v.2 : Option B_u61q)) := fun_FH (F := F69) (L := []) (t := fun (v : List UInt8 × List UInt8) => tr_u61q v.1 v.2) T33_ok (LOk_of (l := []) (by kernel_rfl) trivial) (by kernel_rfl) (fun v => by kernel_rfl) (fun v => f_u61q_eq v.1 v.2)
noncomputable def T34 : Tab := (69, FE p_u61q r_u61q (fun (v : List UInt8 × List UInt8) => (f_u61q v.1 v.2 : Option B_u61q))) :: T33
theorem T34_ok : TabOk IP T34 := ⟨FE_ok c_u61q, T33_ok⟩
abbrev TT_u48q : Type := List UInt8 × List UInt8
def hs_u48q : List PSt := [⟨[(1005800, .junk), (6, .str), (7, .str)], [], 0, 0⟩]
noncomputable def x_u48q_0 (x0 : List UInt8) (x1 : List UInt8) : X × St := (X.exit 0, { tm := [(6, AV.str x0), (7, AV.str x1)], hp := [], nx := 0, k := 0 })
noncomputable def x_u48q : List (TT_u48q → X × St) := [fun w => x_u48q_0 w.1 w.2]
noncomputable def st_u48q_0 (x0 : List UInt8) (x1 : List UInt8) : DT (Rd TT_u48q) :=
 .br (decide ((↑x1.length : Int) < 4))
  (.br (decide (x1.length + 1 ≤ 4611686018427387904)) (.at (.next ((x0, x1 ++ [48])))) (.no))
  (.at (.done 0))
noncomputable def st_u48q : TT_u48q → DT (Rd TT_u48q) := (fun v => st_u48q_0 v.1 v.2)
noncomputable def l_u48q (v : TT_u48q) : Option (Nat × TT_u48q) := lock (iterO (fun v => (st_u48q v).ev) v)
theorem l_u48q_eq (v : TT_u48q) : l_u48q v = iterO (fun v => (st_u48q v).ev) v := lock_eq _
noncomputable def ll_u48q : LEnt := LE (τ := TT_u48q) (hD hs_u48q) (l_u48q) x_u48q
theorem t_u48q : Go.Eng.Told IP (loopAt F58 0).1 (loopAt F58 0).2 (ll_u48q) := loop_LE (inferInstance : Inhabited TT_u48q) (hs := hs_u48q) (st := st_u48q) (L := []) T34_ok (LOk_of (l := []) (by kernel_rfl) trivial) (l_u48q_eq) (fun v => by kernel_rfl) (fun v => by kernel_rfl)
abbrev B_u75q : Type := Int × Int
def p_u75q : PArgs := ⟨[.str], []⟩
def r_u75q : List PRes := [⟨false, .tup [.int .i64, .int .i64], []⟩]
noncomputable def tr_u75q (x0 : List UInt8) : DT B_u75q :=
 .bi (f_u15q x0 [37]) (fun y0 =>
  .bi (f_u61q y0.fst [46]) (fun y1 =>
   .bi (br (!y0.snd) (some true) (br (sm (f_u35q y1.fst)) (some !gv (f_u35q y1.fst)) none)) (fun y2 =>
    .bi (br y2 (some true)
        (br y1.snd.snd
          (br (y1.snd.fst == []) (some true)
            (br (decide ((↑y1.snd.fst.length : Int) > 4)) (some true)
              (br (sm (f_u38q y1.snd.fst))
                (br (!gv (f_u38q y1.snd.fst) == y1.snd.fst) (some true)
                  (br (inB y1.snd.fst.length (IntKind.i64.wrap ((↑y1.snd.fst.length : Int) - 1))) (some (byteAt y1.snd.fst (IntKind.i64.wrap ((↑y1.snd.fst.length : Int) - 1)) == 48))
                    none))
                none)))
          (some false))) (fun y3 =>
     .br (y3)
      (.at ((0, 2)))
      (.br (decide ((↑y1.fst.length : Int) > 3))
       (.at ((0, 1)))
       (.bi (pj 0 (l_u48q (y1.fst, y1.snd.fst))) (fun y4 =>
        .br (decide (y4.fst.length + y4.snd.length ≤ 4611686018427387904))
         (.br (pOk (y4.fst ++ y4.snd) && nOk (Lib.atoiAll (y4.fst ++ y4.snd)))
          (.br (decide (nVal (Lib.atoiAll (y4.fst ++ y4.snd)) > 1000000)) (.at ((0, 1))) (.at ((nVal (Lib.atoiAll (y4.fst ++ y4.snd)), 0))))
          (.br (pOk (y4.fst ++ y4.snd) && nRange (Lib.atoiAll (y4.fst ++ y4.snd)))
           (.br (decide (Lib.atoiSat (y4.fst ++ y4.snd) > 1000000)) (.at ((0, 1))) (.at ((Lib.atoiSat (y4.fst ++ y4.snd), 0))))
           (.br (pOk (y4.fst ++ y4.snd) && nSyntax (Lib.atoiAll (y4.fst ++ y4.snd))) (.at ((0, 0))) (.no))))
         (.no))
        (.no))))
     (.no))
    (.no))
   (.no))
  (.no)
noncomputable def f_u75q (x0 : List UInt8) : Option B_u75q := lock (tr_u75q x0).ev
theorem f_u75q_eq (x0 : List UInt8) : f_u75q x0 = (tr_u75q x0).ev := lock_eq _
theorem c_u75q : FH IP 58 p_u75q r_u75q (fun (v : List UInt8) => (f_u75q v : Option B_u75q)) := fun_FH (F := F58) (L := [(1005800, ll_u48q)]) (t := fun (v : List UInt8) => tr_u75q v) T34_ok (LOk_of (l := [loopAt F58 0]) (by kernel_rfl) ⟨sel_one (by kernel_rfl) t_u48q, trivial⟩) (by kernel_rfl) (fun v => by kernel_rfl) (fun v => f_u75q_eq v)
noncomputable def T35 : Tab := (58, FE p_u75q r_u75q (fun (v : List UInt8) => (f_u75q v : Option B_u75q))) :: T34
theorem T35_ok : TabOk IP T35 := ⟨FE_ok c_u75q, T34_ok⟩
abbrev B_u53q : Type := Int × Int × List UInt8 × Int
def p_u53q : PArgs := ⟨[.str], []⟩
def r_u53q : List PRes := [⟨false, .tup [.agg [.int .i64, .int .i64, .str], .int .i64], []⟩]
noncomputable def tr_u53q (x0 : List UInt8) : DT B_u53q :=
 .bi (f_u35q x0) (fun y0 =>
  .br (y0)
   (.br (pOk x0 && nOk (Lib.parseIntB 64 x0))
    (.at ((2, 0, x0, 0)))
    (.br (pOk x0 && nRange (Lib.parseIntB 64 x0))
     (.at ((0, 0, [], 6)))
     (.br (pOk x0 && nSyntax (Lib.parseIntB 64 x0)) (.at ((0, 0, [], 6))) (.no))))
   (.bi (f_u75q x0) (fun y1 =>
    .br (y1.snd == 0)
     (.at ((3, 0, x0, 0)))
     (.br (y1.snd == 1) (.at ((0, 0, [], 6))) (.at ((0, 0, [], 2)))))
    (.no)))
  (.no)
noncomputable def f_u53q (x0 : List UInt8) : Option B_u53q := lock (tr_u53q x0).ev
theorem f_u53q_eq (x0 : List UInt8) : f_u53q x0 = (tr_u53q x0).ev := lock_eq _
theorem c_u53q : FH IP 49 p_u53q r_u53q (fun (v : List UInt8) => (f_u53q v : Option B_u53q)) := fun_FH (F := F49) (L := []) (t := fun (v : List UInt8) => tr_u53q v) T35_ok (LOk_of (l := []) (by kernel_rfl) trivial) (by kernel_rfl) (fun v => by kernel_rfl) (fun v => f_u53q_eq v)
noncomputable def T36 : Tab := (49, FE p_u53q r_u53q (fun (v : List UInt8) => (f_u53q v : Option B_u53q))) :: T35
theorem T36_ok : TabOk IP T36 := ⟨FE_ok c_u53q, T35_ok⟩
abbrev B_u63q : Type := List AV
def p_u63q : PArgs := ⟨[], []⟩
def r_u63q : List PRes := [⟨false, .view 1, []⟩]
noncomputable def tr_u63q : DT B_u63q :=
 .at ([AV.str ([] ++ [61] ++ [61]), AV.str ([] ++ [33] ++ [61]), AV.str ([] ++ [60] ++ [61]), AV.str ([] ++ [123]), AV.str ([] ++ [125]), AV.str ([] ++ [40]), AV.str ([] ++ [41]),
  AV.str ([] ++ [44]), AV.str ([] ++ [59]), AV.str ([] ++ [58]), AV.str ([] ++ [36]), AV.str ([] ++ [43]), AV.str ([] ++ [45]), AV.str ([] ++ [42]), AV.str ([] ++ [47]),
  AV.str ([] ++ [60])])
noncomputable def f_u63q : Option B_u63q := lock (tr_u63q).ev
theorem f_u63q_eq : f_u63q = (tr_u63q).ev := lock_eq _
theorem c_u63q : FH IP 51 p_u63q r_u63q (fun (v : Unit) => (f_u63q : Option B_u63q)) := fun_FH (F := F51) (L := []) (t := fun (v : Unit) => tr_u63q) T36_ok (LOk_of (l := []) (by kernel_rfl) trivial) (by kernel_rfl) (fun v => by kernel_rfl) (fun v => f_u63q_eq)
noncomputable def T37 : Tab := (51, FE p_u63q r_u63q (fun (v : Unit) => (f_u63q : Option B_u63q))) :: T36
theorem T37_ok : TabOk IP T37 := ⟨FE_ok c_u63q, T36_ok⟩
end Go.Proofs.H11d

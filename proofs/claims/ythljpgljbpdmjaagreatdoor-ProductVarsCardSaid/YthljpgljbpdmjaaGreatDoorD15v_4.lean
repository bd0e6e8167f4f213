/- Functions over plain data. Printed by a program of mine. -/
import Derived.Test.YthljpgljbpdmjaaGreatDoorD15v_3
import Derived.KernelRfl
set_option linter.unusedVariables false
set_option linter.unusedSimpArgs false
set_option linter.unnecessarySimpa false
namespace Go.Proofs.H15v
open Go Go.Eng
set_option maxRecDepth 100000
noncomputable def N_u88q : Nat → GT_u88q × GT_u8q × GT_u12q × GT_u57q
  | 0 => (fun _ _ _ _ => none, fun _ => none, fun _ => none, fun _ _ _ _ => none)
  | n + 1 => (fun x0 x1 x2 x3 => (tr_u88q ((N_u88q n).1) ((N_u88q n).2.1) ((N_u88q n).2.2.1) ((N_u88q n).2.2.2) x0 x1 x2 x3).ev, fun x0 => (tr_u8q ((N_u88q n).1) ((N_u88q n).2.1) ((N_u88q n).2.2.1) ((N_u88q n).2.2.2) x0).ev, fun x0 => (tr_u12q ((N_u88q n).1) ((N_u88q n).2.1) ((N_u88q n).2.2.1) ((N_u88q n).2.2.2) x0).ev, fun x0 x1 x2 x3 => (tr_u57q ((N_u88q n).1) ((N_u88q n).2.1) ((N_u88q n).2.2.1) ((N_u88q n).2.2.2) x0 x1 x2 x3).ev)
noncomputable def f_u88q (x0 : Int) (x1 : Int) (x2 : List UInt8) (x3 : List AV) : Option B_u88q := limO fun n => (N_u88q n).1 x0 x1 x2 x3
noncomputable def f_u8q (x0 : List AV) : Option B_u8q := limO fun n => (N_u88q n).2.1 x0
noncomputable def f_u12q (x0 : List AV) : Option B_u12q := limO fun n => (N_u88q n).2.2.1 x0
noncomputable def f_u57q (x0 : Int) (x1 : Int) (x2 : List UInt8) (x3 : List AV) : Option B_u57q := limO fun n => (N_u88q n).2.2.2 x0 x1 x2 x3
theorem N_u88q_ok : ∀ n, GH_u88q ((N_u88q n).1) ((N_u88q n).2.1) ((N_u88q n).2.2.1) ((N_u88q n).2.2.2)
  | 0 => ⟨(fun v y h => nomatch h), (fun v y h => nomatch h), (fun v y h => nomatch h), (fun v y h => nomatch h)⟩
  | n + 1 => have hG := N_u88q_ok n
    ⟨fun_FH (F := F86) (L := []) (t := fun (v : Int × Int × List UInt8 × List AV) => tr_u88q ((N_u88q n).1) ((N_u88q n).2.1) ((N_u88q n).2.2.1) ((N_u88q n).2.2.2) v.1 v.2.1 v.2.2.1 v.2.2.2) (TG_u88q_ok ((N_u88q n).1) ((N_u88q n).2.1) ((N_u88q n).2.2.1) ((N_u88q n).2.2.2) hG) (LOk_of (l := []) (by kernel_rfl) trivial) (by kernel_rfl) (fun v => by kernel_rfl) (fun v => rfl), fun_FH (F := F108) (L := []) (t := fun (v : List AV) => tr_u8q ((N_u88q n).1) ((N_u88q n).2.1) ((N_u88q n).2.2.1) ((N_u88q n).2.2.2) v) (TG_u88q_ok ((N_u88q n).1) ((N_u88q n).2.1) ((N_u88q n).2.2.1) ((N_u88q n).2.2.2) hG) (LOk_of (l := []) (by kernel_rfl) trivial) (by kernel_rfl) (fun v => by kernel_rfl) (fun v => rfl), fun_FH (F := F133) (L := [(1013300, ll_u10q ((N_u88q n).1) ((N_u88q n).2.1) ((N_u88q n).2.2.1) ((N_u88q n).2.2.2))]) (t := fun (v : List AV) => tr_u12q ((N_u88q n).1) ((N_u88q n).2.1) ((N_u88q n).2.2.1) ((N_u88q n).2.2.2) v) (TG_u88q_ok ((N_u88q n).1) ((N_u88q n).2.1) ((N_u88q n).2.2.1) ((N_u88q n).2.2.2) hG) (LOk_of (l := [loopAt F133 0]) (by kernel_rfl) ⟨sel_one (by kernel_rfl) (t_u10q ((N_u88q n).1) ((N_u88q n).2.1) ((N_u88q n).2.2.1) ((N_u88q n).2.2.2) hG), trivial⟩) (by kernel_rfl) (fun v => by kernel_rfl) (fun v => rfl), fun_FH (F := F109) (L := []) (t := fun (v : Int × Int × List UInt8 × List AV) => tr_u57q ((N_u88q n).1) ((N_u88q n).2.1) ((N_u88q n).2.2.1) ((N_u88q n).2.2.2) v.1 v.2.1 v.2.2.1 v.2.2.2) (TG_u88q_ok ((N_u88q n).1) ((N_u88q n).2.1) ((N_u88q n).2.2.1) ((N_u88q n).2.2.2) hG) (LOk_of (l := []) (by kernel_rfl) trivial) (by kernel_rfl) (fun v => by kernel_rfl) (fun v => rfl)⟩
theorem c_u88q : FH IP 86 p_u88q r_u88q (fun (v : Int × Int × List UInt8 × List AV) => (f_u88q v.1 v.2.1 v.2.2.1 v.2.2.2 : Option B_u88q)) := lim_FH (p := p_u88q) (rs := r_u88q) (s := fun n (v : Int × Int × List UInt8 × List AV) => (N_u88q n).1 v.1 v.2.1 v.2.2.1 v.2.2.2) fun n => (N_u88q_ok n).1
theorem c_u8q : FH IP 108 p_u8q r_u8q (fun (v : List AV) => (f_u8q v : Option B_u8q)) := lim_FH (p := p_u8q) (rs := r_u8q) (s := fun n (v : List AV) => (N_u88q n).2.1 v) fun n => (N_u88q_ok n).2.1
theorem c_u12q : FH IP 133 p_u12q r_u12q (fun (v : List AV) => (f_u12q v : Option B_u12q)) := lim_FH (p := p_u12q) (rs := r_u12q) (s := fun n (v : List AV) => (N_u88q n).2.2.1 v) fun n => (N_u88q_ok n).2.2.1
theorem c_u57q : FH IP 109 p_u57q r_u57q (fun (v : Int × Int × List UInt8 × List AV) => (f_u57q v.1 v.2.1 v.2.2.1 v.2.2.2 : Option B_u57q)) := lim_FH (p := p_u57q) (rs := r_u57q) (s := fun n (v : Int × Int × List UInt8 × List AV) => (N_u88q n).2.2.2 v.1 v.2.1 v.2.2.1 v.2.2.2) fun n => (N_u88q_ok n).2.2.2
noncomputable def T53 : Tab := (86, FE p_u88q r_u88q (fun (v : Int × Int × List UInt8 × List AV) => (f_u88q v.1 v.2.1 v.2.2.1 v.2.2.2 : Option B_u88q))) :: T52
theorem T53_ok : TabOk IP T53 := ⟨FE_ok c_u88q, T52_ok⟩
noncomputable def T54 : Tab := (108, FE p_u8q r_u8q (fun (v : List AV) => (f_u8q v : Option B_u8q))) :: T53
theorem T54_ok : TabOk IP T54 := ⟨FE_ok c_u8q, T53_ok⟩
noncomputable def T55 : Tab := (133, FE p_u12q r_u12q (fun (v : List AV) => (f_u12q v : Option B_u12q))) :: T54
theorem T55_ok : TabOk IP T55 := ⟨FE_ok c_u12q, T54_ok⟩
noncomputable def T56 : Tab := (109, FE p_u57q r_u57q (fun (v : Int × Int × List UInt8 × List AV) => (f_u57q v.1 v.2.1 v.2.2.1 v.2.2.2 : Option B_u57q))) :: T55
theorem T56_ok : TabOk IP T56 := ⟨FE_ok c_u57q, T55_ok⟩
abbrev B_u56q : Type := Int
def p_u56q : PArgs := ⟨[.agg [.int .i64, .int .i64, .str, .view 4]], []⟩
def r_u56q : List PRes := [⟨false, .int .i64, []⟩]
noncomputable def tr_u56q (x0 : Int) (x1 : Int) (x2 : List UInt8) (x3 : List AV) : DT B_u56q :=
 .bi (f_u97q x0 x1 x2 x3) (fun y0 =>
  .bi (br (decide (y0 > 64)) (some true) (br (sm (f_u98q x0 x1 x2 x3)) (some (decide (gv (f_u98q x0 x1 x2 x3) > 8))) none)) (fun y1 =>
   .br (y1)
    (.at (5))
    (.bi (f_u99q x0 x1 x2 x3) (fun y2 =>
     .br (!y2)
      (.at (1))
      (.bi (f_u88q x0 x1 x2 x3) (fun y3 =>
       .br (!y3) (.at (4)) (.at (0)))
       (.no)))
     (.no)))
   (.no))
  (.no)
noncomputable def f_u56q (x0 : Int) (x1 : Int) (x2 : List UInt8) (x3 : List AV) : Option B_u56q := lock (tr_u56q x0 x1 x2 x3).ev
theorem f_u56q_eq (x0 : Int) (x1 : Int) (x2 : List UInt8) (x3 : List AV) : f_u56q x0 x1 x2 x3 = (tr_u56q x0 x1 x2 x3).ev := lock_eq _
theorem c_u56q : FH IP 73 p_u56q r_u56q (fun (v : Int × Int × List UInt8 × List AV) => (f_u56q v.1 v.2.1 v.2.2.1 v.2.2.2 : Option B_u56q)) := fun_FH (F := F73) (L := []) (t := fun (v : Int × Int × List UInt8 × List AV) => tr_u56q v.1 v.2.1 v.2.2.1 v.2.2.2) T56_ok (LOk_of (l := []) (by kernel_rfl) trivial) (by kernel_rfl) (fun v => by kernel_rfl) (fun v => f_u56q_eq v.1 v.2.1 v.2.2.1 v.2.2.2)
noncomputable def T57 : Tab := (73, FE p_u56q r_u56q (fun (v : Int × Int × List UInt8 × List AV) => (f_u56q v.1 v.2.1 v.2.2.1 v.2.2.2 : Option B_u56q))) :: T56
theorem T57_ok : TabOk IP T57 := ⟨FE_ok c_u56q, T56_ok⟩
abbrev B_u87q : Type := Bool
def p_u87q : PArgs := ⟨[.int .i64], []⟩
def r_u87q : List PRes := [⟨false, .bool, []⟩]
noncomputable def tr_u87q (x0 : Int) : DT B_u87q :=
 .bi (br (decide (x0 ≥ 1)) (some (decide (x0 ≤ 5))) (some false)) (fun y0 =>
  .at (y0))
  (.no)
noncomputable def f_u87q (x0 : Int) : Option B_u87q := lock (tr_u87q x0).ev
theorem f_u87q_eq (x0 : Int) : f_u87q x0 = (tr_u87q x0).ev := lock_eq _
theorem c_u87q : FH IP 74 p_u87q r_u87q (fun (v : Int) => (f_u87q v : Option B_u87q)) := fun_FH (F := F74) (L := []) (t := fun (v : Int) => tr_u87q v) T57_ok (LOk_of (l := []) (by kernel_rfl) trivial) (by kernel_rfl) (fun v => by kernel_rfl) (fun v => f_u87q_eq v)
noncomputable def T58 : Tab := (74, FE p_u87q r_u87q (fun (v : Int) => (f_u87q v : Option B_u87q))) :: T57
theorem T58_ok : TabOk IP T58 := ⟨FE_ok c_u87q, T57_ok⟩
abbrev TT_u29q : Type := List UInt8 × List AV × Int × Int
def hs_u29q : List PSt := [⟨[(1008900, .junk), (0, .str), (8, .view 2), (9, .int .i64), (10, .int .i64)], [], 0, 0⟩]
noncomputable def x_u29q_0 (x0 : List UInt8) (x1 : List AV) (x2 : Int) (x3 : Int) : X × St := (X.ret, { tm := [(4, AV.int IntKind.i64 0), (5, AV.int IntKind.i64 3)], hp := [], nx := 0, k := 0 })
noncomputable def x_u29q_1 (x0 : List UInt8) (x1 : List AV) (x2 : Int) (x3 : Int) : X × St := (X.ret, { tm := [(4, AV.int IntKind.i64 (intOf (cellAt x1 x3 1))), (5, AV.int IntKind.i64 0)], hp := [], nx := 0, k := 0 })
noncomputable def x_u29q_2 (x0 : List UInt8) (x1 : List AV) (x2 : Int) (x3 : Int) : X × St := (X.exit 0, { tm := [(4, AV.junk), (5, AV.junk)], hp := [], nx := 0, k := 0 })
noncomputable def x_u29q : List (TT_u29q → X × St) := [fun w => x_u29q_0 w.1 w.2.1 w.2.2.1 w.2.2.2, fun w => x_u29q_1 w.1 w.2.1 w.2.2.1 w.2.2.2, fun w => x_u29q_2 w.1 w.2.1 w.2.2.1 w.2.2.2]
noncomputable def st_u29q_0 (x0 : List UInt8) (x1 : List AV) (x2 : Int) (x3 : Int) : DT (Rd TT_u29q) :=
 .br (decide (x3 < x2))
  (.br (okAt [CS.str, CS.int IntKind.i64] x1 x3)
   (.br (strOf (cellAt x1 x3 0) == x0)
    (.bi (f_u87q (intOf (cellAt x1 x3 1))) (fun y0 =>
     .br (!y0) (.at (.done 0)) (.at (.done 1)))
     (.no))
    (.at (.next ((x0, x1, x2, IntKind.i64.wrap (x3 + 1))))))
   (.no))
  (.at (.done 2))
noncomputable def st_u29q : TT_u29q → DT (Rd TT_u29q) := (fun v => st_u29q_0 v.1 v.2.1 v.2.2.1 v.2.2.2)
noncomputable def l_u29q (v : TT_u29q) : Option (Nat × TT_u29q) := lock (iterO (fun v => (st_u29q v).ev) v)
theorem l_u29q_eq (v : TT_u29q) : l_u29q v = iterO (fun v => (st_u29q v).ev) v := lock_eq _
noncomputable def ll_u29q : LEnt := LE (τ := TT_u29q) (hD hs_u29q) (l_u29q) x_u29q
theorem t_u29q : Go.Eng.Told IP (loopAt F89 0).1 (loopAt F89 0).2 (ll_u29q) := loop_LE (inferInstance : Inhabited TT_u29q) (hs := hs_u29q) (st := st_u29q) (L := []) T58_ok (LOk_of (l := []) (by kernel_rfl) trivial) (l_u29q_eq) (fun v => by kernel_rfl) (fun v => by kernel_rfl)
abbrev B_u42q : Type := Int × Int
def p_u42q : PArgs := ⟨[.str, .view 2], []⟩
def r_u42q : List PRes := [⟨false, .tup [.int .i64, .int .i64], []⟩]
noncomputable def tr_u42q (x0 : List UInt8) (x1 : List AV) : DT B_u42q :=
 .bi (pj 0 (l_u29q (x0, x1, (↑x1.length : Int), 0))) (fun y0 =>
  .at ((0, 3)))
  (.bi (pj 1 (l_u29q (x0, x1, (↑x1.length : Int), 0))) (fun y0 =>
   .at ((intOf (cellAt y0.snd.fst y0.snd.snd.snd 1), 0)))
   (.bi (pj 2 (l_u29q (x0, x1, (↑x1.length : Int), 0))) (fun y0 =>
    .at ((0, 4)))
    (.no)))
noncomputable def f_u42q (x0 : List UInt8) (x1 : List AV) : Option B_u42q := lock (tr_u42q x0 x1).ev
theorem f_u42q_eq (x0 : List UInt8) (x1 : List AV) : f_u42q x0 x1 = (tr_u42q x0 x1).ev := lock_eq _
theorem c_u42q : FH IP 89 p_u42q r_u42q (fun (v : List UInt8 × List AV) => (f_u42q v.1 v.2 : Option B_u42q)) := fun_FH (F := F89) (L := [(1008900, ll_u29q)]) (t := fun (v : List UInt8 × List AV) => tr_u42q v.1 v.2) T58_ok (LOk_of (l := [loopAt F89 0]) (by kernel_rfl) ⟨sel_one (by kernel_rfl) t_u29q, trivial⟩) (by kernel_rfl) (fun v => by kernel_rfl) (fun v => f_u42q_eq v.1 v.2)
noncomputable def T59 : Tab := (89, FE p_u42q r_u42q (fun (v : List UInt8 × List AV) => (f_u42q v.1 v.2 : Option B_u42q))) :: T58
theorem T59_ok : TabOk IP T59 := ⟨FE_ok c_u42q, T58_ok⟩
abbrev TT_u41q : Type := Int × List AV × List AV × Int × Int
def hs_u41q : List PSt := [⟨[(1009000, .junk), (0, .int .i64), (1, .view 1), (10, .view 1), (11, .int .i64), (12, .int .i64)], [], 0, 0⟩]
noncomputable def x_u41q_0 (x0 : Int) (x1 : List AV) (x2 : List AV) (x3 : Int) (x4 : Int) : X × St := (X.ret, { tm := [(0, AV.int IntKind.i64 x0), (1, AV.view 1 x1), (4, AV.int IntKind.i64 0), (5, AV.bool false)], hp := [], nx := 0, k := 0 })
noncomputable def x_u41q_1 (x0 : Int) (x1 : List AV) (x2 : List AV) (x3 : Int) (x4 : Int) : X × St := (X.exit 0, { tm := [(0, AV.int IntKind.i64 x0), (1, AV.view 1 x1), (4, AV.junk), (5, AV.junk)], hp := [], nx := 0, k := 0 })
noncomputable def x_u41q : List (TT_u41q → X × St) := [fun w => x_u41q_0 w.1 w.2.1 w.2.2.1 w.2.2.2.1 w.2.2.2.2, fun w => x_u41q_1 w.1 w.2.1 w.2.2.1 w.2.2.2.1 w.2.2.2.2]
noncomputable def st_u41q_0 (x0 : Int) (x1 : List AV) (x2 : List AV) (x3 : Int) (x4 : Int) : DT (Rd TT_u41q) :=
 .br (decide (x4 < x3))
  (.br (okAt [CS.int IntKind.i64] x2 x4)
   (.bi (f_u87q (intOf (cellAt x2 x4 0))) (fun y0 =>
    .br (!y0) (.at (.done 0)) (.at (.next ((x0, x1, x2, x3, IntKind.i64.wrap (x4 + 1))))))
    (.no))
   (.no))
  (.at (.done 1))
noncomputable def st_u41q : TT_u41q → DT (Rd TT_u41q) := (fun v => st_u41q_0 v.1 v.2.1 v.2.2.1 v.2.2.2.1 v.2.2.2.2)
noncomputable def l_u41q (v : TT_u41q) : Option (Nat × TT_u41q) := lock (iterO (fun v => (st_u41q v).ev) v)
theorem l_u41q_eq (v : TT_u41q) : l_u41q v = iterO (fun v => (st_u41q v).ev) v := lock_eq _
noncomputable def ll_u41q : LEnt := LE (τ := TT_u41q) (hD hs_u41q) (l_u41q) x_u41q
theorem t_u41q : Go.Eng.Told IP (loopAt F90 0).1 (loopAt F90 0).2 (ll_u41q) := loop_LE (inferInstance : Inhabited TT_u41q) (hs := hs_u41q) (st := st_u41q) (L := []) T59_ok (LOk_of (l := []) (by kernel_rfl) trivial) (l_u41q_eq) (fun v => by kernel_rfl) (fun v => by kernel_rfl)
abbrev B_u106q : Type := Int × Bool
def p_u106q : PArgs := ⟨[.int .i64, .int .i64], []⟩
def r_u106q : List PRes := [⟨false, .tup [.int .i64, .bool], []⟩]
noncomputable def tr_u106q (x0 : Int) (x1 : Int) : DT B_u106q :=
 .br (x0 == 16)
  (.at ((5, x1 == 5)))
  (.br (x0 == 9)
   (.bi (br (x1 == 1) (some true) (some (x1 == 2))) (fun y0 =>
    .bi (br y0 (some true) (some (x1 == 3))) (fun y1 =>
     .at ((x1, y1)))
     (.no))
    (.no))
   (.at ((0, false))))
noncomputable def f_u106q (x0 : Int) (x1 : Int) : Option B_u106q := lock (tr_u106q x0 x1).ev
theorem f_u106q_eq (x0 : Int) (x1 : Int) : f_u106q x0 x1 = (tr_u106q x0 x1).ev := lock_eq _
theorem c_u106q : FH IP 112 p_u106q r_u106q (fun (v : Int × Int) => (f_u106q v.1 v.2 : Option B_u106q)) := fun_FH (F := F112) (L := []) (t := fun (v : Int × Int) => tr_u106q v.1 v.2) T59_ok (LOk_of (l := []) (by kernel_rfl) trivial) (by kernel_rfl) (fun v => by kernel_rfl) (fun v => f_u106q_eq v.1 v.2)
noncomputable def T60 : Tab := (112, FE p_u106q r_u106q (fun (v : Int × Int) => (f_u106q v.1 v.2 : Option B_u106q))) :: T59
theorem T60_ok : TabOk IP T60 := ⟨FE_ok c_u106q, T59_ok⟩
abbrev B_u28q : Type := List (AV × AV)
def p_u28q : PArgs := ⟨[], []⟩
def r_u28q : List PRes := [⟨false, .mref 0, [(0, .mp)]⟩]
noncomputable def tr_u28q : DT B_u28q :=
 .at ([(AV.agg [AV.int IntKind.i64 5, AV.int IntKind.i64 1, AV.int IntKind.i64 1], AV.int IntKind.i64 1),
  (AV.agg [AV.int IntKind.i64 5, AV.int IntKind.i64 2, AV.int IntKind.i64 2], AV.int IntKind.i64 2),
  (AV.agg [AV.int IntKind.i64 5, AV.int IntKind.i64 3, AV.int IntKind.i64 3], AV.int IntKind.i64 3),
  (AV.agg [AV.int IntKind.i64 5, AV.int IntKind.i64 4, AV.int IntKind.i64 1], AV.int IntKind.i64 4),
  (AV.agg [AV.int IntKind.i64 6, AV.int IntKind.i64 1, AV.int IntKind.i64 1], AV.int IntKind.i64 1),
  (AV.agg [AV.int IntKind.i64 6, AV.int IntKind.i64 2, AV.int IntKind.i64 2], AV.int IntKind.i64 2),
  (AV.agg [AV.int IntKind.i64 6, AV.int IntKind.i64 3, AV.int IntKind.i64 3], AV.int IntKind.i64 3),
  (AV.agg [AV.int IntKind.i64 6, AV.int IntKind.i64 4, AV.int IntKind.i64 1], AV.int IntKind.i64 4),
  (AV.agg [AV.int IntKind.i64 6, AV.int IntKind.i64 4, AV.int IntKind.i64 4], AV.int IntKind.i64 1),
  (AV.agg [AV.int IntKind.i64 7, AV.int IntKind.i64 1, AV.int IntKind.i64 1], AV.int IntKind.i64 1),
  (AV.agg [AV.int IntKind.i64 7, AV.int IntKind.i64 1, AV.int IntKind.i64 2], AV.int IntKind.i64 2),
  (AV.agg [AV.int IntKind.i64 7, AV.int IntKind.i64 1, AV.int IntKind.i64 3], AV.int IntKind.i64 3),
  (AV.agg [AV.int IntKind.i64 7, AV.int IntKind.i64 2, AV.int IntKind.i64 1], AV.int IntKind.i64 2),
  (AV.agg [AV.int IntKind.i64 7, AV.int IntKind.i64 2, AV.int IntKind.i64 3], AV.int IntKind.i64 2),
  (AV.agg [AV.int IntKind.i64 7, AV.int IntKind.i64 3, AV.int IntKind.i64 1], AV.int IntKind.i64 3),
  (AV.agg [AV.int IntKind.i64 7, AV.int IntKind.i64 3, AV.int IntKind.i64 2], AV.int IntKind.i64 2),
  (AV.agg [AV.int IntKind.i64 8, AV.int IntKind.i64 1, AV.int IntKind.i64 1], AV.int IntKind.i64 1),
  (AV.agg [AV.int IntKind.i64 8, AV.int IntKind.i64 2, AV.int IntKind.i64 1], AV.int IntKind.i64 2),
  (AV.agg [AV.int IntKind.i64 8, AV.int IntKind.i64 2, AV.int IntKind.i64 2], AV.int IntKind.i64 1),
  (AV.agg [AV.int IntKind.i64 8, AV.int IntKind.i64 3, AV.int IntKind.i64 1], AV.int IntKind.i64 3)])
noncomputable def f_u28q : Option B_u28q := lock (tr_u28q).ev
theorem f_u28q_eq : f_u28q = (tr_u28q).ev := lock_eq _
theorem c_u28q : FH IP 135 p_u28q r_u28q (fun (v : Unit) => (f_u28q : Option B_u28q)) := cst_FH (fun v => f_u28q_eq) (fun v => by kernel_rfl)
noncomputable def T61 : Tab := (135, FE p_u28q r_u28q (fun (v : Unit) => (f_u28q : Option B_u28q))) :: T60
theorem T61_ok : TabOk IP T61 := ⟨FE_ok c_u28q, T60_ok⟩
abbrev B_u107q : Type := Int × Bool
def p_u107q : PArgs := ⟨[.int .i64, .int .i64, .int .i64], []⟩
def r_u107q : List PRes := [⟨false, .tup [.int .i64, .bool], []⟩]
noncomputable def tr_u107q (x0 : Int) (x1 : Int) (x2 : Int) : DT B_u107q :=
 .br (x0 == 10)
  (.br (x0 == 10)
   (.at ((5, x1 == x2)))
   (.br (x0 == 12)
    (.br (x0 == 12)
     (.bi (br (x1 == x2) (some (x1 != 5)) (some false)) (fun y0 =>
      .at ((5, y0)))
      (.no))
     (.br (x0 == 14)
      (.br (x0 == 14)
       (.bi (br (x1 == x2) (some (x1 == 5)) (some false)) (fun y0 =>
        .at ((5, y0)))
        (.no))
       (.br (x0 == 17)
        (.br (x0 == 17)
         (.bi (br (x1 == x2) (some (x1 != 5)) (some false)) (fun y0 =>
          .at ((x1, y0)))
          (.no))
         (.bi (f_u28q) (fun y0 =>
          .br (mhas (true, [EK.i, EK.i, EK.i]) y0 (AV.agg [AV.int IntKind.i64 x0, AV.int IntKind.i64 x1, AV.int IntKind.i64 x2]))
           (.br (okE false [CS.int IntKind.i64] [mval (true, [EK.i, EK.i, EK.i]) y0 (AV.agg [AV.int IntKind.i64 x0, AV.int IntKind.i64 x1, AV.int IntKind.i64 x2])] 0)
            (.at ((intOf (cellAt [mval (true, [EK.i, EK.i, EK.i]) y0 (AV.agg [AV.int IntKind.i64 x0, AV.int IntKind.i64 x1, AV.int IntKind.i64 x2])] 0 0), intOf (cellAt [mval (true, [EK.i, EK.i, EK.i]) y0 (AV.agg [AV.int IntKind.i64 x0, AV.int IntKind.i64 x1, AV.int IntKind.i64 x2])] 0 0) != 0)))
            (.no))
           (.br (mnot (true, [EK.i, EK.i, EK.i]) y0 (AV.agg [AV.int IntKind.i64 x0, AV.int IntKind.i64 x1, AV.int IntKind.i64 x2])) (.at ((0, false))) (.no)))
          (.no)))
        (.br (x0 == 18)
         (.bi (br (x1 == x2) (some (x1 != 5)) (some false)) (fun y0 =>
          .at ((x1, y0)))
          (.no))
         (.bi (f_u28q) (fun y0 =>
          .br (mhas (true, [EK.i, EK.i, EK.i]) y0 (AV.agg [AV.int IntKind.i64 x0, AV.int IntKind.i64 x1, AV.int IntKind.i64 x2]))
           (.br (okE false [CS.int IntKind.i64] [mval (true, [EK.i, EK.i, EK.i]) y0 (AV.agg [AV.int IntKind.i64 x0, AV.int IntKind.i64 x1, AV.int IntKind.i64 x2])] 0)
            (.at ((intOf (cellAt [mval (true, [EK.i, EK.i, EK.i]) y0 (AV.agg [AV.int IntKind.i64 x0, AV.int IntKind.i64 x1, AV.int IntKind.i64 x2])] 0 0), intOf (cellAt [mval (true, [EK.i, EK.i, EK.i]) y0 (AV.agg [AV.int IntKind.i64 x0, AV.int IntKind.i64 x1, AV.int IntKind.i64 x2])] 0 0) != 0)))
            (.no))
           (.br (mnot (true, [EK.i, EK.i, EK.i]) y0 (AV.agg [AV.int IntKind.i64 x0, AV.int IntKind.i64 x1, AV.int IntKind.i64 x2])) (.at ((0, false))) (.no)))
          (.no)))))
      (.br (x0 == 15)
       (.bi (br (x1 == x2) (some (x1 == 5)) (some false)) (fun y0 =>
        .at ((5, y0)))
        (.no))
       (.br (x0 == 17)
        (.br (x0 == 17)
         (.bi (br (x1 == x2) (some (x1 != 5)) (some false)) (fun y0 =>
          .at ((x1, y0)))
          (.no))
         (.bi (f_u28q) (fun y0 =>
          .br (mhas (true, [EK.i, EK.i, EK.i]) y0 (AV.agg [AV.int IntKind.i64 x0, AV.int IntKind.i64 x1, AV.int IntKind.i64 x2]))
           (.br (okE false [CS.int IntKind.i64] [mval (true, [EK.i, EK.i, EK.i]) y0 (AV.agg [AV.int IntKind.i64 x0, AV.int IntKind.i64 x1, AV.int IntKind.i64 x2])] 0)
            (.at ((intOf (cellAt [mval (true, [EK.i, EK.i, EK.i]) y0 (AV.agg [AV.int IntKind.i64 x0, AV.int IntKind.i64 x1, AV.int IntKind.i64 x2])] 0 0), intOf (cellAt [mval (true, [EK.i, EK.i, EK.i]) y0 (AV.agg [AV.int IntKind.i64 x0, AV.int IntKind.i64 x1, AV.int IntKind.i64 x2])] 0 0) != 0)))
            (.no))
           (.br (mnot (true, [EK.i, EK.i, EK.i]) y0 (AV.agg [AV.int IntKind.i64 x0, AV.int IntKind.i64 x1, AV.int IntKind.i64 x2])) (.at ((0, false))) (.no)))
          (.no)))
        (.br (x0 == 18)
         (.bi (br (x1 == x2) (some (x1 != 5)) (some false)) (fun y0 =>
          .at ((x1, y0)))
          (.no))
         (.bi (f_u28q) (fun y0 =>
          .br (mhas (true, [EK.i, EK.i, EK.i]) y0 (AV.agg [AV.int IntKind.i64 x0, AV.int IntKind.i64 x1, AV.int IntKind.i64 x2]))
           (.br (okE false [CS.int IntKind.i64] [mval (true, [EK.i, EK.i, EK.i]) y0 (AV.agg [AV.int IntKind.i64 x0, AV.int IntKind.i64 x1, AV.int IntKind.i64 x2])] 0)
            (.at ((intOf (cellAt [mval (true, [EK.i, EK.i, EK.i]) y0 (AV.agg [AV.int IntKind.i64 x0, AV.int IntKind.i64 x1, AV.int IntKind.i64 x2])] 0 0), intOf (cellAt [mval (true, [EK.i, EK.i, EK.i]) y0 (AV.agg [AV.int IntKind.i64 x0, AV.int IntKind.i64 x1, AV.int IntKind.i64 x2])] 0 0) != 0)))
            (.no))
           (.br (mnot (true, [EK.i, EK.i, EK.i]) y0 (AV.agg [AV.int IntKind.i64 x0, AV.int IntKind.i64 x1, AV.int IntKind.i64 x2])) (.at ((0, false))) (.no)))
          (.no)))))))
    (.br (x0 == 13)
     (.bi (br (x1 == x2) (some (x1 != 5)) (some false)) (fun y0 =>
      .at ((5, y0)))
      (.no))
     (.br (x0 == 14)
      (.br (x0 == 14)
       (.bi (br (x1 == x2) (some (x1 == 5)) (some false)) (fun y0 =>
        .at ((5, y0)))
        (.no))
       (.br (x0 == 17)
        (.br (x0 == 17)
         (.bi (br (x1 == x2) (some (x1 != 5)) (some false)) (fun y0 =>
          .at ((x1, y0)))
          (.no))
         (.bi (f_u28q) (fun y0 =>
          .br (mhas (true, [EK.i, EK.i, EK.i]) y0 (AV.agg [AV.int IntKind.i64 x0, AV.int IntKind.i64 x1, AV.int IntKind.i64 x2]))
           (.br (okE false [CS.int IntKind.i64] [mval (true, [EK.i, EK.i, EK.i]) y0 (AV.agg [AV.int IntKind.i64 x0, AV.int IntKind.i64 x1, AV.int IntKind.i64 x2])] 0)
            (.at ((intOf (cellAt [mval (true, [EK.i, EK.i, EK.i]) y0 (AV.agg [AV.int IntKind.i64 x0, AV.int IntKind.i64 x1, AV.int IntKind.i64 x2])] 0 0), intOf (cellAt [mval (true, [EK.i, EK.i, EK.i]) y0 (AV.agg [AV.int IntKind.i64 x0, AV.int IntKind.i64 x1, AV.int IntKind.i64 x2])] 0 0) != 0)))
            (.no))
           (.br (mnot (true, [EK.i, EK.i, EK.i]) y0 (AV.agg [AV.int IntKind.i64 x0, AV.int IntKind.i64 x1, AV.int IntKind.i64 x2])) (.at ((0, false))) (.no)))
          (.no)))
        (.br (x0 == 18)
         (.bi (br (x1 == x2) (some (x1 != 5)) (some false)) (fun y0 =>
          .at ((x1, y0)))
          (.no))
         (.bi (f_u28q) (fun y0 =>
          .br (mhas (true, [EK.i, EK.i, EK.i]) y0 (AV.agg [AV.int IntKind.i64 x0, AV.int IntKind.i64 x1, AV.int IntKind.i64 x2]))
           (.br (okE false [CS.int IntKind.i64] [mval (true, [EK.i, EK.i, EK.i]) y0 (AV.agg [AV.int IntKind.i64 x0, AV.int IntKind.i64 x1, AV.int IntKind.i64 x2])] 0)
            (.at ((intOf (cellAt [mval (true, [EK.i, EK.i, EK.i]) y0 (AV.agg [AV.int IntKind.i64 x0, AV.int IntKind.i64 x1, AV.int IntKind.i64 x2])] 0 0), intOf (cellAt [mval (true, [EK.i, EK.i, EK.i]) y0 (AV.agg [AV.int IntKind.i64 x0, AV.int IntKind.i64 x1, AV.int IntKind.i64 x2])] 0 0) != 0)))
            (.no))
           (.br (mnot (true, [EK.i, EK.i, EK.i]) y0 (AV.agg [AV.int IntKind.i64 x0, AV.int IntKind.i64 x1, AV.int IntKind.i64 x2])) (.at ((0, false))) (.no)))
          (.no)))))
      (.br (x0 == 15)
       (.bi (br (x1 == x2) (some (x1 == 5)) (some false)) (fun y0 =>
        .at ((5, y0)))
        (.no))
       (.br (x0 == 17)
        (.br (x0 == 17)
         (.bi (br (x1 == x2) (some (x1 != 5)) (some false)) (fun y0 =>
          .at ((x1, y0)))
          (.no))
         (.bi (f_u28q) (fun y0 =>
          .br (mhas (true, [EK.i, EK.i, EK.i]) y0 (AV.agg [AV.int IntKind.i64 x0, AV.int IntKind.i64 x1, AV.int IntKind.i64 x2]))
           (.br (okE false [CS.int IntKind.i64] [mval (true, [EK.i, EK.i, EK.i]) y0 (AV.agg [AV.int IntKind.i64 x0, AV.int IntKind.i64 x1, AV.int IntKind.i64 x2])] 0)
            (.at ((intOf (cellAt [mval (true, [EK.i, EK.i, EK.i]) y0 (AV.agg [AV.int IntKind.i64 x0, AV.int IntKind.i64 x1, AV.int IntKind.i64 x2])] 0 0), intOf (cellAt [mval (true, [EK.i, EK.i, EK.i]) y0 (AV.agg [AV.int IntKind.i64 x0, AV.int IntKind.i64 x1, AV.int IntKind.i64 x2])] 0 0) != 0)))
            (.no))
           (.br (mnot (true, [EK.i, EK.i, EK.i]) y0 (AV.agg [AV.int IntKind.i64 x0, AV.int IntKind.i64 x1, AV.int IntKind.i64 x2])) (.at ((0, false))) (.no)))
          (.no)))
        (.br (x0 == 18)
         (.bi (br (x1 == x2) (some (x1 != 5)) (some false)) (fun y0 =>
          .at ((x1, y0)))
          (.no))
         (.bi (f_u28q) (fun y0 =>
          .br (mhas (true, [EK.i, EK.i, EK.i]) y0 (AV.agg [AV.int IntKind.i64 x0, AV.int IntKind.i64 x1, AV.int IntKind.i64 x2]))
           (.br (okE false [CS.int IntKind.i64] [mval (true, [EK.i, EK.i, EK.i]) y0 (AV.agg [AV.int IntKind.i64 x0, AV.int IntKind.i64 x1, AV.int IntKind.i64 x2])] 0)
            (.at ((intOf (cellAt [mval (true, [EK.i, EK.i, EK.i]) y0 (AV.agg [AV.int IntKind.i64 x0, AV.int IntKind.i64 x1, AV.int IntKind.i64 x2])] 0 0), intOf (cellAt [mval (true, [EK.i, EK.i, EK.i]) y0 (AV.agg [AV.int IntKind.i64 x0, AV.int IntKind.i64 x1, AV.int IntKind.i64 x2])] 0 0) != 0)))
            (.no))
           (.br (mnot (true, [EK.i, EK.i, EK.i]) y0 (AV.agg [AV.int IntKind.i64 x0, AV.int IntKind.i64 x1, AV.int IntKind.i64 x2])) (.at ((0, false))) (.no)))
          (.no)))))))))
  (.br (x0 == 11)
   (.at ((5, x1 == x2)))
   (.br (x0 == 12)
    (.br (x0 == 12)
     (.bi (br (x1 == x2) (some (x1 != 5)) (some false)) (fun y0 =>
      .at ((5, y0)))
      (.no))
     (.br (x0 == 14)
      (.br (x0 == 14)
       (.bi (br (x1 == x2) (some (x1 == 5)) (some false)) (fun y0 =>
        .at ((5, y0)))
        (.no))
       (.br (x0 == 17)
        (.br (x0 == 17)
         (.bi (br (x1 == x2) (some (x1 != 5)) (some false)) (fun y0 =>
          .at ((x1, y0)))
          (.no))
         (.bi (f_u28q) (fun y0 =>
          .br (mhas (true, [EK.i, EK.i, EK.i]) y0 (AV.agg [AV.int IntKind.i64 x0, AV.int IntKind.i64 x1, AV.int IntKind.i64 x2]))
           (.br (okE false [CS.int IntKind.i64] [mval (true, [EK.i, EK.i, EK.i]) y0 (AV.agg [AV.int IntKind.i64 x0, AV.int IntKind.i64 x1, AV.int IntKind.i64 x2])] 0)
            (.at ((intOf (cellAt [mval (true, [EK.i, EK.i, EK.i]) y0 (AV.agg [AV.int IntKind.i64 x0, AV.int IntKind.i64 x1, AV.int IntKind.i64 x2])] 0 0), intOf (cellAt [mval (true, [EK.i, EK.i, EK.i]) y0 (AV.agg [AV.int IntKind.i64 x0, AV.int IntKind.i64 x1, AV.int IntKind.i64 x2])] 0 0) != 0)))
            (.no))
           (.br (mnot (true, [EK.i, EK.i, EK.i]) y0 (AV.agg [AV.int IntKind.i64 x0, AV.int IntKind.i64 x1, AV.int IntKind.i64 x2])) (.at ((0, false))) (.no)))
          (.no)))
        (.br (x0 == 18)
         (.bi (br (x1 == x2) (some (x1 != 5)) (some false)) (fun y0 =>
          .at ((x1, y0)))
          (.no))
         (.bi (f_u28q) (fun y0 =>
          .br (mhas (true, [EK.i, EK.i, EK.i]) y0 (AV.agg [AV.int IntKind.i64 x0, AV.int IntKind.i64 x1, AV.int IntKind.i64 x2]))
           (.br (okE false [CS.int IntKind.i64] [mval (true, [EK.i, EK.i, EK.i]) y0 (AV.agg [AV.int IntKind.i64 x0, AV.int IntKind.i64 x1, AV.int IntKind.i64 x2])] 0)
            (.at ((intOf (cellAt [mval (true, [EK.i, EK.i, EK.i]) y0 (AV.agg [AV.int IntKind.i64 x0, AV.int IntKind.i64 x1, AV.int IntKind.i64 x2])] 0 0), intOf (cellAt [mval (true, [EK.i, EK.i, EK.i]) y0 (AV.agg [AV.int IntKind.i64 x0, AV.int IntKind.i64 x1, AV.int IntKind.i64 x2])] 0 0) != 0)))
            (.no))
           (.br (mnot (true, [EK.i, EK.i, EK.i]) y0 (AV.agg [AV.int IntKind.i64 x0, AV.int IntKind.i64 x1, AV.int IntKind.i64 x2])) (.at ((0, false))) (.no)))
          (.no)))))
      (.br (x0 == 15)
       (.bi (br (x1 == x2) (some (x1 == 5)) (some false)) (fun y0 =>
        .at ((5, y0)))
        (.no))
       (.br (x0 == 17)
        (.br (x0 == 17)
         (.bi (br (x1 == x2) (some (x1 != 5)) (some false)) (fun y0 =>
          .at ((x1, y0)))
          (.no))
         (.bi (f_u28q) (fun y0 =>
          .br (mhas (true, [EK.i, EK.i, EK.i]) y0 (AV.agg [AV.int IntKind.i64 x0, AV.int IntKind.i64 x1, AV.int IntKind.i64 x2]))
           (.br (okE false [CS.int IntKind.i64] [mval (true, [EK.i, EK.i, EK.i]) y0 (AV.agg [AV.int IntKind.i64 x0, AV.int IntKind.i64 x1, AV.int IntKind.i64 x2])] 0)
            (.at ((intOf (cellAt [mval (true, [EK.i, EK.i, EK.i]) y0 (AV.agg [AV.int IntKind.i64 x0, AV.int IntKind.i64 x1, AV.int IntKind.i64 x2])] 0 0), intOf (cellAt [mval (true, [EK.i, EK.i, EK.i]) y0 (AV.agg [AV.int IntKind.i64 x0, AV.int IntKind.i64 x1, AV.int IntKind.i64 x2])] 0 0) != 0)))
            (.no))
           (.br (mnot (true, [EK.i, EK.i, EK.i]) y0 (AV.agg [AV.int IntKind.i64 x0, AV.int IntKind.i64 x1, AV.int IntKind.i64 x2])) (.at ((0, false))) (.no)))
          (.no)))
        (.br (x0 == 18)
         (.bi (br (x1 == x2) (some (x1 != 5)) (some false)) (fun y0 =>
          .at ((x1, y0)))
          (.no))
         (.bi (f_u28q) (fun y0 =>
          .br (mhas (true, [EK.i, EK.i, EK.i]) y0 (AV.agg [AV.int IntKind.i64 x0, AV.int IntKind.i64 x1, AV.int IntKind.i64 x2]))
           (.br (okE false [CS.int IntKind.i64] [mval (true, [EK.i, EK.i, EK.i]) y0 (AV.agg [AV.int IntKind.i64 x0, AV.int IntKind.i64 x1, AV.int IntKind.i64 x2])] 0)
            (.at ((intOf (cellAt [mval (true, [EK.i, EK.i, EK.i]) y0 (AV.agg [AV.int IntKind.i64 x0, AV.int IntKind.i64 x1, AV.int IntKind.i64 x2])] 0 0), intOf (cellAt [mval (true, [EK.i, EK.i, EK.i]) y0 (AV.agg [AV.int IntKind.i64 x0, AV.int IntKind.i64 x1, AV.int IntKind.i64 x2])] 0 0) != 0)))
            (.no))
           (.br (mnot (true, [EK.i, EK.i, EK.i]) y0 (AV.agg [AV.int IntKind.i64 x0, AV.int IntKind.i64 x1, AV.int IntKind.i64 x2])) (.at ((0, false))) (.no)))
          (.no)))))))
    (.br (x0 == 13)
     (.bi (br (x1 == x2) (some (x1 != 5)) (some false)) (fun y0 =>
      .at ((5, y0)))
      (.no))
     (.br (x0 == 14)
      (.br (x0 == 14)
       (.bi (br (x1 == x2) (some (x1 == 5)) (some false)) (fun y0 =>
        .at ((5, y0)))
        (.no))
       (.br (x0 == 17)
        (.br (x0 == 17)
         (.bi (br (x1 == x2) (some (x1 != 5)) (some false)) (fun y0 =>
          .at ((x1, y0)))
          (.no))
         (.bi (f_u28q) (fun y0 =>
          .br (mhas (true, [EK.i, EK.i, EK.i]) y0 (AV.agg [AV.int IntKind.i64 x0, AV.int IntKind.i64 x1, AV.int IntKind.i64 x2]))
           (.br (okE false [CS.int IntKind.i64] [mval (true, [EK.i, EK.i, EK.i]) y0 (AV.agg [AV.int IntKind.i64 x0, AV.int IntKind.i64 x1, AV.int IntKind.i64 x2])] 0)
            (.at ((intOf (cellAt [mval (true, [EK.i, EK.i, EK.i]) y0 (AV.agg [AV.int IntKind.i64 x0, AV.int IntKind.i64 x1, AV.int IntKind.i64 x2])] 0 0), intOf (cellAt [mval (true, [EK.i, EK.i, EK.i]) y0 (AV.agg [AV.int IntKind.i64 x0, AV.int IntKind.i64 x1, AV.int IntKind.i64 x2])] 0 0) != 0)))
            (.no))
           (.br (mnot (true, [EK.i, EK.i, EK.i]) y0 (AV.agg [AV.int IntKind.i64 x0, AV.int IntKind.i64 x1, AV.int IntKind.i64 x2])) (.at ((0, false))) (.no)))
          (.no)))
        (.br (x0 == 18)
         (.bi (br (x1 == x2) (some (x1 != 5)) (some false)) (fun y0 =>
          .at ((x1, y0)))
          (.no))
         (.bi (f_u28q) (fun y0 =>
          .br (mhas (true, [EK.i, EK.i, EK.i]) y0 (AV.agg [AV.int IntKind.i64 x0, AV.int IntKind.i64 x1, AV.int IntKind.i64 x2]))
           (.br (okE false [CS.int IntKind.i64] [mval (true, [EK.i, EK.i, EK.i]) y0 (AV.agg [AV.int IntKind.i64 x0, AV.int IntKind.i64 x1, AV.int IntKind.i64 x2])] 0)
            (.at ((intOf (cellAt [mval (true, [EK.i, EK.i, EK.i]) y0 (AV.agg [AV.int IntKind.i64 x0, AV.int IntKind.i64 x1, AV.int IntKind.i64 x2])] 0 0), intOf (cellAt [mval (true, [EK.i, EK.i, EK.i]) y0 (AV.agg [AV.int IntKind.i64 x0, AV.int IntKind.i64 x1, AV.int IntKind.i64 x2])] 0 0) != 0)))
            (.no))
           (.br (mnot (true, [EK.i, EK.i, EK.i]) y0 (AV.agg [AV.int IntKind.i64 x0, AV.int IntKind.i64 x1, AV.int IntKind.i64 x2])) (.at ((0, false))) (.no)))
          (.no)))))
      (.br (x0 == 15)
       (.bi (br (x1 == x2) (some (x1 == 5)) (some false)) (fun y0 =>
        .at ((5, y0)))
        (.no))
       (.br (x0 == 17)
        (.br (x0 == 17)
         (.bi (br (x1 == x2) (some (x1 != 5)) (some false)) (fun y0 =>
          .at ((x1, y0)))
          (.no))
         (.bi (f_u28q) (fun y0 =>
          .br (mhas (true, [EK.i, EK.i, EK.i]) y0 (AV.agg [AV.int IntKind.i64 x0, AV.int IntKind.i64 x1, AV.int IntKind.i64 x2]))
           (.br (okE false [CS.int IntKind.i64] [mval (true, [EK.i, EK.i, EK.i]) y0 (AV.agg [AV.int IntKind.i64 x0, AV.int IntKind.i64 x1, AV.int IntKind.i64 x2])] 0)
            (.at ((intOf (cellAt [mval (true, [EK.i, EK.i, EK.i]) y0 (AV.agg [AV.int IntKind.i64 x0, AV.int IntKind.i64 x1, AV.int IntKind.i64 x2])] 0 0), intOf (cellAt [mval (true, [EK.i, EK.i, EK.i]) y0 (AV.agg [AV.int IntKind.i64 x0, AV.int IntKind.i64 x1, AV.int IntKind.i64 x2])] 0 0) != 0)))
            (.no))
           (.br (mnot (true, [EK.i, EK.i, EK.i]) y0 (AV.agg [AV.int IntKind.i64 x0, AV.int IntKind.i64 x1, AV.int IntKind.i64 x2])) (.at ((0, false))) (.no)))
          (.no)))
        (.br (x0 == 18)
         (.bi (br (x1 == x2) (some (x1 != 5)) (some false)) (fun y0 =>
          .at ((x1, y0)))
          (.no))
         (.bi (f_u28q) (fun y0 =>
          .br (mhas (true, [EK.i, EK.i, EK.i]) y0 (AV.agg [AV.int IntKind.i64 x0, AV.int IntKind.i64 x1, AV.int IntKind.i64 x2]))
           (.br (okE false [CS.int IntKind.i64] [mval (true, [EK.i, EK.i, EK.i]) y0 (AV.agg [AV.int IntKind.i64 x0, AV.int IntKind.i64 x1, AV.int IntKind.i64 x2])] 0)
            (.at ((intOf (cellAt [mval (true, [EK.i, EK.i, EK.i]) y0 (AV.agg [AV.int IntKind.i64 x0, AV.int IntKind.i64 x1, AV.int IntKind.i64 x2])] 0 0), intOf (cellAt [mval (true, [EK.i, EK.i, EK.i]) y0 (AV.agg [AV.int IntKind.i64 x0, AV.int IntKind.i64 x1, AV.int IntKind.i64 x2])] 0 0) != 0)))
            (.no))
           (.br (mnot (true, [EK.i, EK.i, EK.i]) y0 (AV.agg [AV.int IntKind.i64 x0, AV.int IntKind.i64 x1, AV.int IntKind.i64 x2])) (.at ((0, false))) (.no)))
          (.no)))))))))
noncomputable def f_u107q (x0 : Int) (x1 : Int) (x2 : Int) : Option B_u107q := lock (tr_u107q x0 x1 x2).ev
theorem f_u107q_eq (x0 : Int) (x1 : Int) (x2 : Int) : f_u107q x0 x1 x2 = (tr_u107q x0 x1 x2).ev := lock_eq _
theorem c_u107q : FH IP 113 p_u107q r_u107q (fun (v : Int × Int × Int) => (f_u107q v.1 v.2.1 v.2.2 : Option B_u107q)) := fun_FH (F := F113) (L := []) (t := fun (v : Int × Int × Int) => tr_u107q v.1 v.2.1 v.2.2) T61_ok (LOk_of (l := []) (by kernel_rfl) trivial) (by kernel_rfl) (fun v => by kernel_rfl) (fun v => f_u107q_eq v.1 v.2.1 v.2.2)
noncomputable def T62 : Tab := (113, FE p_u107q r_u107q (fun (v : Int × Int × Int) => (f_u107q v.1 v.2.1 v.2.2 : Option B_u107q))) :: T61
theorem T62_ok : TabOk IP T62 := ⟨FE_ok c_u107q, T61_ok⟩
abbrev B_u65q : Type := Int × Bool
def p_u65q : PArgs := ⟨[.int .i64, .view 1], []⟩
def r_u65q : List PRes := [⟨false, .tup [.int .i64, .bool], []⟩]
noncomputable def tr_u65q (x0 : Int) (x1 : List AV) : DT B_u65q :=
 .bi (pj 0 (l_u41q (x0, x1, x1, (↑x1.length : Int), 0))) (fun y0 =>
  .at ((0, false)))
  (.bi (pj 1 (l_u41q (x0, x1, x1, (↑x1.length : Int), 0))) (fun y0 =>
   .br ((↑y0.snd.fst.length : Int) == 1)
    (.br (okAt [CS.int IntKind.i64] y0.snd.fst 0)
     (.bi (f_u106q y0.fst (intOf (cellAt y0.snd.fst 0 0))) (fun y1 =>
      .br (!y1.snd) (.at ((0, false))) (.at ((y1.fst, true))))
      (.no))
     (.no))
    (.br ((↑y0.snd.fst.length : Int) == 2)
     (.br (okAt [CS.int IntKind.i64] y0.snd.fst 0)
      (.br (okAt [CS.int IntKind.i64] y0.snd.fst 1)
       (.bi (f_u107q y0.fst (intOf (cellAt y0.snd.fst 0 0)) (intOf (cellAt y0.snd.fst 1 0))) (fun y1 =>
        .br (!y1.snd) (.at ((0, false))) (.at ((y1.fst, true))))
        (.no))
       (.no))
      (.no))
     (.br ((↑y0.snd.fst.length : Int) == 3)
      (.br (okAt [CS.int IntKind.i64] y0.snd.fst 1)
       (.br (y0.fst == 19)
        (.br (okAt [CS.int IntKind.i64] y0.snd.fst 0)
         (.br (intOf (cellAt y0.snd.fst 0 0) == 5)
          (.br (okAt [CS.int IntKind.i64] y0.snd.fst 1)
           (.br (okAt [CS.int IntKind.i64] y0.snd.fst 2)
            (.br (!intOf (cellAt y0.snd.fst 1 0) == intOf (cellAt y0.snd.fst 2 0)) (.at ((0, false))) (.at ((intOf (cellAt y0.snd.fst 1 0), true))))
            (.no))
           (.no))
          (.at ((0, false))))
         (.no))
        (.at ((0, false))))
       (.no))
      (.at ((0, false))))))
   (.no))
noncomputable def f_u65q (x0 : Int) (x1 : List AV) : Option B_u65q := lock (tr_u65q x0 x1).ev
theorem f_u65q_eq (x0 : Int) (x1 : List AV) : f_u65q x0 x1 = (tr_u65q x0 x1).ev := lock_eq _
theorem c_u65q : FH IP 90 p_u65q r_u65q (fun (v : Int × List AV) => (f_u65q v.1 v.2 : Option B_u65q)) := fun_FH (F := F90) (L := [(1009000, ll_u41q)]) (t := fun (v : Int × List AV) => tr_u65q v.1 v.2) T62_ok (LOk_of (l := [loopAt F90 0]) (by kernel_rfl) ⟨sel_one (by kernel_rfl) t_u41q, trivial⟩) (by kernel_rfl) (fun v => by kernel_rfl) (fun v => f_u65q_eq v.1 v.2)
noncomputable def T63 : Tab := (90, FE p_u65q r_u65q (fun (v : Int × List AV) => (f_u65q v.1 v.2 : Option B_u65q))) :: T62
theorem T63_ok : TabOk IP T63 := ⟨FE_ok c_u65q, T62_ok⟩
abbrev B_u111q : Type := Int × Int
def p_u111q : PArgs := ⟨[.agg [.int .i64, .int .i64, .str, .view 4], .view 2], []⟩
def r_u111q : List PRes := [⟨false, .tup [.int .i64, .int .i64], []⟩]
abbrev GT_u111q : Type := Int → Int → (List UInt8) → (List AV) → (List AV) → Option B_u111q
def GH_u111q (G_u111q : GT_u111q) : Prop := FH IP 75 p_u111q r_u111q (fun (v : Int × Int × List UInt8 × List AV × List AV) => (G_u111q v.1 v.2.1 v.2.2.1 v.2.2.2.1 v.2.2.2.2 : Option B_u111q))
noncomputable def TG_u111q (G_u111q : GT_u111q) : Tab := (75, FE p_u111q r_u111q (fun (v : Int × Int × List UInt8 × List AV × List AV) => (G_u111q v.1 v.2.1 v.2.2.1 v.2.2.2.1 v.2.2.2.2 : Option B_u111q))) :: T63
theorem TG_u111q_ok (G_u111q : GT_u111q) (hG : GH_u111q G_u111q) : TabOk IP (TG_u111q G_u111q) := ⟨FE_ok (hG), T63_ok⟩
abbrev TT_u95q : Type := (List AV × List AV × Int × Int × Int × Int × List UInt8 × List AV) ⊕ (List AV × List AV × Int × Int × Int × Int × List UInt8 × List AV × List AV)
def hs_u95q : List PSt := [⟨[(1007500, .junk), (1, .view 2), (2, .ref 0 0 0), (6, .nils 1), (30, .view 4), (31, .int .i64), (32, .int .i64)], [(0, .box [.int .i64, .int .i64, .str, .view 4] false)], 1, 0⟩, ⟨[(1007500, .junk), (1, .view 2), (2, .ref 0 0 0), (6, .own 1 0), (30, .view 4), (31, .int .i64), (32, .int .i64)], [(0, .box [.int .i64, .int .i64, .str, .view 4] false), (1, .arr 1 false)], 2, 0⟩]
noncomputable def x_u95q_0 (G_u111q : GT_u111q) (x0 : List AV) (x1 : List AV) (x2 : Int) (x3 : Int) (x4 : Int) (x5 : Int) (x6 : List UInt8) (x7 : List AV) : X × St := (X.ret,
  {
    tm :=
      [(2, AV.ref 0 0 0), (4, AV.int IntKind.i64 0),
        (5, AV.int IntKind.i64 (gv (G_u111q (intOf (cellAt x1 x3 0)) (intOf (cellAt x1 x3 1)) (strOf (cellAt x1 x3 2)) (viewOf (cellAt x1 x3 3)) x0)).snd),
        (6, AV.nils { sz := 1, kd := NKd.nil })],
    hp := [(0, Blk.box [AV.int IntKind.i64 x4, AV.int IntKind.i64 x5, AV.str x6, AV.view 4 x7] false)], nx := 1, k := 0 })
noncomputable def x_u95q_1 (G_u111q : GT_u111q) (x0 : List AV) (x1 : List AV) (x2 : Int) (x3 : Int) (x4 : Int) (x5 : Int) (x6 : List UInt8) (x7 : List AV) : X × St := (X.exit 1,
  { tm := [(2, AV.ref 0 0 0), (4, AV.junk), (5, AV.junk), (6, AV.nils { sz := 1, kd := NKd.nil })],
    hp := [(0, Blk.box [AV.int IntKind.i64 x4, AV.int IntKind.i64 x5, AV.str x6, AV.view 4 x7] false)], nx := 1, k := 0 })
noncomputable def x_u95q_2 (G_u111q : GT_u111q) (x0 : List AV) (x1 : List AV) (x2 : Int) (x3 : Int) (x4 : Int) (x5 : Int) (x6 : List UInt8) (x7 : List AV) (x8 : List AV) : X × St := (X.ret,
  {
    tm :=
      [(2, AV.ref 0 0 0), (4, AV.int IntKind.i64 0),
        (5, AV.int IntKind.i64 (gv (G_u111q (intOf (cellAt x1 x3 0)) (intOf (cellAt x1 x3 1)) (strOf (cellAt x1 x3 2)) (viewOf (cellAt x1 x3 3)) x0)).snd),
        (6, AV.own 1 0 none)],
    hp := [(0, Blk.box [AV.int IntKind.i64 x4, AV.int IntKind.i64 x5, AV.str x6, AV.view 4 x7] false), (1, Blk.arr 1 x8 false)], nx := 2, k := 0 })
noncomputable def x_u95q_3 (G_u111q : GT_u111q) (x0 : List AV) (x1 : List AV) (x2 : Int) (x3 : Int) (x4 : Int) (x5 : Int) (x6 : List UInt8) (x7 : List AV) (x8 : List AV) : X × St := (X.exit 1,
  { tm := [(2, AV.ref 0 0 0), (4, AV.junk), (5, AV.junk), (6, AV.own 1 0 none)],
    hp := [(0, Blk.box [AV.int IntKind.i64 x4, AV.int IntKind.i64 x5, AV.str x6, AV.view 4 x7] false), (1, Blk.arr 1 x8 false)], nx := 2, k := 0 })
noncomputable def x_u95q (G_u111q : GT_u111q) : List (TT_u95q → X × St) := [fun w => x_u95q_0 G_u111q (sl w).1 (sl w).2.1 (sl w).2.2.1 (sl w).2.2.2.1 (sl w).2.2.2.2.1 (sl w).2.2.2.2.2.1 (sl w).2.2.2.2.2.2.1 (sl w).2.2.2.2.2.2.2, fun w => x_u95q_1 G_u111q (sl w).1 (sl w).2.1 (sl w).2.2.1 (sl w).2.2.2.1 (sl w).2.2.2.2.1 (sl w).2.2.2.2.2.1 (sl w).2.2.2.2.2.2.1 (sl w).2.2.2.2.2.2.2, fun w => x_u95q_2 G_u111q (sr w).1 (sr w).2.1 (sr w).2.2.1 (sr w).2.2.2.1 (sr w).2.2.2.2.1 (sr w).2.2.2.2.2.1 (sr w).2.2.2.2.2.2.1 (sr w).2.2.2.2.2.2.2.1 (sr w).2.2.2.2.2.2.2.2, fun w => x_u95q_3 G_u111q (sr w).1 (sr w).2.1 (sr w).2.2.1 (sr w).2.2.2.1 (sr w).2.2.2.2.1 (sr w).2.2.2.2.2.1 (sr w).2.2.2.2.2.2.1 (sr w).2.2.2.2.2.2.2.1 (sr w).2.2.2.2.2.2.2.2]
noncomputable def st_u95q_0 (G_u111q : GT_u111q) (x0 : List AV) (x1 : List AV) (x2 : Int) (x3 : Int) (x4 : Int) (x5 : Int) (x6 : List UInt8) (x7 : List AV) : DT (Rd TT_u95q) :=
 .br (decide (x3 < x2))
  (.br (okAt [CS.int IntKind.i64, CS.int IntKind.i64, CS.str, CS.slice 4] x1 x3)
   (.bi (G_u111q (intOf (cellAt x1 x3 0)) (intOf (cellAt x1 x3 1)) (strOf (cellAt x1 x3 2)) (viewOf (cellAt x1 x3 3)) x0) (fun y0 =>
    .br (y0.snd != 0) (.at (.done 0)) (.at (.next ((.inr (x0, x1, x2, IntKind.i64.wrap (x3 + 1), x4, x5, x6, x7, [AV.int IntKind.i64 y0.fst]))))))
    (.no))
   (.no))
  (.at (.done 1))
noncomputable def st_u95q_1 (G_u111q : GT_u111q) (x0 : List AV) (x1 : List AV) (x2 : Int) (x3 : Int) (x4 : Int) (x5 : Int) (x6 : List UInt8) (x7 : List AV) (x8 : List AV) : DT (Rd TT_u95q) :=
 .br (decide (x3 < x2))
  (.br (okAt [CS.int IntKind.i64, CS.int IntKind.i64, CS.str, CS.slice 4] x1 x3)
   (.bi (G_u111q (intOf (cellAt x1 x3 0)) (intOf (cellAt x1 x3 1)) (strOf (cellAt x1 x3 2)) (viewOf (cellAt x1 x3 3)) x0) (fun y0 =>
    .br (y0.snd != 0)
     (.at (.done 2))
     (.br (room (x8.length + 1) 8) (.at (.next ((.inr (x0, x1, x2, IntKind.i64.wrap (x3 + 1), x4, x5, x6, x7, x8 ++ [AV.int IntKind.i64 y0.fst]))))) (.no)))
    (.no))
   (.no))
  (.at (.done 3))
noncomputable def st_u95q (G_u111q : GT_u111q) : TT_u95q → DT (Rd TT_u95q) := (Sum.elim (fun v => st_u95q_0 G_u111q v.1 v.2.1 v.2.2.1 v.2.2.2.1 v.2.2.2.2.1 v.2.2.2.2.2.1 v.2.2.2.2.2.2.1 v.2.2.2.2.2.2.2) (fun v => st_u95q_1 G_u111q v.1 v.2.1 v.2.2.1 v.2.2.2.1 v.2.2.2.2.1 v.2.2.2.2.2.1 v.2.2.2.2.2.2.1 v.2.2.2.2.2.2.2.1 v.2.2.2.2.2.2.2.2))
noncomputable def l_u95q (G_u111q : GT_u111q) (v : TT_u95q) : Option (Nat × TT_u95q) := lock (iterO (fun v => (st_u95q G_u111q v).ev) v)
theorem l_u95q_eq (G_u111q : GT_u111q) (v : TT_u95q) : l_u95q G_u111q v = iterO (fun v => (st_u95q G_u111q v).ev) v := lock_eq _
noncomputable def ll_u95q (G_u111q : GT_u111q) : LEnt := LE (τ := TT_u95q) (hD hs_u95q) (l_u95q G_u111q) (x_u95q G_u111q)
theorem t_u95q (G_u111q : GT_u111q) (hG : GH_u111q G_u111q) : Go.Eng.Told IP (loopAt F75 0).1 (loopAt F75 0).2 (ll_u95q G_u111q) := loop_LE (inferInstance : Inhabited TT_u95q) (hs := hs_u95q) (st := st_u95q G_u111q) (L := []) (TG_u111q_ok G_u111q hG) (LOk_of (l := []) (by kernel_rfl) trivial) (l_u95q_eq G_u111q) (fun v => match v with | (.inl v) => by kernel_rfl | (.inr v) => by kernel_rfl) (fun v => match v with | (.inl v) => by kernel_rfl | (.inr v) => by kernel_rfl)
noncomputable def tr_u111q (G_u111q : GT_u111q) (x0 : Int) (x1 : Int) (x2 : List UInt8) (x3 : List AV) (x4 : List AV) : DT B_u111q :=
 .br (x0 == 1)
  (.at ((1, 0)))
  (.br (x0 == 2)
   (.at ((2, 0)))
   (.br (x0 == 3)
    (.at ((3, 0)))
    (.br (x0 == 4)
     (.bi (f_u42q x2 x4) (fun y0 =>
      .at ((y0.fst, y0.snd)))
      (.no))
     (.bi (pj 0 (l_u95q G_u111q (Sum.inl (x4, x3, (↑x3.length : Int), 0, x0, x1, x2, x3)))) (fun y0 =>
      .at ((0, (gv
    (G_u111q (intOf (cellAt (sl y0).snd.fst (sl y0).snd.snd.snd.fst 0)) (intOf (cellAt (sl y0).snd.fst (sl y0).snd.snd.snd.fst 1))
      (strOf (cellAt (sl y0).snd.fst (sl y0).snd.snd.snd.fst 2)) (viewOf (cellAt (sl y0).snd.fst (sl y0).snd.snd.snd.fst 3)) (sl y0).fst)).snd)))
      (.bi (pj 1 (l_u95q G_u111q (Sum.inl (x4, x3, (↑x3.length : Int), 0, x0, x1, x2, x3)))) (fun y0 =>
       .bi (f_u65q (sl y0).snd.snd.snd.snd.fst []) (fun y1 =>
        .br (!y1.snd) (.at ((0, 3))) (.at ((y1.fst, 0))))
        (.no))
       (.bi (pj 2 (l_u95q G_u111q (Sum.inl (x4, x3, (↑x3.length : Int), 0, x0, x1, x2, x3)))) (fun y0 =>
        .at ((0, (gv
    (G_u111q (intOf (cellAt (sr y0).snd.fst (sr y0).snd.snd.snd.fst 0)) (intOf (cellAt (sr y0).snd.fst (sr y0).snd.snd.snd.fst 1))
      (strOf (cellAt (sr y0).snd.fst (sr y0).snd.snd.snd.fst 2)) (viewOf (cellAt (sr y0).snd.fst (sr y0).snd.snd.snd.fst 3)) (sr y0).fst)).snd)))
        (.bi (pj 3 (l_u95q G_u111q (Sum.inl (x4, x3, (↑x3.length : Int), 0, x0, x1, x2, x3)))) (fun y0 =>
         .bi (f_u65q (sr y0).snd.snd.snd.snd.fst (sr y0).snd.snd.snd.snd.snd.snd.snd.snd) (fun y1 =>
          .br (!y1.snd) (.at ((0, 3))) (.at ((y1.fst, 0))))
          (.no))
         (.no))))))))
noncomputable def N_u111q : Nat → GT_u111q
  | 0 => fun _ _ _ _ _ => none
  | n + 1 => fun x0 x1 x2 x3 x4 => (tr_u111q ((N_u111q n)) x0 x1 x2 x3 x4).ev
noncomputable def f_u111q (x0 : Int) (x1 : Int) (x2 : List UInt8) (x3 : List AV) (x4 : List AV) : Option B_u111q := limO fun n => (N_u111q n) x0 x1 x2 x3 x4
theorem N_u111q_ok : ∀ n, GH_u111q ((N_u111q n))
  | 0 => (fun v y h => nomatch h)
  | n + 1 => have hG := N_u111q_ok n
    fun_FH (F := F75) (L := [(1007500, ll_u95q ((N_u111q n)))]) (t := fun (v : Int × Int × List UInt8 × List AV × List AV) => tr_u111q ((N_u111q n)) v.1 v.2.1 v.2.2.1 v.2.2.2.1 v.2.2.2.2) (TG_u111q_ok ((N_u111q n)) hG) (LOk_of (l := [loopAt F75 0]) (by kernel_rfl) ⟨sel_one (by kernel_rfl) (t_u95q ((N_u111q n)) hG), trivial⟩) (by kernel_rfl) (fun v => by kernel_rfl) (fun v => rfl)
theorem c_u111q : FH IP 75 p_u111q r_u111q (fun (v : Int × Int × List UInt8 × List AV × List AV) => (f_u111q v.1 v.2.1 v.2.2.1 v.2.2.2.1 v.2.2.2.2 : Option B_u111q)) := lim_FH (p := p_u111q) (rs := r_u111q) (s := fun n (v : Int × Int × List UInt8 × List AV × List AV) => (N_u111q n) v.1 v.2.1 v.2.2.1 v.2.2.2.1 v.2.2.2.2) fun n => (N_u111q_ok n)
noncomputable def T64 : Tab := (75, FE p_u111q r_u111q (fun (v : Int × Int × List UInt8 × List AV × List AV) => (f_u111q v.1 v.2.1 v.2.2.1 v.2.2.2.1 v.2.2.2.2 : Option B_u111q))) :: T63
theorem T64_ok : TabOk IP T64 := ⟨FE_ok c_u111q, T63_ok⟩
abbrev B_u110q : Type := Int × Int
def p_u110q : PArgs := ⟨[.agg [.int .i64, .int .i64, .str, .view 4], .view 2], []⟩
def r_u110q : List PRes := [⟨false, .tup [.int .i64, .int .i64], []⟩]
noncomputable def tr_u110q (x0 : Int) (x1 : Int) (x2 : List UInt8) (x3 : List AV) (x4 : List AV) : DT B_u110q :=
 .bi (f_u56q x0 x1 x2 x3) (fun y0 =>
  .br (y0 != 0)
   (.at ((0, y0)))
   (.bi (f_u111q x0 x1 x2 x3 x4) (fun y1 =>
    .at ((y1.fst, y1.snd)))
    (.no)))
  (.no)
noncomputable def f_u110q (x0 : Int) (x1 : Int) (x2 : List UInt8) (x3 : List AV) (x4 : List AV) : Option B_u110q := lock (tr_u110q x0 x1 x2 x3 x4).ev
theorem f_u110q_eq (x0 : Int) (x1 : Int) (x2 : List UInt8) (x3 : List AV) (x4 : List AV) : f_u110q x0 x1 x2 x3 x4 = (tr_u110q x0 x1 x2 x3 x4).ev := lock_eq _
theorem c_u110q : FH IP 62 p_u110q r_u110q (fun (v : Int × Int × List UInt8 × List AV × List AV) => (f_u110q v.1 v.2.1 v.2.2.1 v.2.2.2.1 v.2.2.2.2 : Option B_u110q)) := fun_FH (F := F62) (L := []) (t := fun (v : Int × Int × List UInt8 × List AV × List AV) => tr_u110q v.1 v.2.1 v.2.2.1 v.2.2.2.1 v.2.2.2.2) T64_ok (LOk_of (l := []) (by kernel_rfl) trivial) (by kernel_rfl) (fun v => by kernel_rfl) (fun v => f_u110q_eq v.1 v.2.1 v.2.2.1 v.2.2.2.1 v.2.2.2.2)
noncomputable def T65 : Tab := (62, FE p_u110q r_u110q (fun (v : Int × Int × List UInt8 × List AV × List AV) => (f_u110q v.1 v.2.1 v.2.2.1 v.2.2.2.1 v.2.2.2.2 : Option B_u110q))) :: T64
theorem T65_ok : TabOk IP T65 := ⟨FE_ok c_u110q, T64_ok⟩
abbrev B_u86q : Type := Int
def p_u86q : PArgs := ⟨[.agg [.int .i64, .int .i64, .str, .view 4], .view 2, .int .i64], []⟩
def r_u86q : List PRes := [⟨false, .int .i64, []⟩]
noncomputable def tr_u86q (x0 : Int) (x1 : Int) (x2 : List UInt8) (x3 : List AV) (x4 : List AV) (x5 : Int) : DT B_u86q :=
 .bi (f_u110q x0 x1 x2 x3 x4) (fun y0 =>
  .bi (br (y0.snd == 0) (some (y0.fst != x5)) (some false)) (fun y1 =>
   .br (y1) (.at (3)) (.at (y0.snd)))
   (.no))
  (.no)
noncomputable def f_u86q (x0 : Int) (x1 : Int) (x2 : List UInt8) (x3 : List AV) (x4 : List AV) (x5 : Int) : Option B_u86q := lock (tr_u86q x0 x1 x2 x3 x4 x5).ev
theorem f_u86q_eq (x0 : Int) (x1 : Int) (x2 : List UInt8) (x3 : List AV) (x4 : List AV) (x5 : Int) : f_u86q x0 x1 x2 x3 x4 x5 = (tr_u86q x0 x1 x2 x3 x4 x5).ev := lock_eq _
theorem c_u86q : FH IP 55 p_u86q r_u86q (fun (v : Int × Int × List UInt8 × List AV × List AV × Int) => (f_u86q v.1 v.2.1 v.2.2.1 v.2.2.2.1 v.2.2.2.2.1 v.2.2.2.2.2 : Option B_u86q)) := fun_FH (F := F55) (L := []) (t := fun (v : Int × Int × List UInt8 × List AV × List AV × Int) => tr_u86q v.1 v.2.1 v.2.2.1 v.2.2.2.1 v.2.2.2.2.1 v.2.2.2.2.2) T65_ok (LOk_of (l := []) (by kernel_rfl) trivial) (by kernel_rfl) (fun v => by kernel_rfl) (fun v => f_u86q_eq v.1 v.2.1 v.2.2.1 v.2.2.2.1 v.2.2.2.2.1 v.2.2.2.2.2)
noncomputable def T66 : Tab := (55, FE p_u86q r_u86q (fun (v : Int × Int × List UInt8 × List AV × List AV × Int) => (f_u86q v.1 v.2.1 v.2.2.1 v.2.2.2.1 v.2.2.2.2.1 v.2.2.2.2.2 : Option B_u86q))) :: T65
theorem T66_ok : TabOk IP T66 := ⟨FE_ok c_u86q, T65_ok⟩
abbrev B_u90q : Type := Int
def p_u90q : PArgs := ⟨[.agg [.str, .int .i64, .int .i64, .int .i64, .str, .view 4, .int .i64, .int .i64, .str, .view 4]], []⟩
def r_u90q : List PRes := [⟨false, .int .i64, []⟩]
noncomputable def tr_u90q (x0 : List UInt8) (x1 : Int) (x2 : Int) (x3 : Int) (x4 : List UInt8) (x5 : List AV) (x6 : Int) (x7 : Int) (x8 : List UInt8) (x9 : List AV) : DT B_u90q :=
 .bi (f_u75q x0) (fun y0 =>
  .br (!y0)
   (.at (4))
   (.bi (br (decide (x1 < 1)) (some true) (some (decide (x1 > 4)))) (fun y1 =>
    .br (y1)
     (.at (1))
     (.bi (f_u73q) (fun y2 =>
      .bi (f_u86q x2 x3 x4 x5 y2 5) (fun y3 =>
       .br (y3 != 0)
        (.at (y3))
        (.bi (f_u73q) (fun y4 =>
         .bi (f_u86q x6 x7 x8 x9 y4 2) (fun y5 =>
          .at (y5))
          (.no))
         (.no)))
       (.no))
      (.no)))
    (.no)))
  (.no)
noncomputable def f_u90q (x0 : List UInt8) (x1 : Int) (x2 : Int) (x3 : Int) (x4 : List UInt8) (x5 : List AV) (x6 : Int) (x7 : Int) (x8 : List UInt8) (x9 : List AV) : Option B_u90q := lock (tr_u90q x0 x1 x2 x3 x4 x5 x6 x7 x8 x9).ev
theorem f_u90q_eq (x0 : List UInt8) (x1 : Int) (x2 : Int) (x3 : Int) (x4 : List UInt8) (x5 : List AV) (x6 : Int) (x7 : Int) (x8 : List UInt8) (x9 : List AV) : f_u90q x0 x1 x2 x3 x4 x5 x6 x7 x8 x9 = (tr_u90q x0 x1 x2 x3 x4 x5 x6 x7 x8 x9).ev := lock_eq _
theorem c_u90q : FH IP 29 p_u90q r_u90q (fun (v : List UInt8 × Int × Int × Int × List UInt8 × List AV × Int × Int × List UInt8 × List AV) => (f_u90q v.1 v.2.1 v.2.2.1 v.2.2.2.1 v.2.2.2.2.1 v.2.2.2.2.2.1 v.2.2.2.2.2.2.1 v.2.2.2.2.2.2.2.1 v.2.2.2.2.2.2.2.2.1 v.2.2.2.2.2.2.2.2.2 : Option B_u90q)) := fun_FH (F := F29) (L := []) (t := fun (v : List UInt8 × Int × Int × Int × List UInt8 × List AV × Int × Int × List UInt8 × List AV) => tr_u90q v.1 v.2.1 v.2.2.1 v.2.2.2.1 v.2.2.2.2.1 v.2.2.2.2.2.1 v.2.2.2.2.2.2.1 v.2.2.2.2.2.2.2.1 v.2.2.2.2.2.2.2.2.1 v.2.2.2.2.2.2.2.2.2) T66_ok (LOk_of (l := []) (by kernel_rfl) trivial) (by kernel_rfl) (fun v => by kernel_rfl) (fun v => f_u90q_eq v.1 v.2.1 v.2.2.1 v.2.2.2.1 v.2.2.2.2.1 v.2.2.2.2.2.1 v.2.2.2.2.2.2.1 v.2.2.2.2.2.2.2.1 v.2.2.2.2.2.2.2.2.1 v.2.2.2.2.2.2.2.2.2)
noncomputable def T67 : Tab := (29, FE p_u90q r_u90q (fun (v : List UInt8 × Int × Int × Int × List UInt8 × List AV × Int × Int × List UInt8 × List AV) => (f_u90q v.1 v.2.1 v.2.2.1 v.2.2.2.1 v.2.2.2.2.1 v.2.2.2.2.2.1 v.2.2.2.2.2.2.1 v.2.2.2.2.2.2.2.1 v.2.2.2.2.2.2.2.2.1 v.2.2.2.2.2.2.2.2.2 : Option B_u90q))) :: T66
theorem T67_ok : TabOk IP T67 := ⟨FE_ok c_u90q, T66_ok⟩
end Go.Proofs.H15v

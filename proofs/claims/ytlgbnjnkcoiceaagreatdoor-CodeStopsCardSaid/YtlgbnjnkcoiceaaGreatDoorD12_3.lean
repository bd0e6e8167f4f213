/- Functions over plain data. Printed by a program of mine. -/
import Derived.Test.YtlgbnjnkcoiceaaGreatDoorD12_2
import Derived.KernelRfl
set_option linter.unusedVariables false
set_option linter.unusedSimpArgs false
set_option linter.unnecessarySimpa false
namespace Go.Proofs.H12
open Go Go.Eng
set_option maxRecDepth 100000
noncomputable section
def N_u107q : Nat → GT_u107q × GT_u0q × GT_u4q × GT_u61q
  | 0 => (fun _ _ _ _ => none, fun _ => none, fun _ => none, fun _ _ _ _ => none)
  | n + 1 => (fun x0 x1 x2 x3 => (tr_u107q ((N_u107q n).1) ((N_u107q n).2.1) ((N_u107q n).2.2.1) ((N_u107q n).2.2.2) x0 x1 x2 x3).ev, fun x0 => (tr_u0q ((N_u107q n).1) ((N_u107q n).2.1) ((N_u107q n).2.2.1) ((N_u107q n).2.2.2) x0).ev, fun x0 => (tr_u4q ((N_u107q n).1) ((N_u107q n).2.1) ((N_u107q n).2.2.1) ((N_u107q n).2.2.2) x0).ev, fun x0 x1 x2 x3 => (tr_u61q ((N_u107q n).1) ((N_u107q n).2.1) ((N_u107q n).2.2.1) ((N_u107q n).2.2.2) x0 x1 x2 x3).ev)
def f_u107q (x0 x1 : Int) (x2 : List UInt8) (x3 : List AV) : Option B_u107q := limO fun n => (N_u107q n).1 x0 x1 x2 x3
def f_u0q (x0 : List AV) : Option B_u0q := limO fun n => (N_u107q n).2.1 x0
def f_u4q (x0 : List AV) : Option B_u4q := limO fun n => (N_u107q n).2.2.1 x0
def f_u61q (x0 x1 : Int) (x2 : List UInt8) (x3 : List AV) : Option B_u61q := limO fun n => (N_u107q n).2.2.2 x0 x1 x2 x3
theorem N_u107q_ok : ∀ n, GH_u107q ((N_u107q n).1) ((N_u107q n).2.1) ((N_u107q n).2.2.1) ((N_u107q n).2.2.2)
  | 0 => ⟨(fun v y h => nomatch h), (fun v y h => nomatch h), (fun v y h => nomatch h), (fun v y h => nomatch h)⟩
  | n + 1 => have hG := N_u107q_ok n
    ⟨fun_FH (F := F67) (L := []) (t := (k4 (tr_u107q ((N_u107q n).1) ((N_u107q n).2.1) ((N_u107q n).2.2.1) ((N_u107q n).2.2.2)))) (TG_u107q_ok ((N_u107q n).1) ((N_u107q n).2.1) ((N_u107q n).2.2.1) ((N_u107q n).2.2.2) hG) (LOk_of (l := []) (by kernel_rfl) trivial) (by kernel_rfl) (fun v => by kernel_rfl) (fun v => rfl), fun_FH (F := F82) (L := []) (t := (tr_u0q ((N_u107q n).1) ((N_u107q n).2.1) ((N_u107q n).2.2.1) ((N_u107q n).2.2.2))) (TG_u107q_ok ((N_u107q n).1) ((N_u107q n).2.1) ((N_u107q n).2.2.1) ((N_u107q n).2.2.2) hG) (LOk_of (l := []) (by kernel_rfl) trivial) (by kernel_rfl) (fun v => by kernel_rfl) (fun v => rfl), fun_FH (F := F95) (L := [(1009500, ll_u2q ((N_u107q n).1) ((N_u107q n).2.1) ((N_u107q n).2.2.1) ((N_u107q n).2.2.2))]) (t := (tr_u4q ((N_u107q n).1) ((N_u107q n).2.1) ((N_u107q n).2.2.1) ((N_u107q n).2.2.2))) (TG_u107q_ok ((N_u107q n).1) ((N_u107q n).2.1) ((N_u107q n).2.2.1) ((N_u107q n).2.2.2) hG) (LOk_of (l := [loopAt F95 0]) (by kernel_rfl) ⟨sel_one (by kernel_rfl) (t_u2q ((N_u107q n).1) ((N_u107q n).2.1) ((N_u107q n).2.2.1) ((N_u107q n).2.2.2) hG), trivial⟩) (by kernel_rfl) (fun v => by kernel_rfl) (fun v => rfl), fun_FH (F := F83) (L := []) (t := (k4 (tr_u61q ((N_u107q n).1) ((N_u107q n).2.1) ((N_u107q n).2.2.1) ((N_u107q n).2.2.2)))) (TG_u107q_ok ((N_u107q n).1) ((N_u107q n).2.1) ((N_u107q n).2.2.1) ((N_u107q n).2.2.2) hG) (LOk_of (l := []) (by kernel_rfl) trivial) (by kernel_rfl) (fun v => by kernel_rfl) (fun v => rfl)⟩
theorem c_u107q : FH IP 67 p_u107q r_u107q (k4 f_u107q) := lim_FH (p := p_u107q) (rs := r_u107q) (s := fun n => (k4 ((N_u107q n).1))) fun n => (N_u107q_ok n).1
theorem c_u0q : FH IP 82 p_u0q r_u0q f_u0q := lim_FH (p := p_u0q) (rs := r_u0q) (s := fun n => ((N_u107q n).2.1)) fun n => (N_u107q_ok n).2.1
theorem c_u4q : FH IP 95 p_u4q r_u4q f_u4q := lim_FH (p := p_u4q) (rs := r_u4q) (s := fun n => ((N_u107q n).2.2.1)) fun n => (N_u107q_ok n).2.2.1
theorem c_u61q : FH IP 83 p_u61q r_u61q (k4 f_u61q) := lim_FH (p := p_u61q) (rs := r_u61q) (s := fun n => (k4 ((N_u107q n).2.2.2))) fun n => (N_u107q_ok n).2.2.2
def T43 : Tab := (67, FE p_u107q r_u107q (k4 f_u107q)) :: T42
theorem T43_ok : TabOk IP T43 := ⟨FE_ok c_u107q, T42_ok⟩
def T44 : Tab := (82, FE p_u0q r_u0q f_u0q) :: T43
theorem T44_ok : TabOk IP T44 := ⟨FE_ok c_u0q, T43_ok⟩
def T45 : Tab := (95, FE p_u4q r_u4q f_u4q) :: T44
theorem T45_ok : TabOk IP T45 := ⟨FE_ok c_u4q, T44_ok⟩
def T46 : Tab := (83, FE p_u61q r_u61q (k4 f_u61q)) :: T45
theorem T46_ok : TabOk IP T46 := ⟨FE_ok c_u61q, T45_ok⟩
abbrev B_u60q : Type := Int
def p_u60q : PArgs := ⟨[.agg [.int .i64, .int .i64, .str, .view 4]], []⟩
def r_u60q : List PRes := [⟨false, .int .i64, []⟩]
def tr_u60q (x0 x1 : Int) (x2 : List UInt8) (x3 : List AV) : DT B_u60q :=
 .bi (f_u131q x0 x1 x2 x3) (fun y0 =>
  .bi (br (decide (y0 > 64)) (some true) (br (sm (f_u132q x0 x1 x2 x3)) (some (decide (gv (f_u132q x0 x1 x2 x3) > 8))) none)) (fun y1 =>
   .br (y1)
    (.at (5))
    (.bi (f_u133q x0 x1 x2 x3) (fun y2 =>
     .br (!y2)
      (.at (1))
      (.bi (f_u107q x0 x1 x2 x3) (fun y3 =>
       .br (!y3) (.at (4)) (.at (0)))
       (.no)))
     (.no)))
   (.no))
  (.no)
def f_u60q (x0 x1 : Int) (x2 : List UInt8) (x3 : List AV) : Option B_u60q := lock (tr_u60q x0 x1 x2 x3).ev
theorem f_u60q_eq (x0 x1 : Int) (x2 : List UInt8) (x3 : List AV) : f_u60q x0 x1 x2 x3 = (tr_u60q x0 x1 x2 x3).ev := lock_eq _
theorem c_u60q : FH IP 44 p_u60q r_u60q (k4 f_u60q) := fun_FH (F := F44) (L := []) (t := (k4 tr_u60q)) T46_ok (LOk_of (l := []) (by kernel_rfl) trivial) (by kernel_rfl) (fun v => by kernel_rfl) (fun _ => lock_eq _)
def T47 : Tab := (44, FE p_u60q r_u60q (k4 f_u60q)) :: T46
theorem T47_ok : TabOk IP T47 := ⟨FE_ok c_u60q, T46_ok⟩
abbrev TT_u70q : Type := List AV × List AV × Int × Int × List AV × Int × Int × List UInt8 × Int
def hs_u70q : List PSt := [⟨[(1002901, .junk), (0, .view 2), (4, .ref 0 0 0), (10, .view 2), (11, .int .i64), (12, .int .i64), (24, .view 2), (25, .int .i64), (26, .int .i64)], [(0, .box [.str, .int .i64] false)], 1, 0⟩]
def x_u70q_0 (x0 x1 : List AV) (x2 x3 : Int) (x4 : List AV) (x5 x6 : Int) (x7 : List UInt8) (x8 : Int) : X × St := (X.ret,
  { tm := [(0, AV.view 2 x0), (2, AV.int IntKind.i64 12), (4, AV.ref 0 0 0), (10, AV.view 2 x1), (11, AV.int IntKind.i64 x2), (12, AV.int IntKind.i64 x3)],
    hp := [(0, Blk.box [AV.str x7, AV.int IntKind.i64 x8] false)], nx := 1, k := 0 })
def x_u70q_1 (x0 x1 : List AV) (x2 x3 : Int) (x4 : List AV) (x5 x6 : Int) (x7 : List UInt8) (x8 : Int) : X × St := (X.exit 2,
  { tm := [(0, AV.view 2 x0), (2, AV.junk), (4, AV.ref 0 0 0), (10, AV.view 2 x1), (11, AV.int IntKind.i64 x2), (12, AV.int IntKind.i64 x3)],
    hp := [(0, Blk.box [AV.str x7, AV.int IntKind.i64 x8] false)], nx := 1, k := 0 })
def x_u70q : List (TT_u70q → X × St) := [(k9 x_u70q_0), (k9 x_u70q_1)]
def st_u70q_0 (x0 x1 : List AV) (x2 x3 : Int) (x4 : List AV) (x5 x6 : Int) (x7 : List UInt8) (x8 : Int) : DT (Rd TT_u70q) :=
 .br (decide (x6 < x5))
  (.br (okAt [CS.str, CS.int IntKind.i64] x4 x6)
   (.br (strOf (cellAt x4 x6 0) == x7) (.at (.done 0)) (.at (.next ((x0, x1, x2, x3, x4, x5, IntKind.i64.wrap (x6 + 1), x7, x8)))))
   (.no))
  (.at (.done 1))
def st_u70q : TT_u70q → DT (Rd TT_u70q) := (fun v => st_u70q_0 v.1 v.2.1 v.2.2.1 v.2.2.2.1 v.2.2.2.2.1 v.2.2.2.2.2.1 v.2.2.2.2.2.2.1 v.2.2.2.2.2.2.2.1 v.2.2.2.2.2.2.2.2)
def l_u70q (v : TT_u70q) : Option (Nat × TT_u70q) := lock (iterO (fun v => (st_u70q v).ev) v)
theorem l_u70q_eq (v : TT_u70q) : l_u70q v = iterO (fun v => (st_u70q v).ev) v := lock_eq _
def ll_u70q : LEnt := LE (τ := TT_u70q) (hD hs_u70q) (l_u70q) x_u70q
theorem t_u70q : Go.Eng.Told IP (loopAt F29 1).1 (loopAt F29 1).2 (ll_u70q) := loop_LE (inferInstance : Inhabited TT_u70q) (hs := hs_u70q) (st := st_u70q) (L := []) T47_ok (LOk_of (l := []) (by kernel_rfl) trivial) (l_u70q_eq) (fun v => by kernel_rfl) (fun v => by kernel_rfl)
abbrev B_u94q : Type := Bool
def p_u94q : PArgs := ⟨[.int .i64], []⟩
def r_u94q : List PRes := [⟨false, .bool, []⟩]
def tr_u94q (x0 : Int) : DT B_u94q :=
 .bi (br (decide (x0 ≥ 1)) (some (decide (x0 ≤ 5))) (some false)) (fun y0 =>
  .at (y0))
  (.no)
def f_u94q (x0 : Int) : Option B_u94q := lock (tr_u94q x0).ev
theorem f_u94q_eq (x0 : Int) : f_u94q x0 = (tr_u94q x0).ev := lock_eq _
theorem c_u94q : FH IP 45 p_u94q r_u94q f_u94q := fun_FH (F := F45) (L := []) (t := tr_u94q) T47_ok (LOk_of (l := []) (by kernel_rfl) trivial) (by kernel_rfl) (fun v => by kernel_rfl) (fun _ => lock_eq _)
def T48 : Tab := (45, FE p_u94q r_u94q f_u94q) :: T47
theorem T48_ok : TabOk IP T48 := ⟨FE_ok c_u94q, T47_ok⟩
abbrev TT_u69q : Type := List AV × List AV × Int × Int
def hs_u69q : List PSt := [⟨[(1002900, .junk), (0, .view 2), (10, .view 2), (11, .int .i64), (12, .int .i64)], [], 0, 0⟩]
def x_u69q_0 (x0 x1 : List AV) (x2 x3 : Int) : X × St := (X.ret, { tm := [(2, AV.int IntKind.i64 4)], hp := [], nx := 0, k := 0 })
def x_u69q_1 (x0 x1 : List AV) (x2 x3 : Int) : X × St := (X.ret, { tm := [(2, AV.int IntKind.i64 12)], hp := [], nx := 0, k := 0 })
def x_u69q_2 (x0 x1 : List AV) (x2 x3 : Int) : X × St := (X.ret, { tm := [(2, AV.int IntKind.i64 3)], hp := [], nx := 0, k := 0 })
def x_u69q_3 (x0 x1 : List AV) (x2 x3 : Int) : X × St := (X.exit 0, { tm := [(2, AV.junk)], hp := [], nx := 0, k := 0 })
def x_u69q : List (TT_u69q → X × St) := [(k4 x_u69q_0), (k4 x_u69q_1), (k4 x_u69q_2), (k4 x_u69q_3)]
def st_u69q_0 (x0 x1 : List AV) (x2 x3 : Int) : DT (Rd TT_u69q) :=
 .br (decide (x3 < x2))
  (.br (okAt [CS.str, CS.int IntKind.i64] x1 x3)
   (.bi (f_u60q 4 0 (strOf (cellAt x1 x3 0)) []) (fun y0 =>
    .br (y0 != 0)
     (.at (.done 0))
     (.br (leB x3 x0.length && true)
      (.bi (pj 0 (l_u70q (x0, x1, x2, x3, List.take x3.toNat x0, (↑(List.take x3.toNat x0).length : Int), 0, strOf (cellAt x1 x3 0), intOf (cellAt x1 x3 1)))) (fun y1 =>
       .at (.done 1))
       (.bi (pj 1 (l_u70q (x0, x1, x2, x3, List.take x3.toNat x0, (↑(List.take x3.toNat x0).length : Int), 0, strOf (cellAt x1 x3 0), intOf (cellAt x1 x3 1)))) (fun y1 =>
        .bi (f_u94q y1.2.2.2.2.2.2.2.2) (fun y2 =>
         .br (!y2) (.at (.done 2)) (.at (.next ((y1.1, y1.2.1, y1.2.2.1, IntKind.i64.wrap (y1.2.2.2.1 + 1))))))
         (.no))
        (.no)))
      (.no)))
    (.no))
   (.no))
  (.at (.done 3))
def st_u69q : TT_u69q → DT (Rd TT_u69q) := (fun v => st_u69q_0 v.1 v.2.1 v.2.2.1 v.2.2.2)
def l_u69q (v : TT_u69q) : Option (Nat × TT_u69q) := lock (iterO (fun v => (st_u69q v).ev) v)
theorem l_u69q_eq (v : TT_u69q) : l_u69q v = iterO (fun v => (st_u69q v).ev) v := lock_eq _
def ll_u69q : LEnt := LE (τ := TT_u69q) (hD hs_u69q) (l_u69q) x_u69q
theorem t_u69q : Go.Eng.Told IP (loopAt F29 0).1 (loopAt F29 0).2 (ll_u69q) := loop_LE (inferInstance : Inhabited TT_u69q) (hs := hs_u69q) (st := st_u69q) (L := [(1002901, ll_u70q)]) T48_ok (LOk_of (l := [loopAt F29 1]) (by kernel_rfl) ⟨sel_one (by kernel_rfl) t_u70q, trivial⟩) (l_u69q_eq) (fun v => by kernel_rfl) (fun v => by kernel_rfl)
abbrev B_u113q : Type := Int
def p_u113q : PArgs := ⟨[.view 2], []⟩
def r_u113q : List PRes := [⟨false, .int .i64, []⟩]
def tr_u113q (x0 : List AV) : DT B_u113q :=
 .br (decide ((↑x0.length : Int) > 64))
  (.at (5))
  (.bi (pj 0 (l_u69q (x0, x0, (↑x0.length : Int), 0))) (fun y0 =>
   .at (4))
   (.bi (pj 1 (l_u69q (x0, x0, (↑x0.length : Int), 0))) (fun y0 =>
    .at (12))
    (.bi (pj 2 (l_u69q (x0, x0, (↑x0.length : Int), 0))) (fun y0 =>
     .at (3))
     (.bi (pj 3 (l_u69q (x0, x0, (↑x0.length : Int), 0))) (fun y0 =>
      .at (0))
      (.no)))))
def f_u113q (x0 : List AV) : Option B_u113q := lock (tr_u113q x0).ev
theorem f_u113q_eq (x0 : List AV) : f_u113q x0 = (tr_u113q x0).ev := lock_eq _
theorem c_u113q : FH IP 29 p_u113q r_u113q f_u113q := fun_FH (F := F29) (L := [(1002900, ll_u69q)]) (t := tr_u113q) T48_ok (LOk_of (l := [loopAt F29 0, loopAt F29 1]) (by kernel_rfl) ⟨sel_one (by kernel_rfl) t_u69q, sel_no (by kernel_rfl), trivial⟩) (by kernel_rfl) (fun v => by kernel_rfl) (fun _ => lock_eq _)
def T49 : Tab := (29, FE p_u113q r_u113q f_u113q) :: T48
theorem T49_ok : TabOk IP T49 := ⟨FE_ok c_u113q, T48_ok⟩
abbrev TT_u34q : Type := List UInt8 × List AV × Int × Int
def hs_u34q : List PSt := [⟨[(1007000, .junk), (0, .str), (8, .view 2), (9, .int .i64), (10, .int .i64)], [], 0, 0⟩]
def x_u34q_0 (x0 : List UInt8) (x1 : List AV) (x2 x3 : Int) : X × St := (X.ret, { tm := [(4, AV.int IntKind.i64 0), (5, AV.int IntKind.i64 3)], hp := [], nx := 0, k := 0 })
def x_u34q_1 (x0 : List UInt8) (x1 : List AV) (x2 x3 : Int) : X × St := (X.ret, { tm := [(4, AV.int IntKind.i64 (intOf (cellAt x1 x3 1))), (5, AV.int IntKind.i64 0)], hp := [], nx := 0, k := 0 })
def x_u34q_2 (x0 : List UInt8) (x1 : List AV) (x2 x3 : Int) : X × St := (X.exit 0, { tm := [(4, AV.junk), (5, AV.junk)], hp := [], nx := 0, k := 0 })
def x_u34q : List (TT_u34q → X × St) := [(k4 x_u34q_0), (k4 x_u34q_1), (k4 x_u34q_2)]
def st_u34q_0 (x0 : List UInt8) (x1 : List AV) (x2 x3 : Int) : DT (Rd TT_u34q) :=
 .br (decide (x3 < x2))
  (.br (okAt [CS.str, CS.int IntKind.i64] x1 x3)
   (.br (strOf (cellAt x1 x3 0) == x0)
    (.bi (f_u94q (intOf (cellAt x1 x3 1))) (fun y0 =>
     .br (!y0) (.at (.done 0)) (.at (.done 1)))
     (.no))
    (.at (.next ((x0, x1, x2, IntKind.i64.wrap (x3 + 1))))))
   (.no))
  (.at (.done 2))
def st_u34q : TT_u34q → DT (Rd TT_u34q) := (fun v => st_u34q_0 v.1 v.2.1 v.2.2.1 v.2.2.2)
def l_u34q (v : TT_u34q) : Option (Nat × TT_u34q) := lock (iterO (fun v => (st_u34q v).ev) v)
theorem l_u34q_eq (v : TT_u34q) : l_u34q v = iterO (fun v => (st_u34q v).ev) v := lock_eq _
def ll_u34q : LEnt := LE (τ := TT_u34q) (hD hs_u34q) (l_u34q) x_u34q
theorem t_u34q : Go.Eng.Told IP (loopAt F70 0).1 (loopAt F70 0).2 (ll_u34q) := loop_LE (inferInstance : Inhabited TT_u34q) (hs := hs_u34q) (st := st_u34q) (L := []) T49_ok (LOk_of (l := []) (by kernel_rfl) trivial) (l_u34q_eq) (fun v => by kernel_rfl) (fun v => by kernel_rfl)
abbrev B_u46q : Type := Int × Int
def p_u46q : PArgs := ⟨[.str, .view 2], []⟩
def r_u46q : List PRes := [⟨false, .tup [.int .i64, .int .i64], []⟩]
def tr_u46q (x0 : List UInt8) (x1 : List AV) : DT B_u46q :=
 .bi (pj 0 (l_u34q (x0, x1, (↑x1.length : Int), 0))) (fun y0 =>
  .at ((0, 3)))
  (.bi (pj 1 (l_u34q (x0, x1, (↑x1.length : Int), 0))) (fun y0 =>
   .at ((intOf (cellAt y0.2.1 y0.2.2.2 1), 0)))
   (.bi (pj 2 (l_u34q (x0, x1, (↑x1.length : Int), 0))) (fun y0 =>
    .at ((0, 4)))
    (.no)))
def f_u46q (x0 : List UInt8) (x1 : List AV) : Option B_u46q := lock (tr_u46q x0 x1).ev
theorem f_u46q_eq (x0 : List UInt8) (x1 : List AV) : f_u46q x0 x1 = (tr_u46q x0 x1).ev := lock_eq _
theorem c_u46q : FH IP 70 p_u46q r_u46q (k2 f_u46q) := fun_FH (F := F70) (L := [(1007000, ll_u34q)]) (t := (k2 tr_u46q)) T49_ok (LOk_of (l := [loopAt F70 0]) (by kernel_rfl) ⟨sel_one (by kernel_rfl) t_u34q, trivial⟩) (by kernel_rfl) (fun v => by kernel_rfl) (fun _ => lock_eq _)
def T50 : Tab := (70, FE p_u46q r_u46q (k2 f_u46q)) :: T49
theorem T50_ok : TabOk IP T50 := ⟨FE_ok c_u46q, T49_ok⟩
abbrev TT_u45q : Type := Int × List AV × List AV × Int × Int
def hs_u45q : List PSt := [⟨[(1007100, .junk), (0, .int .i64), (1, .view 1), (10, .view 1), (11, .int .i64), (12, .int .i64)], [], 0, 0⟩]
def x_u45q_0 (x0 : Int) (x1 x2 : List AV) (x3 x4 : Int) : X × St := (X.ret, { tm := [(0, AV.int IntKind.i64 x0), (1, AV.view 1 x1), (4, AV.int IntKind.i64 0), (5, AV.bool false)], hp := [], nx := 0, k := 0 })
def x_u45q_1 (x0 : Int) (x1 x2 : List AV) (x3 x4 : Int) : X × St := (X.exit 0, { tm := [(0, AV.int IntKind.i64 x0), (1, AV.view 1 x1), (4, AV.junk), (5, AV.junk)], hp := [], nx := 0, k := 0 })
def x_u45q : List (TT_u45q → X × St) := [(k5 x_u45q_0), (k5 x_u45q_1)]
def st_u45q_0 (x0 : Int) (x1 x2 : List AV) (x3 x4 : Int) : DT (Rd TT_u45q) :=
 .br (decide (x4 < x3))
  (.br (okAt [CS.int IntKind.i64] x2 x4)
   (.bi (f_u94q (intOf (cellAt x2 x4 0))) (fun y0 =>
    .br (!y0) (.at (.done 0)) (.at (.next ((x0, x1, x2, x3, IntKind.i64.wrap (x4 + 1))))))
    (.no))
   (.no))
  (.at (.done 1))
def st_u45q : TT_u45q → DT (Rd TT_u45q) := (fun v => st_u45q_0 v.1 v.2.1 v.2.2.1 v.2.2.2.1 v.2.2.2.2)
def l_u45q (v : TT_u45q) : Option (Nat × TT_u45q) := lock (iterO (fun v => (st_u45q v).ev) v)
theorem l_u45q_eq (v : TT_u45q) : l_u45q v = iterO (fun v => (st_u45q v).ev) v := lock_eq _
def ll_u45q : LEnt := LE (τ := TT_u45q) (hD hs_u45q) (l_u45q) x_u45q
theorem t_u45q : Go.Eng.Told IP (loopAt F71 0).1 (loopAt F71 0).2 (ll_u45q) := loop_LE (inferInstance : Inhabited TT_u45q) (hs := hs_u45q) (st := st_u45q) (L := []) T50_ok (LOk_of (l := []) (by kernel_rfl) trivial) (l_u45q_eq) (fun v => by kernel_rfl) (fun v => by kernel_rfl)
abbrev B_u138q : Type := Int × Bool
def p_u138q : PArgs := ⟨[.int .i64, .int .i64], []⟩
def r_u138q : List PRes := [⟨false, .tup [.int .i64, .bool], []⟩]
def tr_u138q (x0 x1 : Int) : DT B_u138q :=
 .br (x0 == 16)
  (.at ((5, x1 == 5)))
  (.br (x0 == 9)
   (.bi (br (x1 == 1) (some true) (some (x1 == 2))) (fun y0 =>
    .bi (br y0 (some true) (some (x1 == 3))) (fun y1 =>
     .at ((x1, y1)))
     (.no))
    (.no))
   (.at ((0, false))))
def f_u138q (x0 x1 : Int) : Option B_u138q := lock (tr_u138q x0 x1).ev
theorem f_u138q_eq (x0 x1 : Int) : f_u138q x0 x1 = (tr_u138q x0 x1).ev := lock_eq _
theorem c_u138q : FH IP 86 p_u138q r_u138q (k2 f_u138q) := fun_FH (F := F86) (L := []) (t := (k2 tr_u138q)) T50_ok (LOk_of (l := []) (by kernel_rfl) trivial) (by kernel_rfl) (fun v => by kernel_rfl) (fun _ => lock_eq _)
def T51 : Tab := (86, FE p_u138q r_u138q (k2 f_u138q)) :: T50
theorem T51_ok : TabOk IP T51 := ⟨FE_ok c_u138q, T50_ok⟩
abbrev B_u33q : Type := List (AV × AV)
def p_u33q : PArgs := ⟨[], []⟩
def r_u33q : List PRes := [⟨false, .mref 0, [(0, .mp)]⟩]
def tr_u33q : DT B_u33q :=
 .at ([(AV.agg [AV.int IntKind.i64 5, AV.int IntKind.i64 1, AV.int IntKind.i64 1], AV.int IntKind.i64 1),
  (AV.agg [AV.int IntKind.i64 5, AV.int IntKind.i64 2, AV.int IntKind.i64 2], AV.int IntKind.i64 2),
  (AV.agg [AV.int IntKind.i64 5, AV.int IntKind.i64 3, AV.int IntKind.i64 3], AV.int IntKind.i64 3),
  (AV.agg [AV.int IntKind.i64 5, AV.int IntKind.i64 4, AV.int IntKind.i64 1], AV.int IntKind.i64 4),
  (AV.agg [AV.int IntKind.i64 6, AV.int IntKind.i64 1, AV.int IntKind.i64 1], AV.int IntKind.i64 1),
  (AV.agg [AV.int IntKind.i64 6, AV.int IntKind.i64 2, AV.int IntKind.i64 2], AV.int IntKind.i64 2),
  (AV.agg [AV.int IntKind.i64 6, AV.int IntKind.i64 3, AV.int IntKind.i64 3], AV.int IntKind.i64 3),
  (AV.agg [AV.int IntKind.i64 6, AV.int IntKind.i64 4, AV.int IntKind.i64 1], AV.int IntKind.i64 4),
  (AV.agg [AV.int IntKind.i64 6, AV.int IntKind.i64 4, AV.int IntKind.i64 4], AV.int IntKind.i64 1),
  (AV.agg [AV.int IntKind.i64 7, AV.int IntKind.i64 1, AV.int IntKind.i64 1], AV.int IntKind.i64 1),
  (AV.agg [AV.int IntKind.i64 7, AV.int IntKind.i64 1, AV.int IntKind.i64 2], AV.int IntKind.i64 2),
  (AV.agg [AV.int IntKind.i64 7, AV.int IntKind.i64 1, AV.int IntKind.i64 3], AV.int IntKind.i64 3),
  (AV.agg [AV.int IntKind.i64 7, AV.int IntKind.i64 2, AV.int IntKind.i64 1], AV.int IntKind.i64 2),
  (AV.agg [AV.int IntKind.i64 7, AV.int IntKind.i64 2, AV.int IntKind.i64 3], AV.int IntKind.i64 2),
  (AV.agg [AV.int IntKind.i64 7, AV.int IntKind.i64 3, AV.int IntKind.i64 1], AV.int IntKind.i64 3),
  (AV.agg [AV.int IntKind.i64 7, AV.int IntKind.i64 3, AV.int IntKind.i64 2], AV.int IntKind.i64 2),
  (AV.agg [AV.int IntKind.i64 8, AV.int IntKind.i64 1, AV.int IntKind.i64 1], AV.int IntKind.i64 1),
  (AV.agg [AV.int IntKind.i64 8, AV.int IntKind.i64 2, AV.int IntKind.i64 1], AV.int IntKind.i64 2),
  (AV.agg [AV.int IntKind.i64 8, AV.int IntKind.i64 2, AV.int IntKind.i64 2], AV.int IntKind.i64 1),
  (AV.agg [AV.int IntKind.i64 8, AV.int IntKind.i64 3, AV.int IntKind.i64 1], AV.int IntKind.i64 3)])
def f_u33q : Option B_u33q := lock (tr_u33q).ev
theorem f_u33q_eq : f_u33q = (tr_u33q).ev := lock_eq _
theorem c_u33q : FH IP 97 p_u33q r_u33q (fun _ => f_u33q) := cst_FH (fun _ => lock_eq _) (fun v => by kernel_rfl)
def T52 : Tab := (97, FE p_u33q r_u33q (fun _ => f_u33q)) :: T51
theorem T52_ok : TabOk IP T52 := ⟨FE_ok c_u33q, T51_ok⟩
abbrev B_u139q : Type := Int × Bool
def p_u139q : PArgs := ⟨[.int .i64, .int .i64, .int .i64], []⟩
def r_u139q : List PRes := [⟨false, .tup [.int .i64, .bool], []⟩]
def tr_u139q (x0 x1 x2 : Int) : DT B_u139q :=
 .br (x0 == 10)
  (.br (x0 == 10)
   (.at ((5, x1 == x2)))
   (.br (x0 == 12)
    (.br (x0 == 12)
     (.bi (br (x1 == x2) (some (x1 != 5)) (some false)) (fun y0 =>
      .at ((5, y0)))
      (.no))
     (.br (x0 == 14)
      (.br (x0 == 14)
       (.bi (br (x1 == x2) (some (x1 == 5)) (some false)) (fun y0 =>
        .at ((5, y0)))
        (.no))
       (.br (x0 == 17)
        (.br (x0 == 17)
         (.bi (br (x1 == x2) (some (x1 != 5)) (some false)) (fun y0 =>
          .at ((x1, y0)))
          (.no))
         (.bi (f_u33q) (fun y0 =>
          .br (mhas (true, [EK.i, EK.i, EK.i]) y0 (AV.agg [AV.int IntKind.i64 x0, AV.int IntKind.i64 x1, AV.int IntKind.i64 x2]))
           (.br (okE false [CS.int IntKind.i64] [mval (true, [EK.i, EK.i, EK.i]) y0 (AV.agg [AV.int IntKind.i64 x0, AV.int IntKind.i64 x1, AV.int IntKind.i64 x2])] 0)
            (.at ((intOf (cellAt [mval (true, [EK.i, EK.i, EK.i]) y0 (AV.agg [AV.int IntKind.i64 x0, AV.int IntKind.i64 x1, AV.int IntKind.i64 x2])] 0 0), intOf (cellAt [mval (true, [EK.i, EK.i, EK.i]) y0 (AV.agg [AV.int IntKind.i64 x0, AV.int IntKind.i64 x1, AV.int IntKind.i64 x2])] 0 0) != 0)))
            (.no))
           (.br (mnot (true, [EK.i, EK.i, EK.i]) y0 (AV.agg [AV.int IntKind.i64 x0, AV.int IntKind.i64 x1, AV.int IntKind.i64 x2])) (.at ((0, false))) (.no)))
          (.no)))
        (.br (x0 == 18)
         (.bi (br (x1 == x2) (some (x1 != 5)) (some false)) (fun y0 =>
          .at ((x1, y0)))
          (.no))
         (.bi (f_u33q) (fun y0 =>
          .br (mhas (true, [EK.i, EK.i, EK.i]) y0 (AV.agg [AV.int IntKind.i64 x0, AV.int IntKind.i64 x1, AV.int IntKind.i64 x2]))
           (.br (okE false [CS.int IntKind.i64] [mval (true, [EK.i, EK.i, EK.i]) y0 (AV.agg [AV.int IntKind.i64 x0, AV.int IntKind.i64 x1, AV.int IntKind.i64 x2])] 0)
            (.at ((intOf (cellAt [mval (true, [EK.i, EK.i, EK.i]) y0 (AV.agg [AV.int IntKind.i64 x0, AV.int IntKind.i64 x1, AV.int IntKind.i64 x2])] 0 0), intOf (cellAt [mval (true, [EK.i, EK.i, EK.i]) y0 (AV.agg [AV.int IntKind.i64 x0, AV.int IntKind.i64 x1, AV.int IntKind.i64 x2])] 0 0) != 0)))
            (.no))
           (.br (mnot (true, [EK.i, EK.i, EK.i]) y0 (AV.agg [AV.int IntKind.i64 x0, AV.int IntKind.i64 x1, AV.int IntKind.i64 x2])) (.at ((0, false))) (.no)))
          (.no)))))
      (.br (x0 == 15)
       (.bi (br (x1 == x2) (some (x1 == 5)) (some false)) (fun y0 =>
        .at ((5, y0)))
        (.no))
       (.br (x0 == 17)
        (.br (x0 == 17)
         (.bi (br (x1 == x2) (some (x1 != 5)) (some false)) (fun y0 =>
          .at ((x1, y0)))
          (.no))
         (.bi (f_u33q) (fun y0 =>
          .br (mhas (true, [EK.i, EK.i, EK.i]) y0 (AV.agg [AV.int IntKind.i64 x0, AV.int IntKind.i64 x1, AV.int IntKind.i64 x2]))
           (.br (okE false [CS.int IntKind.i64] [mval (true, [EK.i, EK.i, EK.i]) y0 (AV.agg [AV.int IntKind.i64 x0, AV.int IntKind.i64 x1, AV.int IntKind.i64 x2])] 0)
            (.at ((intOf (cellAt [mval (true, [EK.i, EK.i, EK.i]) y0 (AV.agg [AV.int IntKind.i64 x0, AV.int IntKind.i64 x1, AV.int IntKind.i64 x2])] 0 0), intOf (cellAt [mval (true, [EK.i, EK.i, EK.i]) y0 (AV.agg [AV.int IntKind.i64 x0, AV.int IntKind.i64 x1, AV.int IntKind.i64 x2])] 0 0) != 0)))
            (.no))
           (.br (mnot (true, [EK.i, EK.i, EK.i]) y0 (AV.agg [AV.int IntKind.i64 x0, AV.int IntKind.i64 x1, AV.int IntKind.i64 x2])) (.at ((0, false))) (.no)))
          (.no)))
        (.br (x0 == 18)
         (.bi (br (x1 == x2) (some (x1 != 5)) (some false)) (fun y0 =>
          .at ((x1, y0)))
          (.no))
         (.bi (f_u33q) (fun y0 =>
          .br (mhas (true, [EK.i, EK.i, EK.i]) y0 (AV.agg [AV.int IntKind.i64 x0, AV.int IntKind.i64 x1, AV.int IntKind.i64 x2]))
           (.br (okE false [CS.int IntKind.i64] [mval (true, [EK.i, EK.i, EK.i]) y0 (AV.agg [AV.int IntKind.i64 x0, AV.int IntKind.i64 x1, AV.int IntKind.i64 x2])] 0)
            (.at ((intOf (cellAt [mval (true, [EK.i, EK.i, EK.i]) y0 (AV.agg [AV.int IntKind.i64 x0, AV.int IntKind.i64 x1, AV.int IntKind.i64 x2])] 0 0), intOf (cellAt [mval (true, [EK.i, EK.i, EK.i]) y0 (AV.agg [AV.int IntKind.i64 x0, AV.int IntKind.i64 x1, AV.int IntKind.i64 x2])] 0 0) != 0)))
            (.no))
           (.br (mnot (true, [EK.i, EK.i, EK.i]) y0 (AV.agg [AV.int IntKind.i64 x0, AV.int IntKind.i64 x1, AV.int IntKind.i64 x2])) (.at ((0, false))) (.no)))
          (.no)))))))
    (.br (x0 == 13)
     (.bi (br (x1 == x2) (some (x1 != 5)) (some false)) (fun y0 =>
      .at ((5, y0)))
      (.no))
     (.br (x0 == 14)
      (.br (x0 == 14)
       (.bi (br (x1 == x2) (some (x1 == 5)) (some false)) (fun y0 =>
        .at ((5, y0)))
        (.no))
       (.br (x0 == 17)
        (.br (x0 == 17)
         (.bi (br (x1 == x2) (some (x1 != 5)) (some false)) (fun y0 =>
          .at ((x1, y0)))
          (.no))
         (.bi (f_u33q) (fun y0 =>
          .br (mhas (true, [EK.i, EK.i, EK.i]) y0 (AV.agg [AV.int IntKind.i64 x0, AV.int IntKind.i64 x1, AV.int IntKind.i64 x2]))
           (.br (okE false [CS.int IntKind.i64] [mval (true, [EK.i, EK.i, EK.i]) y0 (AV.agg [AV.int IntKind.i64 x0, AV.int IntKind.i64 x1, AV.int IntKind.i64 x2])] 0)
            (.at ((intOf (cellAt [mval (true, [EK.i, EK.i, EK.i]) y0 (AV.agg [AV.int IntKind.i64 x0, AV.int IntKind.i64 x1, AV.int IntKind.i64 x2])] 0 0), intOf (cellAt [mval (true, [EK.i, EK.i, EK.i]) y0 (AV.agg [AV.int IntKind.i64 x0, AV.int IntKind.i64 x1, AV.int IntKind.i64 x2])] 0 0) != 0)))
            (.no))
           (.br (mnot (true, [EK.i, EK.i, EK.i]) y0 (AV.agg [AV.int IntKind.i64 x0, AV.int IntKind.i64 x1, AV.int IntKind.i64 x2])) (.at ((0, false))) (.no)))
          (.no)))
        (.br (x0 == 18)
         (.bi (br (x1 == x2) (some (x1 != 5)) (some false)) (fun y0 =>
          .at ((x1, y0)))
          (.no))
         (.bi (f_u33q) (fun y0 =>
          .br (mhas (true, [EK.i, EK.i, EK.i]) y0 (AV.agg [AV.int IntKind.i64 x0, AV.int IntKind.i64 x1, AV.int IntKind.i64 x2]))
           (.br (okE false [CS.int IntKind.i64] [mval (true, [EK.i, EK.i, EK.i]) y0 (AV.agg [AV.int IntKind.i64 x0, AV.int IntKind.i64 x1, AV.int IntKind.i64 x2])] 0)
            (.at ((intOf (cellAt [mval (true, [EK.i, EK.i, EK.i]) y0 (AV.agg [AV.int IntKind.i64 x0, AV.int IntKind.i64 x1, AV.int IntKind.i64 x2])] 0 0), intOf (cellAt [mval (true, [EK.i, EK.i, EK.i]) y0 (AV.agg [AV.int IntKind.i64 x0, AV.int IntKind.i64 x1, AV.int IntKind.i64 x2])] 0 0) != 0)))
            (.no))
           (.br (mnot (true, [EK.i, EK.i, EK.i]) y0 (AV.agg [AV.int IntKind.i64 x0, AV.int IntKind.i64 x1, AV.int IntKind.i64 x2])) (.at ((0, false))) (.no)))
          (.no)))))
      (.br (x0 == 15)
       (.bi (br (x1 == x2) (some (x1 == 5)) (some false)) (fun y0 =>
        .at ((5, y0)))
        (.no))
       (.br (x0 == 17)
        (.br (x0 == 17)
         (.bi (br (x1 == x2) (some (x1 != 5)) (some false)) (fun y0 =>
          .at ((x1, y0)))
          (.no))
         (.bi (f_u33q) (fun y0 =>
          .br (mhas (true, [EK.i, EK.i, EK.i]) y0 (AV.agg [AV.int IntKind.i64 x0, AV.int IntKind.i64 x1, AV.int IntKind.i64 x2]))
           (.br (okE false [CS.int IntKind.i64] [mval (true, [EK.i, EK.i, EK.i]) y0 (AV.agg [AV.int IntKind.i64 x0, AV.int IntKind.i64 x1, AV.int IntKind.i64 x2])] 0)
            (.at ((intOf (cellAt [mval (true, [EK.i, EK.i, EK.i]) y0 (AV.agg [AV.int IntKind.i64 x0, AV.int IntKind.i64 x1, AV.int IntKind.i64 x2])] 0 0), intOf (cellAt [mval (true, [EK.i, EK.i, EK.i]) y0 (AV.agg [AV.int IntKind.i64 x0, AV.int IntKind.i64 x1, AV.int IntKind.i64 x2])] 0 0) != 0)))
            (.no))
           (.br (mnot (true, [EK.i, EK.i, EK.i]) y0 (AV.agg [AV.int IntKind.i64 x0, AV.int IntKind.i64 x1, AV.int IntKind.i64 x2])) (.at ((0, false))) (.no)))
          (.no)))
        (.br (x0 == 18)
         (.bi (br (x1 == x2) (some (x1 != 5)) (some false)) (fun y0 =>
          .at ((x1, y0)))
          (.no))
         (.bi (f_u33q) (fun y0 =>
          .br (mhas (true, [EK.i, EK.i, EK.i]) y0 (AV.agg [AV.int IntKind.i64 x0, AV.int IntKind.i64 x1, AV.int IntKind.i64 x2]))
           (.br (okE false [CS.int IntKind.i64] [mval (true, [EK.i, EK.i, EK.i]) y0 (AV.agg [AV.int IntKind.i64 x0, AV.int IntKind.i64 x1, AV.int IntKind.i64 x2])] 0)
            (.at ((intOf (cellAt [mval (true, [EK.i, EK.i, EK.i]) y0 (AV.agg [AV.int IntKind.i64 x0, AV.int IntKind.i64 x1, AV.int IntKind.i64 x2])] 0 0), intOf (cellAt [mval (true, [EK.i, EK.i, EK.i]) y0 (AV.agg [AV.int IntKind.i64 x0, AV.int IntKind.i64 x1, AV.int IntKind.i64 x2])] 0 0) != 0)))
            (.no))
           (.br (mnot (true, [EK.i, EK.i, EK.i]) y0 (AV.agg [AV.int IntKind.i64 x0, AV.int IntKind.i64 x1, AV.int IntKind.i64 x2])) (.at ((0, false))) (.no)))
          (.no)))))))))
  (.br (x0 == 11)
   (.at ((5, x1 == x2)))
   (.br (x0 == 12)
    (.br (x0 == 12)
     (.bi (br (x1 == x2) (some (x1 != 5)) (some false)) (fun y0 =>
      .at ((5, y0)))
      (.no))
     (.br (x0 == 14)
      (.br (x0 == 14)
       (.bi (br (x1 == x2) (some (x1 == 5)) (some false)) (fun y0 =>
        .at ((5, y0)))
        (.no))
       (.br (x0 == 17)
        (.br (x0 == 17)
         (.bi (br (x1 == x2) (some (x1 != 5)) (some false)) (fun y0 =>
          .at ((x1, y0)))
          (.no))
         (.bi (f_u33q) (fun y0 =>
          .br (mhas (true, [EK.i, EK.i, EK.i]) y0 (AV.agg [AV.int IntKind.i64 x0, AV.int IntKind.i64 x1, AV.int IntKind.i64 x2]))
           (.br (okE false [CS.int IntKind.i64] [mval (true, [EK.i, EK.i, EK.i]) y0 (AV.agg [AV.int IntKind.i64 x0, AV.int IntKind.i64 x1, AV.int IntKind.i64 x2])] 0)
            (.at ((intOf (cellAt [mval (true, [EK.i, EK.i, EK.i]) y0 (AV.agg [AV.int IntKind.i64 x0, AV.int IntKind.i64 x1, AV.int IntKind.i64 x2])] 0 0), intOf (cellAt [mval (true, [EK.i, EK.i, EK.i]) y0 (AV.agg [AV.int IntKind.i64 x0, AV.int IntKind.i64 x1, AV.int IntKind.i64 x2])] 0 0) != 0)))
            (.no))
           (.br (mnot (true, [EK.i, EK.i, EK.i]) y0 (AV.agg [AV.int IntKind.i64 x0, AV.int IntKind.i64 x1, AV.int IntKind.i64 x2])) (.at ((0, false))) (.no)))
          (.no)))
        (.br (x0 == 18)
         (.bi (br (x1 == x2) (some (x1 != 5)) (some false)) (fun y0 =>
          .at ((x1, y0)))
          (.no))
         (.bi (f_u33q) (fun y0 =>
          .br (mhas (true, [EK.i, EK.i, EK.i]) y0 (AV.agg [AV.int IntKind.i64 x0, AV.int IntKind.i64 x1, AV.int IntKind.i64 x2]))
           (.br (okE false [CS.int IntKind.i64] [mval (true, [EK.i, EK.i, EK.i]) y0 (AV.agg [AV.int IntKind.i64 x0, AV.int IntKind.i64 x1, AV.int IntKind.i64 x2])] 0)
            (.at ((intOf (cellAt [mval (true, [EK.i, EK.i, EK.i]) y0 (AV.agg [AV.int IntKind.i64 x0, AV.int IntKind.i64 x1, AV.int IntKind.i64 x2])] 0 0), intOf (cellAt [mval (true, [EK.i, EK.i, EK.i]) y0 (AV.agg [AV.int IntKind.i64 x0, AV.int IntKind.i64 x1, AV.int IntKind.i64 x2])] 0 0) != 0)))
            (.no))
           (.br (mnot (true, [EK.i, EK.i, EK.i]) y0 (AV.agg [AV.int IntKind.i64 x0, AV.int IntKind.i64 x1, AV.int IntKind.i64 x2])) (.at ((0, false))) (.no)))
          (.no)))))
      (.br (x0 == 15)
       (.bi (br (x1 == x2) (some (x1 == 5)) (some false)) (fun y0 =>
        .at ((5, y0)))
        (.no))
       (.br (x0 == 17)
        (.br (x0 == 17)
         (.bi (br (x1 == x2) (some (x1 != 5)) (some false)) (fun y0 =>
          .at ((x1, y0)))
          (.no))
         (.bi (f_u33q) (fun y0 =>
          .br (mhas (true, [EK.i, EK.i, EK.i]) y0 (AV.agg [AV.int IntKind.i64 x0, AV.int IntKind.i64 x1, AV.int IntKind.i64 x2]))
           (.br (okE false [CS.int IntKind.i64] [mval (true, [EK.i, EK.i, EK.i]) y0 (AV.agg [AV.int IntKind.i64 x0, AV.int IntKind.i64 x1, AV.int IntKind.i64 x2])] 0)
            (.at ((intOf (cellAt [mval (true, [EK.i, EK.i, EK.i]) y0 (AV.agg [AV.int IntKind.i64 x0, AV.int IntKind.i64 x1, AV.int IntKind.i64 x2])] 0 0), intOf (cellAt [mval (true, [EK.i, EK.i, EK.i]) y0 (AV.agg [AV.int IntKind.i64 x0, AV.int IntKind.i64 x1, AV.int IntKind.i64 x2])] 0 0) != 0)))
            (.no))
           (.br (mnot (true, [EK.i, EK.i, EK.i]) y0 (AV.agg [AV.int IntKind.i64 x0, AV.int IntKind.i64 x1, AV.int IntKind.i64 x2])) (.at ((0, false))) (.no)))
          (.no)))
        (.br (x0 == 18)
         (.bi (br (x1 == x2) (some (x1 != 5)) (some false)) (fun y0 =>
          .at ((x1, y0)))
          (.no))
         (.bi (f_u33q) (fun y0 =>
          .br (mhas (true, [EK.i, EK.i, EK.i]) y0 (AV.agg [AV.int IntKind.i64 x0, AV.int IntKind.i64 x1, AV.int IntKind.i64 x2]))
           (.br (okE false [CS.int IntKind.i64] [mval (true, [EK.i, EK.i, EK.i]) y0 (AV.agg [AV.int IntKind.i64 x0, AV.int IntKind.i64 x1, AV.int IntKind.i64 x2])] 0)
            (.at ((intOf (cellAt [mval (true, [EK.i, EK.i, EK.i]) y0 (AV.agg [AV.int IntKind.i64 x0, AV.int IntKind.i64 x1, AV.int IntKind.i64 x2])] 0 0), intOf (cellAt [mval (true, [EK.i, EK.i, EK.i]) y0 (AV.agg [AV.int IntKind.i64 x0, AV.int IntKind.i64 x1, AV.int IntKind.i64 x2])] 0 0) != 0)))
            (.no))
           (.br (mnot (true, [EK.i, EK.i, EK.i]) y0 (AV.agg [AV.int IntKind.i64 x0, AV.int IntKind.i64 x1, AV.int IntKind.i64 x2])) (.at ((0, false))) (.no)))
          (.no)))))))
    (.br (x0 == 13)
     (.bi (br (x1 == x2) (some (x1 != 5)) (some false)) (fun y0 =>
      .at ((5, y0)))
      (.no))
     (.br (x0 == 14)
      (.br (x0 == 14)
       (.bi (br (x1 == x2) (some (x1 == 5)) (some false)) (fun y0 =>
        .at ((5, y0)))
        (.no))
       (.br (x0 == 17)
        (.br (x0 == 17)
         (.bi (br (x1 == x2) (some (x1 != 5)) (some false)) (fun y0 =>
          .at ((x1, y0)))
          (.no))
         (.bi (f_u33q) (fun y0 =>
          .br (mhas (true, [EK.i, EK.i, EK.i]) y0 (AV.agg [AV.int IntKind.i64 x0, AV.int IntKind.i64 x1, AV.int IntKind.i64 x2]))
           (.br (okE false [CS.int IntKind.i64] [mval (true, [EK.i, EK.i, EK.i]) y0 (AV.agg [AV.int IntKind.i64 x0, AV.int IntKind.i64 x1, AV.int IntKind.i64 x2])] 0)
            (.at ((intOf (cellAt [mval (true, [EK.i, EK.i, EK.i]) y0 (AV.agg [AV.int IntKind.i64 x0, AV.int IntKind.i64 x1, AV.int IntKind.i64 x2])] 0 0), intOf (cellAt [mval (true, [EK.i, EK.i, EK.i]) y0 (AV.agg [AV.int IntKind.i64 x0, AV.int IntKind.i64 x1, AV.int IntKind.i64 x2])] 0 0) != 0)))
            (.no))
           (.br (mnot (true, [EK.i, EK.i, EK.i]) y0 (AV.agg [AV.int IntKind.i64 x0, AV.int IntKind.i64 x1, AV.int IntKind.i64 x2])) (.at ((0, false))) (.no)))
          (.no)))
        (.br (x0 == 18)
         (.bi (br (x1 == x2) (some (x1 != 5)) (some false)) (fun y0 =>
          .at ((x1, y0)))
          (.no))
         (.bi (f_u33q) (fun y0 =>
          .br (mhas (true, [EK.i, EK.i, EK.i]) y0 (AV.agg [AV.int IntKind.i64 x0, AV.int IntKind.i64 x1, AV.int IntKind.i64 x2]))
           (.br (okE false [CS.int IntKind.i64] [mval (true, [EK.i, EK.i, EK.i]) y0 (AV.agg [AV.int IntKind.i64 x0, AV.int IntKind.i64 x1, AV.int IntKind.i64 x2])] 0)
            (.at ((intOf (cellAt [mval (true, [EK.i, EK.i, EK.i]) y0 (AV.agg [AV.int IntKind.i64 x0, AV.int IntKind.i64 x1, AV.int IntKind.i64 x2])] 0 0), intOf (cellAt [mval (true, [EK.i, EK.i, EK.i]) y0 (AV.agg [AV.int IntKind.i64 x0, AV.int IntKind.i64 x1, AV.int IntKind.i64 x2])] 0 0) != 0)))
            (.no))
           (.br (mnot (true, [EK.i, EK.i, EK.i]) y0 (AV.agg [AV.int IntKind.i64 x0, AV.int IntKind.i64 x1, AV.int IntKind.i64 x2])) (.at ((0, false))) (.no)))
          (.no)))))
      (.br (x0 == 15)
       (.bi (br (x1 == x2) (some (x1 == 5)) (some false)) (fun y0 =>
        .at ((5, y0)))
        (.no))
       (.br (x0 == 17)
        (.br (x0 == 17)
         (.bi (br (x1 == x2) (some (x1 != 5)) (some false)) (fun y0 =>
          .at ((x1, y0)))
          (.no))
         (.bi (f_u33q) (fun y0 =>
          .br (mhas (true, [EK.i, EK.i, EK.i]) y0 (AV.agg [AV.int IntKind.i64 x0, AV.int IntKind.i64 x1, AV.int IntKind.i64 x2]))
           (.br (okE false [CS.int IntKind.i64] [mval (true, [EK.i, EK.i, EK.i]) y0 (AV.agg [AV.int IntKind.i64 x0, AV.int IntKind.i64 x1, AV.int IntKind.i64 x2])] 0)
            (.at ((intOf (cellAt [mval (true, [EK.i, EK.i, EK.i]) y0 (AV.agg [AV.int IntKind.i64 x0, AV.int IntKind.i64 x1, AV.int IntKind.i64 x2])] 0 0), intOf (cellAt [mval (true, [EK.i, EK.i, EK.i]) y0 (AV.agg [AV.int IntKind.i64 x0, AV.int IntKind.i64 x1, AV.int IntKind.i64 x2])] 0 0) != 0)))
            (.no))
           (.br (mnot (true, [EK.i, EK.i, EK.i]) y0 (AV.agg [AV.int IntKind.i64 x0, AV.int IntKind.i64 x1, AV.int IntKind.i64 x2])) (.at ((0, false))) (.no)))
          (.no)))
        (.br (x0 == 18)
         (.bi (br (x1 == x2) (some (x1 != 5)) (some false)) (fun y0 =>
          .at ((x1, y0)))
          (.no))
         (.bi (f_u33q) (fun y0 =>
          .br (mhas (true, [EK.i, EK.i, EK.i]) y0 (AV.agg [AV.int IntKind.i64 x0, AV.int IntKind.i64 x1, AV.int IntKind.i64 x2]))
           (.br (okE false [CS.int IntKind.i64] [mval (true, [EK.i, EK.i, EK.i]) y0 (AV.agg [AV.int IntKind.i64 x0, AV.int IntKind.i64 x1, AV.int IntKind.i64 x2])] 0)
            (.at ((intOf (cellAt [mval (true, [EK.i, EK.i, EK.i]) y0 (AV.agg [AV.int IntKind.i64 x0, AV.int IntKind.i64 x1, AV.int IntKind.i64 x2])] 0 0), intOf (cellAt [mval (true, [EK.i, EK.i, EK.i]) y0 (AV.agg [AV.int IntKind.i64 x0, AV.int IntKind.i64 x1, AV.int IntKind.i64 x2])] 0 0) != 0)))
            (.no))
           (.br (mnot (true, [EK.i, EK.i, EK.i]) y0 (AV.agg [AV.int IntKind.i64 x0, AV.int IntKind.i64 x1, AV.int IntKind.i64 x2])) (.at ((0, false))) (.no)))
          (.no)))))))))
def f_u139q (x0 x1 x2 : Int) : Option B_u139q := lock (tr_u139q x0 x1 x2).ev
theorem f_u139q_eq (x0 x1 x2 : Int) : f_u139q x0 x1 x2 = (tr_u139q x0 x1 x2).ev := lock_eq _
theorem c_u139q : FH IP 87 p_u139q r_u139q (k3 f_u139q) := fun_FH (F := F87) (L := []) (t := (k3 tr_u139q)) T52_ok (LOk_of (l := []) (by kernel_rfl) trivial) (by kernel_rfl) (fun v => by kernel_rfl) (fun _ => lock_eq _)
def T53 : Tab := (87, FE p_u139q r_u139q (k3 f_u139q)) :: T52
theorem T53_ok : TabOk IP T53 := ⟨FE_ok c_u139q, T52_ok⟩
abbrev B_u68q : Type := Int × Bool
def p_u68q : PArgs := ⟨[.int .i64, .view 1], []⟩
def r_u68q : List PRes := [⟨false, .tup [.int .i64, .bool], []⟩]
def tr_u68q (x0 : Int) (x1 : List AV) : DT B_u68q :=
 .bi (pj 0 (l_u45q (x0, x1, x1, (↑x1.length : Int), 0))) (fun y0 =>
  .at ((0, false)))
  (.bi (pj 1 (l_u45q (x0, x1, x1, (↑x1.length : Int), 0))) (fun y0 =>
   .br ((↑y0.2.1.length : Int) == 1)
    (.br (okAt [CS.int IntKind.i64] y0.2.1 0)
     (.bi (f_u138q y0.1 (intOf (cellAt y0.2.1 0 0))) (fun y1 =>
      .br (!y1.2) (.at ((0, false))) (.at ((y1.1, true))))
      (.no))
     (.no))
    (.br ((↑y0.2.1.length : Int) == 2)
     (.br (okAt [CS.int IntKind.i64] y0.2.1 0)
      (.br (okAt [CS.int IntKind.i64] y0.2.1 1)
       (.bi (f_u139q y0.1 (intOf (cellAt y0.2.1 0 0)) (intOf (cellAt y0.2.1 1 0))) (fun y1 =>
        .br (!y1.2) (.at ((0, false))) (.at ((y1.1, true))))
        (.no))
       (.no))
      (.no))
     (.br ((↑y0.2.1.length : Int) == 3)
      (.br (okAt [CS.int IntKind.i64] y0.2.1 1)
       (.br (y0.1 == 19)
        (.br (okAt [CS.int IntKind.i64] y0.2.1 0)
         (.br (intOf (cellAt y0.2.1 0 0) == 5)
          (.br (okAt [CS.int IntKind.i64] y0.2.1 1)
           (.br (okAt [CS.int IntKind.i64] y0.2.1 2)
            (.br (!intOf (cellAt y0.2.1 1 0) == intOf (cellAt y0.2.1 2 0)) (.at ((0, false))) (.at ((intOf (cellAt y0.2.1 1 0), true))))
            (.no))
           (.no))
          (.at ((0, false))))
         (.no))
        (.at ((0, false))))
       (.no))
      (.at ((0, false))))))
   (.no))
def f_u68q (x0 : Int) (x1 : List AV) : Option B_u68q := lock (tr_u68q x0 x1).ev
theorem f_u68q_eq (x0 : Int) (x1 : List AV) : f_u68q x0 x1 = (tr_u68q x0 x1).ev := lock_eq _
theorem c_u68q : FH IP 71 p_u68q r_u68q (k2 f_u68q) := fun_FH (F := F71) (L := [(1007100, ll_u45q)]) (t := (k2 tr_u68q)) T53_ok (LOk_of (l := [loopAt F71 0]) (by kernel_rfl) ⟨sel_one (by kernel_rfl) t_u45q, trivial⟩) (by kernel_rfl) (fun v => by kernel_rfl) (fun _ => lock_eq _)
def T54 : Tab := (71, FE p_u68q r_u68q (k2 f_u68q)) :: T53
theorem T54_ok : TabOk IP T54 := ⟨FE_ok c_u68q, T53_ok⟩
abbrev B_u159q : Type := Int × Int
def p_u159q : PArgs := ⟨[.agg [.int .i64, .int .i64, .str, .view 4], .view 2], []⟩
def r_u159q : List PRes := [⟨false, .tup [.int .i64, .int .i64], []⟩]
abbrev GT_u159q : Type := Int → Int → (List UInt8) → (List AV) → (List AV) → Option B_u159q
def GH_u159q (G_u159q : GT_u159q) : Prop := FH IP 46 p_u159q r_u159q (k5 G_u159q)
def TG_u159q (G_u159q : GT_u159q) : Tab := (46, FE p_u159q r_u159q (k5 G_u159q)) :: T54
theorem TG_u159q_ok (G_u159q : GT_u159q) (hG : GH_u159q G_u159q) : TabOk IP (TG_u159q G_u159q) := ⟨FE_ok (hG), T54_ok⟩
abbrev TT_u114q : Type := (List AV × List AV × Int × Int × Int × Int × List UInt8 × List AV) ⊕ (List AV × List AV × Int × Int × Int × Int × List UInt8 × List AV × List AV)
def hs_u114q : List PSt := [⟨[(1004600, .junk), (1, .view 2), (2, .ref 0 0 0), (6, .nils 1), (30, .view 4), (31, .int .i64), (32, .int .i64)], [(0, .box [.int .i64, .int .i64, .str, .view 4] false)], 1, 0⟩, ⟨[(1004600, .junk), (1, .view 2), (2, .ref 0 0 0), (6, .own 1 0), (30, .view 4), (31, .int .i64), (32, .int .i64)], [(0, .box [.int .i64, .int .i64, .str, .view 4] false), (1, .arr 1 false)], 2, 0⟩]
def x_u114q_0 (G_u159q : GT_u159q) (x0 x1 : List AV) (x2 x3 : Int) (x4 x5 : Int) (x6 : List UInt8) (x7 : List AV) : X × St := (X.ret,
  {
    tm :=
      [(2, AV.ref 0 0 0), (4, AV.int IntKind.i64 0),
        (5, AV.int IntKind.i64 (gv (G_u159q (intOf (cellAt x1 x3 0)) (intOf (cellAt x1 x3 1)) (strOf (cellAt x1 x3 2)) (viewOf (cellAt x1 x3 3)) x0)).2),
        (6, AV.nils { sz := 1, kd := NKd.nil })],
    hp := [(0, Blk.box [AV.int IntKind.i64 x4, AV.int IntKind.i64 x5, AV.str x6, AV.view 4 x7] false)], nx := 1, k := 0 })
def x_u114q_1 (G_u159q : GT_u159q) (x0 x1 : List AV) (x2 x3 : Int) (x4 x5 : Int) (x6 : List UInt8) (x7 : List AV) : X × St := (X.exit 1,
  { tm := [(2, AV.ref 0 0 0), (4, AV.junk), (5, AV.junk), (6, AV.nils { sz := 1, kd := NKd.nil })],
    hp := [(0, Blk.box [AV.int IntKind.i64 x4, AV.int IntKind.i64 x5, AV.str x6, AV.view 4 x7] false)], nx := 1, k := 0 })
def x_u114q_2 (G_u159q : GT_u159q) (x0 x1 : List AV) (x2 x3 : Int) (x4 x5 : Int) (x6 : List UInt8) (x7 x8 : List AV) : X × St := (X.ret,
  {
    tm :=
      [(2, AV.ref 0 0 0), (4, AV.int IntKind.i64 0),
        (5, AV.int IntKind.i64 (gv (G_u159q (intOf (cellAt x1 x3 0)) (intOf (cellAt x1 x3 1)) (strOf (cellAt x1 x3 2)) (viewOf (cellAt x1 x3 3)) x0)).2),
        (6, AV.own 1 0 none)],
    hp := [(0, Blk.box [AV.int IntKind.i64 x4, AV.int IntKind.i64 x5, AV.str x6, AV.view 4 x7] false), (1, Blk.arr 1 x8 false)], nx := 2, k := 0 })
def x_u114q_3 (G_u159q : GT_u159q) (x0 x1 : List AV) (x2 x3 : Int) (x4 x5 : Int) (x6 : List UInt8) (x7 x8 : List AV) : X × St := (X.exit 1,
  { tm := [(2, AV.ref 0 0 0), (4, AV.junk), (5, AV.junk), (6, AV.own 1 0 none)],
    hp := [(0, Blk.box [AV.int IntKind.i64 x4, AV.int IntKind.i64 x5, AV.str x6, AV.view 4 x7] false), (1, Blk.arr 1 x8 false)], nx := 2, k := 0 })
def x_u114q (G_u159q : GT_u159q) : List (TT_u114q → X × St) := [fun w => (k8 (x_u114q_0 G_u159q)) ((sl w)), fun w => (k8 (x_u114q_1 G_u159q)) ((sl w)), fun w => (k9 (x_u114q_2 G_u159q)) ((sr w)), fun w => (k9 (x_u114q_3 G_u159q)) ((sr w))]
def st_u114q_0 (G_u159q : GT_u159q) (x0 x1 : List AV) (x2 x3 : Int) (x4 x5 : Int) (x6 : List UInt8) (x7 : List AV) : DT (Rd TT_u114q) :=
 .br (decide (x3 < x2))
  (.br (okAt [CS.int IntKind.i64, CS.int IntKind.i64, CS.str, CS.slice 4] x1 x3)
   (.bi (G_u159q (intOf (cellAt x1 x3 0)) (intOf (cellAt x1 x3 1)) (strOf (cellAt x1 x3 2)) (viewOf (cellAt x1 x3 3)) x0) (fun y0 =>
    .br (y0.2 != 0) (.at (.done 0)) (.at (.next ((.inr (x0, x1, x2, IntKind.i64.wrap (x3 + 1), x4, x5, x6, x7, [AV.int IntKind.i64 y0.1]))))))
    (.no))
   (.no))
  (.at (.done 1))
def st_u114q_1 (G_u159q : GT_u159q) (x0 x1 : List AV) (x2 x3 : Int) (x4 x5 : Int) (x6 : List UInt8) (x7 x8 : List AV) : DT (Rd TT_u114q) :=
 .br (decide (x3 < x2))
  (.br (okAt [CS.int IntKind.i64, CS.int IntKind.i64, CS.str, CS.slice 4] x1 x3)
   (.bi (G_u159q (intOf (cellAt x1 x3 0)) (intOf (cellAt x1 x3 1)) (strOf (cellAt x1 x3 2)) (viewOf (cellAt x1 x3 3)) x0) (fun y0 =>
    .br (y0.2 != 0)
     (.at (.done 2))
     (.br (room (x8.length + 1) 8) (.at (.next ((.inr (x0, x1, x2, IntKind.i64.wrap (x3 + 1), x4, x5, x6, x7, x8 ++ [AV.int IntKind.i64 y0.1]))))) (.no)))
    (.no))
   (.no))
  (.at (.done 3))
def st_u114q (G_u159q : GT_u159q) : TT_u114q → DT (Rd TT_u114q) := (Sum.elim (fun v => st_u114q_0 G_u159q v.1 v.2.1 v.2.2.1 v.2.2.2.1 v.2.2.2.2.1 v.2.2.2.2.2.1 v.2.2.2.2.2.2.1 v.2.2.2.2.2.2.2) (fun v => st_u114q_1 G_u159q v.1 v.2.1 v.2.2.1 v.2.2.2.1 v.2.2.2.2.1 v.2.2.2.2.2.1 v.2.2.2.2.2.2.1 v.2.2.2.2.2.2.2.1 v.2.2.2.2.2.2.2.2))
def l_u114q (G_u159q : GT_u159q) (v : TT_u114q) : Option (Nat × TT_u114q) := lock (iterO (fun v => (st_u114q G_u159q v).ev) v)
theorem l_u114q_eq (G_u159q : GT_u159q) (v : TT_u114q) : l_u114q G_u159q v = iterO (fun v => (st_u114q G_u159q v).ev) v := lock_eq _
def ll_u114q (G_u159q : GT_u159q) : LEnt := LE (τ := TT_u114q) (hD hs_u114q) (l_u114q G_u159q) (x_u114q G_u159q)
theorem t_u114q (G_u159q : GT_u159q) (hG : GH_u159q G_u159q) : Go.Eng.Told IP (loopAt F46 0).1 (loopAt F46 0).2 (ll_u114q G_u159q) := loop_LE (inferInstance : Inhabited TT_u114q) (hs := hs_u114q) (st := st_u114q G_u159q) (L := []) (TG_u159q_ok G_u159q hG) (LOk_of (l := []) (by kernel_rfl) trivial) (l_u114q_eq G_u159q) (fun v => match v with | (.inl v) => by kernel_rfl | (.inr v) => by kernel_rfl) (fun v => match v with | (.inl v) => by kernel_rfl | (.inr v) => by kernel_rfl)
def tr_u159q (G_u159q : GT_u159q) (x0 x1 : Int) (x2 : List UInt8) (x3 x4 : List AV) : DT B_u159q :=
 .br (x0 == 1)
  (.at ((1, 0)))
  (.br (x0 == 2)
   (.at ((2, 0)))
   (.br (x0 == 3)
    (.at ((3, 0)))
    (.br (x0 == 4)
     (.bi (f_u46q x2 x4) (fun y0 =>
      .at ((y0.1, y0.2)))
      (.no))
     (.bi (pj 0 (l_u114q G_u159q (Sum.inl (x4, x3, (↑x3.length : Int), 0, x0, x1, x2, x3)))) (fun y0 =>
      .at ((0, (gv
    (G_u159q (intOf (cellAt (sl y0).2.1 (sl y0).2.2.2.1 0)) (intOf (cellAt (sl y0).2.1 (sl y0).2.2.2.1 1))
      (strOf (cellAt (sl y0).2.1 (sl y0).2.2.2.1 2)) (viewOf (cellAt (sl y0).2.1 (sl y0).2.2.2.1 3)) (sl y0).1)).2)))
      (.bi (pj 1 (l_u114q G_u159q (Sum.inl (x4, x3, (↑x3.length : Int), 0, x0, x1, x2, x3)))) (fun y0 =>
       .bi (f_u68q (sl y0).2.2.2.2.1 []) (fun y1 =>
        .br (!y1.2) (.at ((0, 3))) (.at ((y1.1, 0))))
        (.no))
       (.bi (pj 2 (l_u114q G_u159q (Sum.inl (x4, x3, (↑x3.length : Int), 0, x0, x1, x2, x3)))) (fun y0 =>
        .at ((0, (gv
    (G_u159q (intOf (cellAt (sr y0).2.1 (sr y0).2.2.2.1 0)) (intOf (cellAt (sr y0).2.1 (sr y0).2.2.2.1 1))
      (strOf (cellAt (sr y0).2.1 (sr y0).2.2.2.1 2)) (viewOf (cellAt (sr y0).2.1 (sr y0).2.2.2.1 3)) (sr y0).1)).2)))
        (.bi (pj 3 (l_u114q G_u159q (Sum.inl (x4, x3, (↑x3.length : Int), 0, x0, x1, x2, x3)))) (fun y0 =>
         .bi (f_u68q (sr y0).2.2.2.2.1 (sr y0).2.2.2.2.2.2.2.2) (fun y1 =>
          .br (!y1.2) (.at ((0, 3))) (.at ((y1.1, 0))))
          (.no))
         (.no))))))))
def N_u159q : Nat → GT_u159q
  | 0 => fun _ _ _ _ _ => none
  | n + 1 => fun x0 x1 x2 x3 x4 => (tr_u159q ((N_u159q n)) x0 x1 x2 x3 x4).ev
def f_u159q (x0 x1 : Int) (x2 : List UInt8) (x3 x4 : List AV) : Option B_u159q := limO fun n => (N_u159q n) x0 x1 x2 x3 x4
theorem N_u159q_ok : ∀ n, GH_u159q ((N_u159q n))
  | 0 => (fun v y h => nomatch h)
  | n + 1 => have hG := N_u159q_ok n
    fun_FH (F := F46) (L := [(1004600, ll_u114q ((N_u159q n)))]) (t := (k5 (tr_u159q ((N_u159q n))))) (TG_u159q_ok ((N_u159q n)) hG) (LOk_of (l := [loopAt F46 0]) (by kernel_rfl) ⟨sel_one (by kernel_rfl) (t_u114q ((N_u159q n)) hG), trivial⟩) (by kernel_rfl) (fun v => by kernel_rfl) (fun v => rfl)
theorem c_u159q : FH IP 46 p_u159q r_u159q (k5 f_u159q) := lim_FH (p := p_u159q) (rs := r_u159q) (s := fun n => (k5 ((N_u159q n)))) fun n => (N_u159q_ok n)
def T55 : Tab := (46, FE p_u159q r_u159q (k5 f_u159q)) :: T54
theorem T55_ok : TabOk IP T55 := ⟨FE_ok c_u159q, T54_ok⟩
abbrev B_u158q : Type := Int × Int
def p_u158q : PArgs := ⟨[.agg [.int .i64, .int .i64, .str, .view 4], .view 2], []⟩
def r_u158q : List PRes := [⟨false, .tup [.int .i64, .int .i64], []⟩]
def tr_u158q (x0 x1 : Int) (x2 : List UInt8) (x3 x4 : List AV) : DT B_u158q :=
 .bi (f_u60q x0 x1 x2 x3) (fun y0 =>
  .br (y0 != 0)
   (.at ((0, y0)))
   (.bi (f_u159q x0 x1 x2 x3 x4) (fun y1 =>
    .at ((y1.1, y1.2)))
    (.no)))
  (.no)
def f_u158q (x0 x1 : Int) (x2 : List UInt8) (x3 x4 : List AV) : Option B_u158q := lock (tr_u158q x0 x1 x2 x3 x4).ev
theorem f_u158q_eq (x0 x1 : Int) (x2 : List UInt8) (x3 x4 : List AV) : f_u158q x0 x1 x2 x3 x4 = (tr_u158q x0 x1 x2 x3 x4).ev := lock_eq _
theorem c_u158q : FH IP 30 p_u158q r_u158q (k5 f_u158q) := fun_FH (F := F30) (L := []) (t := (k5 tr_u158q)) T55_ok (LOk_of (l := []) (by kernel_rfl) trivial) (by kernel_rfl) (fun v => by kernel_rfl) (fun _ => lock_eq _)
def T56 : Tab := (30, FE p_u158q r_u158q (k5 f_u158q)) :: T55
theorem T56_ok : TabOk IP T56 := ⟨FE_ok c_u158q, T55_ok⟩
abbrev B_u27q : Type := Int × List AV × List AV
def p_u27q : PArgs := ⟨[.ref 0 0 0, .int .i64, .int .i64, .int .i64], [(0, .box [.view 2, .nils 3] false)]⟩
def r_u27q : List PRes := [⟨false, .int .i64, [(0, .box [.view 2, .own 1 0] false), (1, .arr 3 false)]⟩]
def tr_u27q (x0 x1 x2 : Int) (x3 : List AV) : DT B_u27q :=
 .at ((IntKind.i64.wrap ((↑1 : Int) - 1), x3, [AV.agg [AV.int IntKind.i64 x0, AV.int IntKind.i64 x1, AV.int IntKind.i64 x2]]))
def f_u27q (x0 x1 x2 : Int) (x3 : List AV) : Option B_u27q := lock (tr_u27q x0 x1 x2 x3).ev
theorem f_u27q_eq (x0 x1 x2 : Int) (x3 : List AV) : f_u27q x0 x1 x2 x3 = (tr_u27q x0 x1 x2 x3).ev := lock_eq _
theorem c_u27q : FH IP 47 p_u27q r_u27q (k4 f_u27q) := fun_FH (F := F47) (L := []) (t := (k4 tr_u27q)) T56_ok (LOk_of (l := []) (by kernel_rfl) trivial) (by kernel_rfl) (fun v => by kernel_rfl) (fun _ => lock_eq _)
def T57 : Tab := (47, FE p_u27q r_u27q (k4 f_u27q)) :: T56
theorem T57_ok : TabOk IP T57 := ⟨FE_ok c_u27q, T56_ok⟩
abbrev B_u23q : Type := Bool
def p_u23q : PArgs := ⟨[.agg [.str, .int .i64], .ptr [.int .i64, .int .i64, .str, .view 4]], []⟩
def r_u23q : List PRes := [⟨false, .bool, []⟩]
def tr_u23q (x0 : List UInt8) (x1 x2 x3 : Int) (x4 : List UInt8) (x5 : List AV) : DT B_u23q :=
 .at (x0 == x4)
def f_u23q (x0 : List UInt8) (x1 x2 x3 : Int) (x4 : List UInt8) (x5 : List AV) : Option B_u23q := lock (tr_u23q x0 x1 x2 x3 x4 x5).ev
theorem f_u23q_eq (x0 : List UInt8) (x1 x2 x3 : Int) (x4 : List UInt8) (x5 : List AV) : f_u23q x0 x1 x2 x3 x4 x5 = (tr_u23q x0 x1 x2 x3 x4 x5).ev := lock_eq _
theorem c_u23q : FH IP 49 p_u23q r_u23q (k6 f_u23q) := fun_FH (F := F49) (L := []) (t := (k6 tr_u23q)) T57_ok (LOk_of (l := []) (by kernel_rfl) trivial) (by kernel_rfl) (fun v => by kernel_rfl) (fun _ => lock_eq _)
def T58 : Tab := (49, FE p_u23q r_u23q (k6 f_u23q)) :: T57
theorem T58_ok : TabOk IP T58 := ⟨FE_ok c_u23q, T57_ok⟩
end
end Go.Proofs.H12

/- Functions over plain data. Printed by a program of mine. -/
import Derived.Test.YtlgbnjnkcoiceaaGreatDoorE3
import Derived.Test.YtlgbnjnkcoiceaaGreatDoorIP12
import Derived.KernelRfl
set_option linter.unusedVariables false
set_option linter.unusedSimpArgs false
set_option linter.unnecessarySimpa false
namespace Go.Proofs.H12
open Go Go.Eng
set_option maxRecDepth 100000
noncomputable section
abbrev k2 {a0 a1 r : Type} (f : a0 → a1 → r) (v : a0 × a1) : r := f v.1 v.2
abbrev k3 {a0 a1 a2 r : Type} (f : a0 → a1 → a2 → r) (v : a0 × a1 × a2) : r := f v.1 v.2.1 v.2.2
abbrev k4 {a0 a1 a2 a3 r : Type} (f : a0 → a1 → a2 → a3 → r) (v : a0 × a1 × a2 × a3) : r := f v.1 v.2.1 v.2.2.1 v.2.2.2
abbrev k5 {a0 a1 a2 a3 a4 r : Type} (f : a0 → a1 → a2 → a3 → a4 → r) (v : a0 × a1 × a2 × a3 × a4) : r := f v.1 v.2.1 v.2.2.1 v.2.2.2.1 v.2.2.2.2
abbrev k6 {a0 a1 a2 a3 a4 a5 r : Type} (f : a0 → a1 → a2 → a3 → a4 → a5 → r) (v : a0 × a1 × a2 × a3 × a4 × a5) : r := f v.1 v.2.1 v.2.2.1 v.2.2.2.1 v.2.2.2.2.1 v.2.2.2.2.2
abbrev k7 {a0 a1 a2 a3 a4 a5 a6 r : Type} (f : a0 → a1 → a2 → a3 → a4 → a5 → a6 → r) (v : a0 × a1 × a2 × a3 × a4 × a5 × a6) : r := f v.1 v.2.1 v.2.2.1 v.2.2.2.1 v.2.2.2.2.1 v.2.2.2.2.2.1 v.2.2.2.2.2.2
abbrev k8 {a0 a1 a2 a3 a4 a5 a6 a7 r : Type} (f : a0 → a1 → a2 → a3 → a4 → a5 → a6 → a7 → r) (v : a0 × a1 × a2 × a3 × a4 × a5 × a6 × a7) : r := f v.1 v.2.1 v.2.2.1 v.2.2.2.1 v.2.2.2.2.1 v.2.2.2.2.2.1 v.2.2.2.2.2.2.1 v.2.2.2.2.2.2.2
abbrev k9 {a0 a1 a2 a3 a4 a5 a6 a7 a8 r : Type} (f : a0 → a1 → a2 → a3 → a4 → a5 → a6 → a7 → a8 → r) (v : a0 × a1 × a2 × a3 × a4 × a5 × a6 × a7 × a8) : r := f v.1 v.2.1 v.2.2.1 v.2.2.2.1 v.2.2.2.2.1 v.2.2.2.2.2.1 v.2.2.2.2.2.2.1 v.2.2.2.2.2.2.2.1 v.2.2.2.2.2.2.2.2
def T0 : Tab := [(104, countE), (132, fieldsE), (134, idxE), (130, parseE 169), (143, atoiE 169), (56, itoa1E), (32, cloneE 2 24), (89, cloneE 1 8)]
theorem T0_ok : TabOk IP T0 := ⟨sp104, sp132, sp134, sp130, sp143, sp56, sp32, sp89, trivial⟩
abbrev B_u140q : Type := Bool
def p_u140q : PArgs := ⟨[.agg [.int .i64, .int .i64, .str, .view 4], .int .i64], []⟩
def r_u140q : List PRes := [⟨false, .bool, []⟩]
abbrev GT_u140q : Type := Int → Int → (List UInt8) → (List AV) → Int → Option B_u140q
def GH_u140q (G_u140q : GT_u140q) : Prop := FH IP 27 p_u140q r_u140q (k5 G_u140q)
def TG_u140q (G_u140q : GT_u140q) : Tab := (27, FE p_u140q r_u140q (k5 G_u140q)) :: T0
theorem TG_u140q_ok (G_u140q : GT_u140q) (hG : GH_u140q G_u140q) : TabOk IP (TG_u140q G_u140q) := ⟨FE_ok (hG), T0_ok⟩
abbrev TT_u95q : Type := Int × Int × Int × Int × List UInt8 × List AV
def hs_u95q : List PSt := [⟨[(1002700, .junk), (1, .int .i64), (2, .ref 0 0 0), (5, .int .i64)], [(0, .box [.int .i64, .int .i64, .str, .view 4] false)], 1, 0⟩]
def x_u95q_0 (x0 x1 : Int) (x2 x3 : Int) (x4 : List UInt8) (x5 : List AV) : X × St := (X.ret, { tm := [(4, AV.bool false)], hp := [], nx := 0, k := 0 })
def x_u95q_1 (x0 x1 : Int) (x2 x3 : Int) (x4 : List UInt8) (x5 : List AV) : X × St := (X.exit 0, { tm := [(4, AV.junk)], hp := [], nx := 0, k := 0 })
def x_u95q : List (TT_u95q → X × St) := [(k6 x_u95q_0), (k6 x_u95q_1)]
def st_u95q_0 (G_u140q : GT_u140q) (x0 x1 : Int) (x2 x3 : Int) (x4 : List UInt8) (x5 : List AV) : DT (Rd TT_u95q) :=
 .br (decide (x1 < (↑x5.length : Int)))
  (.br (okAt [CS.int IntKind.i64, CS.int IntKind.i64, CS.str, CS.slice 4] x5 x1)
   (.bi (G_u140q (intOf (cellAt x5 x1 0)) (intOf (cellAt x5 x1 1)) (strOf (cellAt x5 x1 2)) (viewOf (cellAt x5 x1 3)) (IntKind.i64.wrap (x0 - 1))) (fun y0 =>
    .br (!y0) (.at (.done 0)) (.at (.next ((x0, IntKind.i64.wrap (x1 + 1), x2, x3, x4, x5)))))
    (.no))
   (.no))
  (.at (.done 1))
def st_u95q (G_u140q : GT_u140q) : TT_u95q → DT (Rd TT_u95q) := (fun v => st_u95q_0 G_u140q v.1 v.2.1 v.2.2.1 v.2.2.2.1 v.2.2.2.2.1 v.2.2.2.2.2)
def l_u95q (G_u140q : GT_u140q) (v : TT_u95q) : Option (Nat × TT_u95q) := lock (iterO (fun v => (st_u95q G_u140q v).ev) v)
theorem l_u95q_eq (G_u140q : GT_u140q) (v : TT_u95q) : l_u95q G_u140q v = iterO (fun v => (st_u95q G_u140q v).ev) v := lock_eq _
def ll_u95q (G_u140q : GT_u140q) : LEnt := LE (τ := TT_u95q) (hD hs_u95q) (l_u95q G_u140q) x_u95q
theorem t_u95q (G_u140q : GT_u140q) (hG : GH_u140q G_u140q) : Go.Eng.Told IP (loopAt F27 0).1 (loopAt F27 0).2 (ll_u95q G_u140q) := loop_LE (inferInstance : Inhabited TT_u95q) (hs := hs_u95q) (st := st_u95q G_u140q) (L := []) (TG_u140q_ok G_u140q hG) (LOk_of (l := []) (by kernel_rfl) trivial) (l_u95q_eq G_u140q) (fun v => by kernel_rfl) (fun v => by kernel_rfl)
def tr_u140q (G_u140q : GT_u140q) (x0 x1 : Int) (x2 : List UInt8) (x3 : List AV) (x4 : Int) : DT B_u140q :=
 .bi (br (x4 == 0) (some true) (some (decide ((↑x3.length : Int) > 8)))) (fun y0 =>
  .bi (br y0 (some true) (some (decide ((↑x2.length : Int) > 40)))) (fun y1 =>
   .br (y1)
    (.at (false))
    (.bi (pj 0 (l_u95q G_u140q (x4, 0, x0, x1, x2, x3))) (fun y2 =>
     .at (false))
     (.bi (pj 1 (l_u95q G_u140q (x4, 0, x0, x1, x2, x3))) (fun y2 =>
      .at (true))
      (.no))))
   (.no))
  (.no)
def N_u140q : Nat → GT_u140q
  | 0 => fun _ _ _ _ _ => none
  | n + 1 => fun x0 x1 x2 x3 x4 => (tr_u140q ((N_u140q n)) x0 x1 x2 x3 x4).ev
def f_u140q (x0 x1 : Int) (x2 : List UInt8) (x3 : List AV) (x4 : Int) : Option B_u140q := limO fun n => (N_u140q n) x0 x1 x2 x3 x4
theorem N_u140q_ok : ∀ n, GH_u140q ((N_u140q n))
  | 0 => (fun v y h => nomatch h)
  | n + 1 => have hG := N_u140q_ok n
    fun_FH (F := F27) (L := [(1002700, ll_u95q ((N_u140q n)))]) (t := (k5 (tr_u140q ((N_u140q n))))) (TG_u140q_ok ((N_u140q n)) hG) (LOk_of (l := [loopAt F27 0]) (by kernel_rfl) ⟨sel_one (by kernel_rfl) (t_u95q ((N_u140q n)) hG), trivial⟩) (by kernel_rfl) (fun v => by kernel_rfl) (fun v => rfl)
theorem c_u140q : FH IP 27 p_u140q r_u140q (k5 f_u140q) := lim_FH (p := p_u140q) (rs := r_u140q) (s := fun n => (k5 ((N_u140q n)))) fun n => (N_u140q_ok n)
def T1 : Tab := (27, FE p_u140q r_u140q (k5 f_u140q)) :: T0
theorem T1_ok : TabOk IP T1 := ⟨FE_ok c_u140q, T0_ok⟩
abbrev B_u147q : Type := Int
def p_u147q : PArgs := ⟨[.agg [.int .i64, .int .i64, .str, .view 4]], []⟩
def r_u147q : List PRes := [⟨false, .int .i64, []⟩]
abbrev GT_u147q : Type := Int → Int → (List UInt8) → (List AV) → Option B_u147q
def GH_u147q (G_u147q : GT_u147q) : Prop := FH IP 25 p_u147q r_u147q (k4 G_u147q)
def TG_u147q (G_u147q : GT_u147q) : Tab := (25, FE p_u147q r_u147q (k4 G_u147q)) :: T1
theorem TG_u147q_ok (G_u147q : GT_u147q) (hG : GH_u147q G_u147q) : TabOk IP (TG_u147q G_u147q) := ⟨FE_ok (hG), T1_ok⟩
abbrev TT_u99q : Type := Int × Int × Int × Int × List UInt8 × List AV
def hs_u99q : List PSt := [⟨[(1002500, .junk), (1, .ref 0 0 0), (3, .int .i64), (4, .int .i64)], [(0, .box [.int .i64, .int .i64, .str, .view 4] false)], 1, 0⟩]
def x_u99q_0 (x0 x1 : Int) (x2 x3 : Int) (x4 : List UInt8) (x5 : List AV) : X × St := (X.exit 0, { tm := [(3, AV.int IntKind.i64 x0)], hp := [], nx := 0, k := 0 })
def x_u99q : List (TT_u99q → X × St) := [(k6 x_u99q_0)]
def st_u99q_0 (G_u147q : GT_u147q) (x0 x1 : Int) (x2 x3 : Int) (x4 : List UInt8) (x5 : List AV) : DT (Rd TT_u99q) :=
 .br (decide (x1 < (↑x5.length : Int)))
  (.br (okAt [CS.int IntKind.i64, CS.int IntKind.i64, CS.str, CS.slice 4] x5 x1)
   (.bi (G_u147q (intOf (cellAt x5 x1 0)) (intOf (cellAt x5 x1 1)) (strOf (cellAt x5 x1 2)) (viewOf (cellAt x5 x1 3))) (fun y0 =>
    .at (.next ((IntKind.i64.wrap (x0 + y0), IntKind.i64.wrap (x1 + 1), x2, x3, x4, x5))))
    (.no))
   (.no))
  (.at (.done 0))
def st_u99q (G_u147q : GT_u147q) : TT_u99q → DT (Rd TT_u99q) := (fun v => st_u99q_0 G_u147q v.1 v.2.1 v.2.2.1 v.2.2.2.1 v.2.2.2.2.1 v.2.2.2.2.2)
def l_u99q (G_u147q : GT_u147q) (v : TT_u99q) : Option (Nat × TT_u99q) := lock (iterO (fun v => (st_u99q G_u147q v).ev) v)
theorem l_u99q_eq (G_u147q : GT_u147q) (v : TT_u99q) : l_u99q G_u147q v = iterO (fun v => (st_u99q G_u147q v).ev) v := lock_eq _
def ll_u99q (G_u147q : GT_u147q) : LEnt := LE (τ := TT_u99q) (hD hs_u99q) (l_u99q G_u147q) x_u99q
theorem t_u99q (G_u147q : GT_u147q) (hG : GH_u147q G_u147q) : Go.Eng.Told IP (loopAt F25 0).1 (loopAt F25 0).2 (ll_u99q G_u147q) := loop_LE (inferInstance : Inhabited TT_u99q) (hs := hs_u99q) (st := st_u99q G_u147q) (L := []) (TG_u147q_ok G_u147q hG) (LOk_of (l := []) (by kernel_rfl) trivial) (l_u99q_eq G_u147q) (fun v => by kernel_rfl) (fun v => by kernel_rfl)
def tr_u147q (G_u147q : GT_u147q) (x0 x1 : Int) (x2 : List UInt8) (x3 : List AV) : DT B_u147q :=
 .bi (pj 0 (l_u99q G_u147q (1, 0, x0, x1, x2, x3))) (fun y0 =>
  .at (y0.1))
  (.no)
def N_u147q : Nat → GT_u147q
  | 0 => fun _ _ _ _ => none
  | n + 1 => fun x0 x1 x2 x3 => (tr_u147q ((N_u147q n)) x0 x1 x2 x3).ev
def f_u147q (x0 x1 : Int) (x2 : List UInt8) (x3 : List AV) : Option B_u147q := limO fun n => (N_u147q n) x0 x1 x2 x3
theorem N_u147q_ok : ∀ n, GH_u147q ((N_u147q n))
  | 0 => (fun v y h => nomatch h)
  | n + 1 => have hG := N_u147q_ok n
    fun_FH (F := F25) (L := [(1002500, ll_u99q ((N_u147q n)))]) (t := (k4 (tr_u147q ((N_u147q n))))) (TG_u147q_ok ((N_u147q n)) hG) (LOk_of (l := [loopAt F25 0]) (by kernel_rfl) ⟨sel_one (by kernel_rfl) (t_u99q ((N_u147q n)) hG), trivial⟩) (by kernel_rfl) (fun v => by kernel_rfl) (fun v => rfl)
theorem c_u147q : FH IP 25 p_u147q r_u147q (k4 f_u147q) := lim_FH (p := p_u147q) (rs := r_u147q) (s := fun n => (k4 ((N_u147q n)))) fun n => (N_u147q_ok n)
def T2 : Tab := (25, FE p_u147q r_u147q (k4 f_u147q)) :: T1
theorem T2_ok : TabOk IP T2 := ⟨FE_ok c_u147q, T1_ok⟩
abbrev B_u142q : Type := Bool
def p_u142q : PArgs := ⟨[.agg [.int .i64, .int .i64, .str, .view 4]], []⟩
def r_u142q : List PRes := [⟨false, .bool, []⟩]
def tr_u142q (x0 x1 : Int) (x2 : List UInt8) (x3 : List AV) : DT B_u142q :=
 .bi (f_u140q x0 x1 x2 x3 20) (fun y0 =>
  .bi (br y0 (br (sm (f_u147q x0 x1 x2 x3)) (some (decide (gv (f_u147q x0 x1 x2 x3) ≤ 150))) none) (some false)) (fun y1 =>
   .at (y1))
   (.no))
  (.no)
def f_u142q (x0 x1 : Int) (x2 : List UInt8) (x3 : List AV) : Option B_u142q := lock (tr_u142q x0 x1 x2 x3).ev
theorem c_u142q : FH IP 10 p_u142q r_u142q (k4 f_u142q) := fun_FH (F := F10) (L := []) (t := (k4 tr_u142q)) T2_ok (LOk_of (l := []) (by kernel_rfl) trivial) (by kernel_rfl) (fun v => by kernel_rfl) (fun _ => lock_eq _)
def T3 : Tab := (10, FE p_u142q r_u142q (k4 f_u142q)) :: T2
theorem T3_ok : TabOk IP T3 := ⟨FE_ok c_u142q, T2_ok⟩
abbrev B_u115q : Type := Int × Int × List UInt8 × List AV × List AV
def p_u115q : PArgs := ⟨[], []⟩
def r_u115q : List PRes := [⟨false, .tup [.agg [.int .i64, .int .i64, .str, .view 4], .view 2], []⟩]
def tr_u115q : DT B_u115q :=
 .at ((19, 0, [], [AV.agg
    [AV.int IntKind.i64 12, AV.int IntKind.i64 0, AV.str [],
      AV.view 4
        [AV.agg [AV.int IntKind.i64 4, AV.int IntKind.i64 0, AV.str [97, 103, 101], AV.view 4 []], AV.agg [AV.int IntKind.i64 1, AV.int IntKind.i64 5, AV.str [], AV.view 4 []]]],
  AV.agg [AV.int IntKind.i64 2, AV.int IntKind.i64 3, AV.str [], AV.view 4 []],
  AV.agg [AV.int IntKind.i64 4, AV.int IntKind.i64 0, AV.str [97, 109, 111, 117, 110, 116], AV.view 4 []]], [AV.agg [AV.str [97, 103, 101], AV.int IntKind.i64 1], AV.agg [AV.str [97, 109, 111, 117, 110, 116], AV.int IntKind.i64 2]]))
def f_u115q : Option B_u115q := lock (tr_u115q).ev
theorem f_u115q_eq : f_u115q = (tr_u115q).ev := lock_eq _
theorem c_u115q : FH IP 28 p_u115q r_u115q (fun _ => f_u115q) := fun_FH (F := F28) (L := []) (t := (fun _ => tr_u115q)) T3_ok (LOk_of (l := []) (by kernel_rfl) trivial) (by kernel_rfl) (fun v => by kernel_rfl) (fun _ => lock_eq _)
def T4 : Tab := (28, FE p_u115q r_u115q (fun _ => f_u115q)) :: T3
theorem T4_ok : TabOk IP T4 := ⟨FE_ok c_u115q, T3_ok⟩
abbrev B_u131q : Type := Int
def p_u131q : PArgs := ⟨[.agg [.int .i64, .int .i64, .str, .view 4]], []⟩
def r_u131q : List PRes := [⟨false, .int .i64, []⟩]
abbrev GT_u131q : Type := Int → Int → (List UInt8) → (List AV) → Option B_u131q
def GH_u131q (G_u131q : GT_u131q) : Prop := FH IP 65 p_u131q r_u131q (k4 G_u131q)
def TG_u131q (G_u131q : GT_u131q) : Tab := (65, FE p_u131q r_u131q (k4 G_u131q)) :: T4
theorem TG_u131q_ok (G_u131q : GT_u131q) (hG : GH_u131q G_u131q) : TabOk IP (TG_u131q G_u131q) := ⟨FE_ok (hG), T4_ok⟩
abbrev TT_u84q : Type := Int × List AV × Int × Int
def hs_u84q : List PSt := [⟨[(1006500, .junk), (3, .int .i64), (7, .view 4), (8, .int .i64), (9, .int .i64)], [], 0, 0⟩]
def x_u84q_0 (x0 : Int) (x1 : List AV) (x2 x3 : Int) : X × St := (X.exit 0, { tm := [(3, AV.int IntKind.i64 x0)], hp := [], nx := 0, k := 0 })
def x_u84q : List (TT_u84q → X × St) := [(k4 x_u84q_0)]
def st_u84q_0 (G_u131q : GT_u131q) (x0 : Int) (x1 : List AV) (x2 x3 : Int) : DT (Rd TT_u84q) :=
 .br (decide (x3 < x2))
  (.br (okAt [CS.int IntKind.i64, CS.int IntKind.i64, CS.str, CS.slice 4] x1 x3)
   (.bi (G_u131q (intOf (cellAt x1 x3 0)) (intOf (cellAt x1 x3 1)) (strOf (cellAt x1 x3 2)) (viewOf (cellAt x1 x3 3))) (fun y0 =>
    .at (.next ((IntKind.i64.wrap (x0 + y0), x1, x2, IntKind.i64.wrap (x3 + 1)))))
    (.no))
   (.no))
  (.at (.done 0))
def st_u84q (G_u131q : GT_u131q) : TT_u84q → DT (Rd TT_u84q) := (fun v => st_u84q_0 G_u131q v.1 v.2.1 v.2.2.1 v.2.2.2)
def l_u84q (G_u131q : GT_u131q) (v : TT_u84q) : Option (Nat × TT_u84q) := lock (iterO (fun v => (st_u84q G_u131q v).ev) v)
theorem l_u84q_eq (G_u131q : GT_u131q) (v : TT_u84q) : l_u84q G_u131q v = iterO (fun v => (st_u84q G_u131q v).ev) v := lock_eq _
def ll_u84q (G_u131q : GT_u131q) : LEnt := LE (τ := TT_u84q) (hD hs_u84q) (l_u84q G_u131q) x_u84q
theorem t_u84q (G_u131q : GT_u131q) (hG : GH_u131q G_u131q) : Go.Eng.Told IP (loopAt F65 0).1 (loopAt F65 0).2 (ll_u84q G_u131q) := loop_LE (inferInstance : Inhabited TT_u84q) (hs := hs_u84q) (st := st_u84q G_u131q) (L := []) (TG_u131q_ok G_u131q hG) (LOk_of (l := []) (by kernel_rfl) trivial) (l_u84q_eq G_u131q) (fun v => by kernel_rfl) (fun v => by kernel_rfl)
def tr_u131q (G_u131q : GT_u131q) (x0 x1 : Int) (x2 : List UInt8) (x3 : List AV) : DT B_u131q :=
 .bi (pj 0 (l_u84q G_u131q (1, x3, (↑x3.length : Int), 0))) (fun y0 =>
  .at (y0.1))
  (.no)
def N_u131q : Nat → GT_u131q
  | 0 => fun _ _ _ _ => none
  | n + 1 => fun x0 x1 x2 x3 => (tr_u131q ((N_u131q n)) x0 x1 x2 x3).ev
def f_u131q (x0 x1 : Int) (x2 : List UInt8) (x3 : List AV) : Option B_u131q := limO fun n => (N_u131q n) x0 x1 x2 x3
theorem N_u131q_ok : ∀ n, GH_u131q ((N_u131q n))
  | 0 => (fun v y h => nomatch h)
  | n + 1 => have hG := N_u131q_ok n
    fun_FH (F := F65) (L := [(1006500, ll_u84q ((N_u131q n)))]) (t := (k4 (tr_u131q ((N_u131q n))))) (TG_u131q_ok ((N_u131q n)) hG) (LOk_of (l := [loopAt F65 0]) (by kernel_rfl) ⟨sel_one (by kernel_rfl) (t_u84q ((N_u131q n)) hG), trivial⟩) (by kernel_rfl) (fun v => by kernel_rfl) (fun v => rfl)
theorem c_u131q : FH IP 65 p_u131q r_u131q (k4 f_u131q) := lim_FH (p := p_u131q) (rs := r_u131q) (s := fun n => (k4 ((N_u131q n)))) fun n => (N_u131q_ok n)
def T5 : Tab := (65, FE p_u131q r_u131q (k4 f_u131q)) :: T4
theorem T5_ok : TabOk IP T5 := ⟨FE_ok c_u131q, T4_ok⟩
abbrev B_u132q : Type := Int
def p_u132q : PArgs := ⟨[.agg [.int .i64, .int .i64, .str, .view 4]], []⟩
def r_u132q : List PRes := [⟨false, .int .i64, []⟩]
abbrev GT_u132q : Type := Int → Int → (List UInt8) → (List AV) → Option B_u132q
def GH_u132q (G_u132q : GT_u132q) : Prop := FH IP 66 p_u132q r_u132q (k4 G_u132q)
def TG_u132q (G_u132q : GT_u132q) : Tab := (66, FE p_u132q r_u132q (k4 G_u132q)) :: T5
theorem TG_u132q_ok (G_u132q : GT_u132q) (hG : GH_u132q G_u132q) : TabOk IP (TG_u132q G_u132q) := ⟨FE_ok (hG), T5_ok⟩
abbrev TT_u85q : Type := Int × List AV × Int × Int
def hs_u85q : List PSt := [⟨[(1006600, .junk), (3, .int .i64), (7, .view 4), (8, .int .i64), (9, .int .i64)], [], 0, 0⟩]
def x_u85q_0 (x0 : Int) (x1 : List AV) (x2 x3 : Int) : X × St := (X.exit 0, { tm := [(3, AV.int IntKind.i64 x0)], hp := [], nx := 0, k := 0 })
def x_u85q : List (TT_u85q → X × St) := [(k4 x_u85q_0)]
def st_u85q_0 (G_u132q : GT_u132q) (x0 : Int) (x1 : List AV) (x2 x3 : Int) : DT (Rd TT_u85q) :=
 .br (decide (x3 < x2))
  (.br (okAt [CS.int IntKind.i64, CS.int IntKind.i64, CS.str, CS.slice 4] x1 x3)
   (.bi (G_u132q (intOf (cellAt x1 x3 0)) (intOf (cellAt x1 x3 1)) (strOf (cellAt x1 x3 2)) (viewOf (cellAt x1 x3 3))) (fun y0 =>
    .at (.next ((if y0 > x0 then y0 else x0, x1, x2, IntKind.i64.wrap (x3 + 1)))))
    (.no))
   (.no))
  (.at (.done 0))
def st_u85q (G_u132q : GT_u132q) : TT_u85q → DT (Rd TT_u85q) := (fun v => st_u85q_0 G_u132q v.1 v.2.1 v.2.2.1 v.2.2.2)
def l_u85q (G_u132q : GT_u132q) (v : TT_u85q) : Option (Nat × TT_u85q) := lock (iterO (fun v => (st_u85q G_u132q v).ev) v)
theorem l_u85q_eq (G_u132q : GT_u132q) (v : TT_u85q) : l_u85q G_u132q v = iterO (fun v => (st_u85q G_u132q v).ev) v := lock_eq _
def ll_u85q (G_u132q : GT_u132q) : LEnt := LE (τ := TT_u85q) (hD hs_u85q) (l_u85q G_u132q) x_u85q
theorem t_u85q (G_u132q : GT_u132q) (hG : GH_u132q G_u132q) : Go.Eng.Told IP (loopAt F66 0).1 (loopAt F66 0).2 (ll_u85q G_u132q) := loop_LE (inferInstance : Inhabited TT_u85q) (hs := hs_u85q) (st := st_u85q G_u132q) (L := []) (TG_u132q_ok G_u132q hG) (LOk_of (l := []) (by kernel_rfl) trivial) (l_u85q_eq G_u132q) (fun v => by kernel_rfl) (fun v => by kernel_rfl)
def tr_u132q (G_u132q : GT_u132q) (x0 x1 : Int) (x2 : List UInt8) (x3 : List AV) : DT B_u132q :=
 .bi (pj 0 (l_u85q G_u132q (0, x3, (↑x3.length : Int), 0))) (fun y0 =>
  .at (IntKind.i64.wrap (y0.1 + 1)))
  (.no)
def N_u132q : Nat → GT_u132q
  | 0 => fun _ _ _ _ => none
  | n + 1 => fun x0 x1 x2 x3 => (tr_u132q ((N_u132q n)) x0 x1 x2 x3).ev
def f_u132q (x0 x1 : Int) (x2 : List UInt8) (x3 : List AV) : Option B_u132q := limO fun n => (N_u132q n) x0 x1 x2 x3
theorem N_u132q_ok : ∀ n, GH_u132q ((N_u132q n))
  | 0 => (fun v y h => nomatch h)
  | n + 1 => have hG := N_u132q_ok n
    fun_FH (F := F66) (L := [(1006600, ll_u85q ((N_u132q n)))]) (t := (k4 (tr_u132q ((N_u132q n))))) (TG_u132q_ok ((N_u132q n)) hG) (LOk_of (l := [loopAt F66 0]) (by kernel_rfl) ⟨sel_one (by kernel_rfl) (t_u85q ((N_u132q n)) hG), trivial⟩) (by kernel_rfl) (fun v => by kernel_rfl) (fun v => rfl)
theorem c_u132q : FH IP 66 p_u132q r_u132q (k4 f_u132q) := lim_FH (p := p_u132q) (rs := r_u132q) (s := fun n => (k4 ((N_u132q n)))) fun n => (N_u132q_ok n)
def T6 : Tab := (66, FE p_u132q r_u132q (k4 f_u132q)) :: T5
theorem T6_ok : TabOk IP T6 := ⟨FE_ok c_u132q, T5_ok⟩
abbrev B_u62q : Type := Int
def p_u62q : PArgs := ⟨[.int .i64], []⟩
def r_u62q : List PRes := [⟨false, .int .i64, []⟩]
def tr_u62q (x0 : Int) : DT B_u62q :=
 .br (x0 == 1)
  (.br (x0 == 1)
   (.at (0))
   (.br (x0 == 9)
    (.br (x0 == 9)
     (.at (1))
     (.br (x0 == 19)
      (.at (3))
      (.bi (br (decide (x0 ≥ 5)) (some (decide (x0 ≤ 18))) (some false)) (fun y0 =>
       .br (y0) (.at (2)) (.at (-1)))
       (.no))))
    (.br (x0 == 16)
     (.at (1))
     (.br (x0 == 19)
      (.at (3))
      (.bi (br (decide (x0 ≥ 5)) (some (decide (x0 ≤ 18))) (some false)) (fun y0 =>
       .br (y0) (.at (2)) (.at (-1)))
       (.no))))))
  (.br (x0 == 2)
   (.br (x0 == 2)
    (.at (0))
    (.br (x0 == 9)
     (.br (x0 == 9)
      (.at (1))
      (.br (x0 == 19)
       (.at (3))
       (.bi (br (decide (x0 ≥ 5)) (some (decide (x0 ≤ 18))) (some false)) (fun y0 =>
        .br (y0) (.at (2)) (.at (-1)))
        (.no))))
     (.br (x0 == 16)
      (.at (1))
      (.br (x0 == 19)
       (.at (3))
       (.bi (br (decide (x0 ≥ 5)) (some (decide (x0 ≤ 18))) (some false)) (fun y0 =>
        .br (y0) (.at (2)) (.at (-1)))
        (.no))))))
   (.br (x0 == 3)
    (.br (x0 == 3)
     (.at (0))
     (.br (x0 == 9)
      (.br (x0 == 9)
       (.at (1))
       (.br (x0 == 19)
        (.at (3))
        (.bi (br (decide (x0 ≥ 5)) (some (decide (x0 ≤ 18))) (some false)) (fun y0 =>
         .br (y0) (.at (2)) (.at (-1)))
         (.no))))
      (.br (x0 == 16)
       (.at (1))
       (.br (x0 == 19)
        (.at (3))
        (.bi (br (decide (x0 ≥ 5)) (some (decide (x0 ≤ 18))) (some false)) (fun y0 =>
         .br (y0) (.at (2)) (.at (-1)))
         (.no))))))
    (.br (x0 == 4)
     (.at (0))
     (.br (x0 == 9)
      (.br (x0 == 9)
       (.at (1))
       (.br (x0 == 19)
        (.at (3))
        (.bi (br (decide (x0 ≥ 5)) (some (decide (x0 ≤ 18))) (some false)) (fun y0 =>
         .br (y0) (.at (2)) (.at (-1)))
         (.no))))
      (.br (x0 == 16)
       (.at (1))
       (.br (x0 == 19)
        (.at (3))
        (.bi (br (decide (x0 ≥ 5)) (some (decide (x0 ≤ 18))) (some false)) (fun y0 =>
         .br (y0) (.at (2)) (.at (-1)))
         (.no))))))))
def f_u62q (x0 : Int) : Option B_u62q := lock (tr_u62q x0).ev
theorem f_u62q_eq (x0 : Int) : f_u62q x0 = (tr_u62q x0).ev := lock_eq _
theorem c_u62q : FH IP 84 p_u62q r_u62q f_u62q := fun_FH (F := F84) (L := []) (t := tr_u62q) T6_ok (LOk_of (l := []) (by kernel_rfl) trivial) (by kernel_rfl) (fun v => by kernel_rfl) (fun _ => lock_eq _)
def T7 : Tab := (84, FE p_u62q r_u62q f_u62q) :: T6
theorem T7_ok : TabOk IP T7 := ⟨FE_ok c_u62q, T6_ok⟩
abbrev B_u108q : Type := Bool
def p_u108q : PArgs := ⟨[.agg [.int .i64, .int .i64, .str, .view 4]], []⟩
def r_u108q : List PRes := [⟨false, .bool, []⟩]
def tr_u108q (x0 x1 : Int) (x2 : List UInt8) (x3 : List AV) : DT B_u108q :=
 .br (x0 == 1)
  (.bi (f_u62q x0) (fun y0 =>
   .br (y0 == (↑x3.length : Int))
    (.br (decide (x1 ≥ 0))
     (.br (decide (x1 ≤ 9223372036854775807))
      (.br (x2 == []) (.at (true)) (.at (x0 == 4)))
      (.at (false)))
     (.at (false)))
    (.at (false)))
   (.no))
  (.br (x0 == 2)
   (.bi (f_u62q x0) (fun y0 =>
    .br (y0 == (↑x3.length : Int))
     (.br (decide (x1 ≥ 0))
      (.br (decide (x1 ≤ 1000000000000))
       (.br (x2 == []) (.at (true)) (.at (x0 == 4)))
       (.at (false)))
      (.at (false)))
     (.at (false)))
    (.no))
   (.br (x0 == 3)
    (.bi (f_u62q x0) (fun y0 =>
     .br (y0 == (↑x3.length : Int))
      (.br (decide (x1 ≥ 0))
       (.br (decide (x1 ≤ 1000000))
        (.br (x2 == []) (.at (true)) (.at (x0 == 4)))
        (.at (false)))
       (.at (false)))
      (.at (false)))
     (.no))
    (.bi (f_u62q x0) (fun y0 =>
     .br (y0 == (↑x3.length : Int))
      (.br (decide (x1 ≥ 0))
       (.br (decide (x1 ≤ 0))
        (.br (x2 == []) (.at (true)) (.at (x0 == 4)))
        (.at (false)))
       (.at (false)))
      (.at (false)))
     (.no))))
def f_u108q (x0 x1 : Int) (x2 : List UInt8) (x3 : List AV) : Option B_u108q := lock (tr_u108q x0 x1 x2 x3).ev
theorem f_u108q_eq (x0 x1 : Int) (x2 : List UInt8) (x3 : List AV) : f_u108q x0 x1 x2 x3 = (tr_u108q x0 x1 x2 x3).ev := lock_eq _
theorem c_u108q : FH IP 68 p_u108q r_u108q (k4 f_u108q) := fun_FH (F := F68) (L := []) (t := (k4 tr_u108q)) T7_ok (LOk_of (l := []) (by kernel_rfl) trivial) (by kernel_rfl) (fun v => by kernel_rfl) (fun _ => lock_eq _)
def T8 : Tab := (68, FE p_u108q r_u108q (k4 f_u108q)) :: T7
theorem T8_ok : TabOk IP T8 := ⟨FE_ok c_u108q, T7_ok⟩
abbrev B_u133q : Type := Bool
def p_u133q : PArgs := ⟨[.agg [.int .i64, .int .i64, .str, .view 4], .fn (.func 68) []], []⟩
def r_u133q : List PRes := [⟨false, .bool, []⟩]
abbrev GT_u133q : Type := Int → Int → (List UInt8) → (List AV) → Option B_u133q
abbrev B_u1q : Type := Bool
def p_u1q : PArgs := ⟨[.view 4, .fn (.func 83) [.ptr [.fn (.func 68) []]]], []⟩
def r_u1q : List PRes := [⟨false, .bool, []⟩]
abbrev GT_u1q : Type := (List AV) → Option B_u1q
abbrev B_u6q : Type := Int
def p_u6q : PArgs := ⟨[.view 4, .fn (.func 83) [.ptr [.fn (.func 68) []]]], []⟩
def r_u6q : List PRes := [⟨false, .int .i64, []⟩]
abbrev GT_u6q : Type := (List AV) → Option B_u6q
abbrev B_u86q : Type := Bool
def p_u86q : PArgs := ⟨[.agg [.int .i64, .int .i64, .str, .view 4], .ptr [.fn (.func 68) []]], []⟩
def r_u86q : List PRes := [⟨false, .bool, []⟩]
abbrev GT_u86q : Type := Int → Int → (List UInt8) → (List AV) → Option B_u86q
def GH_u133q (G_u133q : GT_u133q) (G_u1q : GT_u1q) (G_u6q : GT_u6q) (G_u86q : GT_u86q) : Prop := FH IP 67 p_u133q r_u133q (k4 G_u133q) ∧ FH IP 82 p_u1q r_u1q G_u1q ∧ FH IP 95 p_u6q r_u6q G_u6q ∧ FH IP 83 p_u86q r_u86q (k4 G_u86q)
def TG_u133q (G_u133q : GT_u133q) (G_u1q : GT_u1q) (G_u6q : GT_u6q) (G_u86q : GT_u86q) : Tab := (67, FE p_u133q r_u133q (k4 G_u133q)) :: (82, FE p_u1q r_u1q G_u1q) :: (95, FE p_u6q r_u6q G_u6q) :: (83, FE p_u86q r_u86q (k4 G_u86q)) :: T8
theorem TG_u133q_ok (G_u133q : GT_u133q) (G_u1q : GT_u1q) (G_u6q : GT_u6q) (G_u86q : GT_u86q) (hG : GH_u133q G_u133q G_u1q G_u6q G_u86q) : TabOk IP (TG_u133q G_u133q G_u1q G_u6q G_u86q) := ⟨FE_ok (hG.1), FE_ok (hG.2.1), FE_ok (hG.2.2.1), FE_ok (hG.2.2.2), T8_ok⟩
abbrev TT_u3q : Type := List AV × Int × Int
def hs_u3q : List PSt := [⟨[(1009500, .junk), (0, .view 4), (1, .fn (.func 83) [.ptr [.fn (.func 68) []]]), (7, .int .i64), (8, .int .i64)], [], 0, 0⟩]
def x_u3q_0 (x0 : List AV) (x1 x2 : Int) : X × St := (X.ret, { tm := [(4, AV.int IntKind.i64 x2)], hp := [], nx := 0, k := 0 })
def x_u3q_1 (x0 : List AV) (x1 x2 : Int) : X × St := (X.exit 0, { tm := [(4, AV.junk)], hp := [], nx := 0, k := 0 })
def x_u3q : List (TT_u3q → X × St) := [(k3 x_u3q_0), (k3 x_u3q_1)]
def st_u3q_0 (G_u133q : GT_u133q) (G_u1q : GT_u1q) (G_u6q : GT_u6q) (G_u86q : GT_u86q) (x0 : List AV) (x1 x2 : Int) : DT (Rd TT_u3q) :=
 .br (decide (x2 < x1))
  (.br (okAt [CS.int IntKind.i64, CS.int IntKind.i64, CS.str, CS.slice 4] x0 x2)
   (.bi (G_u86q (intOf (cellAt x0 x2 0)) (intOf (cellAt x0 x2 1)) (strOf (cellAt x0 x2 2)) (viewOf (cellAt x0 x2 3))) (fun y0 =>
    .br (y0) (.at (.done 0)) (.at (.next ((x0, x1, IntKind.i64.wrap (x2 + 1))))))
    (.no))
   (.no))
  (.at (.done 1))
def st_u3q (G_u133q : GT_u133q) (G_u1q : GT_u1q) (G_u6q : GT_u6q) (G_u86q : GT_u86q) : TT_u3q → DT (Rd TT_u3q) := (fun v => st_u3q_0 G_u133q G_u1q G_u6q G_u86q v.1 v.2.1 v.2.2)
def l_u3q (G_u133q : GT_u133q) (G_u1q : GT_u1q) (G_u6q : GT_u6q) (G_u86q : GT_u86q) (v : TT_u3q) : Option (Nat × TT_u3q) := lock (iterO (fun v => (st_u3q G_u133q G_u1q G_u6q G_u86q v).ev) v)
theorem l_u3q_eq (G_u133q : GT_u133q) (G_u1q : GT_u1q) (G_u6q : GT_u6q) (G_u86q : GT_u86q) (v : TT_u3q) : l_u3q G_u133q G_u1q G_u6q G_u86q v = iterO (fun v => (st_u3q G_u133q G_u1q G_u6q G_u86q v).ev) v := lock_eq _
def ll_u3q (G_u133q : GT_u133q) (G_u1q : GT_u1q) (G_u6q : GT_u6q) (G_u86q : GT_u86q) : LEnt := LE (τ := TT_u3q) (hD hs_u3q) (l_u3q G_u133q G_u1q G_u6q G_u86q) x_u3q
theorem t_u3q (G_u133q : GT_u133q) (G_u1q : GT_u1q) (G_u6q : GT_u6q) (G_u86q : GT_u86q) (hG : GH_u133q G_u133q G_u1q G_u6q G_u86q) : Go.Eng.Told IP (loopAt F95 0).1 (loopAt F95 0).2 (ll_u3q G_u133q G_u1q G_u6q G_u86q) := loop_LE (inferInstance : Inhabited TT_u3q) (hs := hs_u3q) (st := st_u3q G_u133q G_u1q G_u6q G_u86q) (L := []) (TG_u133q_ok G_u133q G_u1q G_u6q G_u86q hG) (LOk_of (l := []) (by kernel_rfl) trivial) (l_u3q_eq G_u133q G_u1q G_u6q G_u86q) (fun v => by kernel_rfl) (fun v => by kernel_rfl)
def tr_u133q (G_u133q : GT_u133q) (G_u1q : GT_u1q) (G_u6q : GT_u6q) (G_u86q : GT_u86q) (x0 x1 : Int) (x2 : List UInt8) (x3 : List AV) : DT B_u133q :=
 .bi (f_u108q x0 x1 x2 x3) (fun y0 =>
  .bi (br y0 (br (sm (G_u1q x3)) (some !gv (G_u1q x3)) none) (some false)) (fun y1 =>
   .at (y1))
   (.no))
  (.no)
def tr_u1q (G_u133q : GT_u133q) (G_u1q : GT_u1q) (G_u6q : GT_u6q) (G_u86q : GT_u86q) (x0 : List AV) : DT B_u1q :=
 .bi (G_u6q x0) (fun y0 =>
  .at (decide (y0 ≥ 0)))
  (.no)
def tr_u6q (G_u133q : GT_u133q) (G_u1q : GT_u1q) (G_u6q : GT_u6q) (G_u86q : GT_u86q) (x0 : List AV) : DT B_u6q :=
 .bi (pj 0
     (l_u3q G_u133q G_u1q G_u6q G_u86q (x0, (↑x0.length : Int), 0))) (fun y0 =>
  .at (y0.2.2))
  (.bi (pj 1
      (l_u3q G_u133q G_u1q G_u6q G_u86q (x0, (↑x0.length : Int), 0))) (fun y0 =>
   .at (-1))
   (.no))
def tr_u86q (G_u133q : GT_u133q) (G_u1q : GT_u1q) (G_u6q : GT_u6q) (G_u86q : GT_u86q) (x0 x1 : Int) (x2 : List UInt8) (x3 : List AV) : DT B_u86q :=
 .bi (G_u133q x0 x1 x2 x3) (fun y0 =>
  .at (!y0))
  (.no)
def N_u133q : Nat → GT_u133q × GT_u1q × GT_u6q × GT_u86q
  | 0 => (fun _ _ _ _ => none, fun _ => none, fun _ => none, fun _ _ _ _ => none)
  | n + 1 => (fun x0 x1 x2 x3 => (tr_u133q ((N_u133q n).1) ((N_u133q n).2.1) ((N_u133q n).2.2.1) ((N_u133q n).2.2.2) x0 x1 x2 x3).ev, fun x0 => (tr_u1q ((N_u133q n).1) ((N_u133q n).2.1) ((N_u133q n).2.2.1) ((N_u133q n).2.2.2) x0).ev, fun x0 => (tr_u6q ((N_u133q n).1) ((N_u133q n).2.1) ((N_u133q n).2.2.1) ((N_u133q n).2.2.2) x0).ev, fun x0 x1 x2 x3 => (tr_u86q ((N_u133q n).1) ((N_u133q n).2.1) ((N_u133q n).2.2.1) ((N_u133q n).2.2.2) x0 x1 x2 x3).ev)
def f_u133q (x0 x1 : Int) (x2 : List UInt8) (x3 : List AV) : Option B_u133q := limO fun n => (N_u133q n).1 x0 x1 x2 x3
def f_u1q (x0 : List AV) : Option B_u1q := limO fun n => (N_u133q n).2.1 x0
def f_u6q (x0 : List AV) : Option B_u6q := limO fun n => (N_u133q n).2.2.1 x0
def f_u86q (x0 x1 : Int) (x2 : List UInt8) (x3 : List AV) : Option B_u86q := limO fun n => (N_u133q n).2.2.2 x0 x1 x2 x3
theorem N_u133q_ok : ∀ n, GH_u133q ((N_u133q n).1) ((N_u133q n).2.1) ((N_u133q n).2.2.1) ((N_u133q n).2.2.2)
  | 0 => ⟨(fun v y h => nomatch h), (fun v y h => nomatch h), (fun v y h => nomatch h), (fun v y h => nomatch h)⟩
  | n + 1 => have hG := N_u133q_ok n
    ⟨fun_FH (F := F67) (L := []) (t := (k4 (tr_u133q ((N_u133q n).1) ((N_u133q n).2.1) ((N_u133q n).2.2.1) ((N_u133q n).2.2.2)))) (TG_u133q_ok ((N_u133q n).1) ((N_u133q n).2.1) ((N_u133q n).2.2.1) ((N_u133q n).2.2.2) hG) (LOk_of (l := []) (by kernel_rfl) trivial) (by kernel_rfl) (fun v => by kernel_rfl) (fun v => rfl), fun_FH (F := F82) (L := []) (t := (tr_u1q ((N_u133q n).1) ((N_u133q n).2.1) ((N_u133q n).2.2.1) ((N_u133q n).2.2.2))) (TG_u133q_ok ((N_u133q n).1) ((N_u133q n).2.1) ((N_u133q n).2.2.1) ((N_u133q n).2.2.2) hG) (LOk_of (l := []) (by kernel_rfl) trivial) (by kernel_rfl) (fun v => by kernel_rfl) (fun v => rfl), fun_FH (F := F95) (L := [(1009500, ll_u3q ((N_u133q n).1) ((N_u133q n).2.1) ((N_u133q n).2.2.1) ((N_u133q n).2.2.2))]) (t := (tr_u6q ((N_u133q n).1) ((N_u133q n).2.1) ((N_u133q n).2.2.1) ((N_u133q n).2.2.2))) (TG_u133q_ok ((N_u133q n).1) ((N_u133q n).2.1) ((N_u133q n).2.2.1) ((N_u133q n).2.2.2) hG) (LOk_of (l := [loopAt F95 0]) (by kernel_rfl) ⟨sel_one (by kernel_rfl) (t_u3q ((N_u133q n).1) ((N_u133q n).2.1) ((N_u133q n).2.2.1) ((N_u133q n).2.2.2) hG), trivial⟩) (by kernel_rfl) (fun v => by kernel_rfl) (fun v => rfl), fun_FH (F := F83) (L := []) (t := (k4 (tr_u86q ((N_u133q n).1) ((N_u133q n).2.1) ((N_u133q n).2.2.1) ((N_u133q n).2.2.2)))) (TG_u133q_ok ((N_u133q n).1) ((N_u133q n).2.1) ((N_u133q n).2.2.1) ((N_u133q n).2.2.2) hG) (LOk_of (l := []) (by kernel_rfl) trivial) (by kernel_rfl) (fun v => by kernel_rfl) (fun v => rfl)⟩
theorem c_u133q : FH IP 67 p_u133q r_u133q (k4 f_u133q) := lim_FH (p := p_u133q) (rs := r_u133q) (s := fun n => (k4 ((N_u133q n).1))) fun n => (N_u133q_ok n).1
theorem c_u1q : FH IP 82 p_u1q r_u1q f_u1q := lim_FH (p := p_u1q) (rs := r_u1q) (s := fun n => ((N_u133q n).2.1)) fun n => (N_u133q_ok n).2.1
theorem c_u6q : FH IP 95 p_u6q r_u6q f_u6q := lim_FH (p := p_u6q) (rs := r_u6q) (s := fun n => ((N_u133q n).2.2.1)) fun n => (N_u133q_ok n).2.2.1
theorem c_u86q : FH IP 83 p_u86q r_u86q (k4 f_u86q) := lim_FH (p := p_u86q) (rs := r_u86q) (s := fun n => (k4 ((N_u133q n).2.2.2))) fun n => (N_u133q_ok n).2.2.2
def T9 : Tab := (67, FE p_u133q r_u133q (k4 f_u133q)) :: T8
theorem T9_ok : TabOk IP T9 := ⟨FE_ok c_u133q, T8_ok⟩
def T10 : Tab := (82, FE p_u1q r_u1q f_u1q) :: T9
theorem T10_ok : TabOk IP T10 := ⟨FE_ok c_u1q, T9_ok⟩
def T11 : Tab := (95, FE p_u6q r_u6q f_u6q) :: T10
theorem T11_ok : TabOk IP T11 := ⟨FE_ok c_u6q, T10_ok⟩
def T12 : Tab := (83, FE p_u86q r_u86q (k4 f_u86q)) :: T11
theorem T12_ok : TabOk IP T12 := ⟨FE_ok c_u86q, T11_ok⟩
abbrev B_u53q : Type := Bool
def p_u53q : PArgs := ⟨[.int .i32], []⟩
def r_u53q : List PRes := [⟨false, .bool, []⟩]
def tr_u53q (x0 : Int) : DT B_u53q :=
 .at (x0 != 10)
def f_u53q (x0 : Int) : Option B_u53q := lock (tr_u53q x0).ev
theorem f_u53q_eq (x0 : Int) : f_u53q x0 = (tr_u53q x0).ev := lock_eq _
theorem c_u53q : FH IP 112 p_u53q r_u53q f_u53q := fun_FH (F := F112) (L := []) (t := tr_u53q) T12_ok (LOk_of (l := []) (by kernel_rfl) trivial) (by kernel_rfl) (fun v => by kernel_rfl) (fun _ => lock_eq _)
def T13 : Tab := (112, FE p_u53q r_u53q f_u53q) :: T12
theorem T13_ok : TabOk IP T13 := ⟨FE_ok c_u53q, T12_ok⟩
abbrev TT_u55q : Type := List UInt8 × Int
def hs_u55q : List PSt := [⟨[(1011100, .junk), (0, .str), (1, .fn (.func 112) []), (5, .int .i64)], [], 0, 0⟩]
def x_u55q_0 (x0 : List UInt8) (x1 : Int) : X × St := (X.exit 0, { tm := [(0, AV.str x0), (5, AV.int IntKind.i64 x1)], hp := [], nx := 0, k := 0 })
def x_u55q : List (TT_u55q → X × St) := [(k2 x_u55q_0)]
def st_u55q_0 (x0 : List UInt8) (x1 : Int) : DT (Rd TT_u55q) :=
 .bi (br (decide (x1 < (↑x0.length : Int)))
     (br (inB x0.length x1) (br (sm (f_u53q (IntKind.i32.wrap (byteAt x0 x1)))) (some (gv (f_u53q (IntKind.i32.wrap (byteAt x0 x1))))) none) none) (some false)) (fun y0 =>
  .br (y0) (.at (.next ((x0, IntKind.i64.wrap (x1 + 1))))) (.at (.done 0)))
  (.no)
def st_u55q : TT_u55q → DT (Rd TT_u55q) := (fun v => st_u55q_0 v.1 v.2)
def l_u55q (v : TT_u55q) : Option (Nat × TT_u55q) := lock (iterO (fun v => (st_u55q v).ev) v)
theorem l_u55q_eq (v : TT_u55q) : l_u55q v = iterO (fun v => (st_u55q v).ev) v := lock_eq _
def ll_u55q : LEnt := LE (τ := TT_u55q) (hD hs_u55q) (l_u55q) x_u55q
theorem t_u55q : Go.Eng.Told IP (loopAt F111 0).1 (loopAt F111 0).2 (ll_u55q) := loop_LE (inferInstance : Inhabited TT_u55q) (hs := hs_u55q) (st := st_u55q) (L := []) T13_ok (LOk_of (l := []) (by kernel_rfl) trivial) (l_u55q_eq) (fun v => by kernel_rfl) (fun v => by kernel_rfl)
abbrev B_u93q : Type := List UInt8
def p_u93q : PArgs := ⟨[.str, .fn (.func 112) []], []⟩
def r_u93q : List PRes := [⟨false, .str, []⟩]
def tr_u93q (x0 : List UInt8) : DT B_u93q :=
 .bi (pj 0 (l_u55q (x0, 0))) (fun y0 =>
  .br (leB y0.2 y0.1.length && true) (.at (List.take y0.2.toNat y0.1)) (.no))
  (.no)
def f_u93q (x0 : List UInt8) : Option B_u93q := lock (tr_u93q x0).ev
theorem f_u93q_eq (x0 : List UInt8) : f_u93q x0 = (tr_u93q x0).ev := lock_eq _
theorem c_u93q : FH IP 111 p_u93q r_u93q f_u93q := fun_FH (F := F111) (L := [(1011100, ll_u55q)]) (t := tr_u93q) T13_ok (LOk_of (l := [loopAt F111 0]) (by kernel_rfl) ⟨sel_one (by kernel_rfl) t_u55q, trivial⟩) (by kernel_rfl) (fun v => by kernel_rfl) (fun _ => lock_eq _)
def T14 : Tab := (111, FE p_u93q r_u93q f_u93q) :: T13
theorem T14_ok : TabOk IP T14 := ⟨FE_ok c_u93q, T13_ok⟩
abbrev TT_u52q : Type := List UInt8 × Int
def hs_u52q : List PSt := [⟨[(1010300, .junk), (0, .str), (3, .int .i64)], [], 0, 0⟩]
def x_u52q_0 (x0 : List UInt8) (x1 : Int) : X × St := (X.ret, { tm := [(2, AV.int IntKind.i64 x1), (3, AV.int IntKind.i64 x1)], hp := [], nx := 0, k := 0 })
def x_u52q_1 (x0 : List UInt8) (x1 : Int) : X × St := (X.exit 0, { tm := [(2, AV.junk), (3, AV.int IntKind.i64 x1)], hp := [], nx := 0, k := 0 })
def x_u52q : List (TT_u52q → X × St) := [(k2 x_u52q_0), (k2 x_u52q_1)]
def st_u52q_0 (x0 : List UInt8) (x1 : Int) : DT (Rd TT_u52q) :=
 .br (decide (x1 < (↑x0.length : Int)))
  (.br (inB x0.length x1)
   (.br (byteAt x0 x1 == 32)
    (.br (byteAt x0 x1 == 32)
     (.at (.next ((x0, IntKind.i64.wrap (x1 + 1)))))
     (.br (byteAt x0 x1 == 35)
      (.br (leB x1 x0.length)
       (.bi (f_u93q (List.drop x1.toNat x0)) (fun y0 =>
        .at (.next ((x0, IntKind.i64.wrap (x1 + (↑y0.length : Int))))))
        (.no))
       (.no))
      (.at (.done 0))))
    (.br (byteAt x0 x1 == 9)
     (.br (byteAt x0 x1 == 9)
      (.at (.next ((x0, IntKind.i64.wrap (x1 + 1)))))
      (.br (byteAt x0 x1 == 35)
       (.br (leB x1 x0.length)
        (.bi (f_u93q (List.drop x1.toNat x0)) (fun y0 =>
         .at (.next ((x0, IntKind.i64.wrap (x1 + (↑y0.length : Int))))))
         (.no))
        (.no))
       (.at (.done 0))))
     (.br (byteAt x0 x1 == 10)
      (.at (.next ((x0, IntKind.i64.wrap (x1 + 1)))))
      (.br (byteAt x0 x1 == 35)
       (.br (leB x1 x0.length)
        (.bi (f_u93q (List.drop x1.toNat x0)) (fun y0 =>
         .at (.next ((x0, IntKind.i64.wrap (x1 + (↑y0.length : Int))))))
         (.no))
        (.no))
       (.at (.done 0))))))
   (.no))
  (.at (.done 1))
def st_u52q : TT_u52q → DT (Rd TT_u52q) := (fun v => st_u52q_0 v.1 v.2)
def l_u52q (v : TT_u52q) : Option (Nat × TT_u52q) := lock (iterO (fun v => (st_u52q v).ev) v)
theorem l_u52q_eq (v : TT_u52q) : l_u52q v = iterO (fun v => (st_u52q v).ev) v := lock_eq _
def ll_u52q : LEnt := LE (τ := TT_u52q) (hD hs_u52q) (l_u52q) x_u52q
theorem t_u52q : Go.Eng.Told IP (loopAt F103 0).1 (loopAt F103 0).2 (ll_u52q) := loop_LE (inferInstance : Inhabited TT_u52q) (hs := hs_u52q) (st := st_u52q) (L := []) T14_ok (LOk_of (l := []) (by kernel_rfl) trivial) (l_u52q_eq) (fun v => by kernel_rfl) (fun v => by kernel_rfl)
abbrev B_u88q : Type := Int
def p_u88q : PArgs := ⟨[.str], []⟩
def r_u88q : List PRes := [⟨false, .int .i64, []⟩]
def tr_u88q (x0 : List UInt8) : DT B_u88q :=
 .bi (pj 0 (l_u52q (x0, 0))) (fun y0 =>
  .at (y0.2))
  (.bi (pj 1 (l_u52q (x0, 0))) (fun y0 =>
   .at (y0.2))
   (.no))
def f_u88q (x0 : List UInt8) : Option B_u88q := lock (tr_u88q x0).ev
theorem f_u88q_eq (x0 : List UInt8) : f_u88q x0 = (tr_u88q x0).ev := lock_eq _
theorem c_u88q : FH IP 103 p_u88q r_u88q f_u88q := fun_FH (F := F103) (L := [(1010300, ll_u52q)]) (t := tr_u88q) T14_ok (LOk_of (l := [loopAt F103 0]) (by kernel_rfl) ⟨sel_one (by kernel_rfl) t_u52q, trivial⟩) (by kernel_rfl) (fun v => by kernel_rfl) (fun _ => lock_eq _)
def T15 : Tab := (103, FE p_u88q r_u88q f_u88q) :: T14
theorem T15_ok : TabOk IP T15 := ⟨FE_ok c_u88q, T14_ok⟩
abbrev B_u90q : Type := Bool
def p_u90q : PArgs := ⟨[.int .i32], []⟩
def r_u90q : List PRes := [⟨false, .bool, []⟩]
def tr_u90q (x0 : Int) : DT B_u90q :=
 .bi (br (decide (x0 ≥ 97)) (some (decide (x0 ≤ 122))) (some false)) (fun y0 =>
  .at (y0))
  (.no)
def f_u90q (x0 : Int) : Option B_u90q := lock (tr_u90q x0).ev
theorem f_u90q_eq (x0 : Int) : f_u90q x0 = (tr_u90q x0).ev := lock_eq _
theorem c_u90q : FH IP 116 p_u90q r_u90q f_u90q := fun_FH (F := F116) (L := []) (t := tr_u90q) T15_ok (LOk_of (l := []) (by kernel_rfl) trivial) (by kernel_rfl) (fun v => by kernel_rfl) (fun _ => lock_eq _)
def T16 : Tab := (116, FE p_u90q r_u90q f_u90q) :: T15
theorem T16_ok : TabOk IP T16 := ⟨FE_ok c_u90q, T15_ok⟩
abbrev B_u110q : Type := Bool
def p_u110q : PArgs := ⟨[.int .i32], []⟩
def r_u110q : List PRes := [⟨false, .bool, []⟩]
def tr_u110q (x0 : Int) : DT B_u110q :=
 .bi (br (decide (x0 ≥ 48)) (some (decide (x0 ≤ 57))) (some false)) (fun y0 =>
  .at (y0))
  (.no)
def f_u110q (x0 : Int) : Option B_u110q := lock (tr_u110q x0).ev
theorem f_u110q_eq (x0 : Int) : f_u110q x0 = (tr_u110q x0).ev := lock_eq _
theorem c_u110q : FH IP 119 p_u110q r_u110q f_u110q := fun_FH (F := F119) (L := []) (t := tr_u110q) T16_ok (LOk_of (l := []) (by kernel_rfl) trivial) (by kernel_rfl) (fun v => by kernel_rfl) (fun _ => lock_eq _)
def T17 : Tab := (119, FE p_u110q r_u110q f_u110q) :: T16
theorem T17_ok : TabOk IP T17 := ⟨FE_ok c_u110q, T16_ok⟩
abbrev B_u89q : Type := Bool
def p_u89q : PArgs := ⟨[.int .i32], []⟩
def r_u89q : List PRes := [⟨false, .bool, []⟩]
def tr_u89q (x0 : Int) : DT B_u89q :=
 .bi (f_u90q x0) (fun y0 =>
  .bi (br y0 (some true) (br (sm (f_u110q x0)) (some (gv (f_u110q x0))) none)) (fun y1 =>
   .bi (br y1 (some true) (some (x0 == 95))) (fun y2 =>
    .at (y2))
    (.no))
   (.no))
  (.no)
def f_u89q (x0 : Int) : Option B_u89q := lock (tr_u89q x0).ev
theorem f_u89q_eq (x0 : Int) : f_u89q x0 = (tr_u89q x0).ev := lock_eq _
theorem c_u89q : FH IP 117 p_u89q r_u89q f_u89q := fun_FH (F := F117) (L := []) (t := tr_u89q) T17_ok (LOk_of (l := []) (by kernel_rfl) trivial) (by kernel_rfl) (fun v => by kernel_rfl) (fun _ => lock_eq _)
def T18 : Tab := (117, FE p_u89q r_u89q f_u89q) :: T17
theorem T18_ok : TabOk IP T18 := ⟨FE_ok c_u89q, T17_ok⟩
abbrev TT_u42q : Type := List UInt8 × Int
def hs_u42q : List PSt := [⟨[(1011100, .junk), (0, .str), (1, .fn (.func 117) []), (5, .int .i64)], [], 0, 0⟩]
def x_u42q_0 (x0 : List UInt8) (x1 : Int) : X × St := (X.exit 0, { tm := [(0, AV.str x0), (5, AV.int IntKind.i64 x1)], hp := [], nx := 0, k := 0 })
def x_u42q : List (TT_u42q → X × St) := [(k2 x_u42q_0)]
def st_u42q_0 (x0 : List UInt8) (x1 : Int) : DT (Rd TT_u42q) :=
 .bi (br (decide (x1 < (↑x0.length : Int)))
     (br (inB x0.length x1) (br (sm (f_u89q (IntKind.i32.wrap (byteAt x0 x1)))) (some (gv (f_u89q (IntKind.i32.wrap (byteAt x0 x1))))) none) none) (some false)) (fun y0 =>
  .br (y0) (.at (.next ((x0, IntKind.i64.wrap (x1 + 1))))) (.at (.done 0)))
  (.no)
def st_u42q : TT_u42q → DT (Rd TT_u42q) := (fun v => st_u42q_0 v.1 v.2)
def l_u42q (v : TT_u42q) : Option (Nat × TT_u42q) := lock (iterO (fun v => (st_u42q v).ev) v)
theorem l_u42q_eq (v : TT_u42q) : l_u42q v = iterO (fun v => (st_u42q v).ev) v := lock_eq _
def ll_u42q : LEnt := LE (τ := TT_u42q) (hD hs_u42q) (l_u42q) x_u42q
theorem t_u42q : Go.Eng.Told IP (loopAt F111 0).1 (loopAt F111 0).2 (ll_u42q) := loop_LE (inferInstance : Inhabited TT_u42q) (hs := hs_u42q) (st := st_u42q) (L := []) T18_ok (LOk_of (l := []) (by kernel_rfl) trivial) (l_u42q_eq) (fun v => by kernel_rfl) (fun v => by kernel_rfl)
abbrev B_u65q : Type := List UInt8
def p_u65q : PArgs := ⟨[.str, .fn (.func 117) []], []⟩
def r_u65q : List PRes := [⟨false, .str, []⟩]
def tr_u65q (x0 : List UInt8) : DT B_u65q :=
 .bi (pj 0 (l_u42q (x0, 0))) (fun y0 =>
  .br (leB y0.2 y0.1.length && true) (.at (List.take y0.2.toNat y0.1)) (.no))
  (.no)
def f_u65q (x0 : List UInt8) : Option B_u65q := lock (tr_u65q x0).ev
theorem f_u65q_eq (x0 : List UInt8) : f_u65q x0 = (tr_u65q x0).ev := lock_eq _
theorem c_u65q : FH IP 111 p_u65q r_u65q f_u65q := fun_FH (F := F111) (L := [(1011100, ll_u42q)]) (t := tr_u65q) T18_ok (LOk_of (l := [loopAt F111 0]) (by kernel_rfl) ⟨sel_one (by kernel_rfl) t_u42q, trivial⟩) (by kernel_rfl) (fun v => by kernel_rfl) (fun _ => lock_eq _)
def T19 : Tab := (111, FE p_u65q r_u65q f_u65q) :: T18
theorem T19_ok : TabOk IP T19 := ⟨FE_ok c_u65q, T18_ok⟩
abbrev B_u112q : Type := List AV
def p_u112q : PArgs := ⟨[], []⟩
def r_u112q : List PRes := [⟨false, .view 1, []⟩]
def tr_u112q : DT B_u112q :=
 .at ([AV.str ([] ++ [112] ++ [114] ++ [111] ++ [100] ++ [117] ++ [99] ++ [116]), AV.str ([] ++ [99] ++ [117] ++ [114] ++ [114] ++ [101] ++ [110] ++ [99] ++ [121]),
  AV.str ([] ++ [99] ++ [97] ++ [108] ++ [101] ++ [110] ++ [100] ++ [97] ++ [114]), AV.str ([] ++ [102] ++ [114] ++ [111] ++ [109]),
  AV.str ([] ++ [101] ++ [118] ++ [101] ++ [114] ++ [121]), AV.str ([] ++ [111] ++ [118] ++ [101] ++ [114] ++ [100] ++ [114] ++ [97] ++ [102] ++ [116]),
  AV.str ([] ++ [116] ++ [97] ++ [120]), AV.str ([] ++ [99] ++ [114] ++ [101] ++ [100] ++ [105] ++ [116]), AV.str ([] ++ [100] ++ [101] ++ [98] ++ [105] ++ [116]),
  AV.str ([] ++ [109] ++ [97] ++ [114] ++ [103] ++ [105] ++ [110] ++ [97] ++ [108]), AV.str ([] ++ [119] ++ [104] ++ [111] ++ [108] ++ [101]),
  AV.str ([] ++ [97] ++ [99] ++ [116] ++ [51] ++ [54] ++ [48]), AV.str ([] ++ [97] ++ [99] ++ [116] ++ [51] ++ [54] ++ [53]),
  AV.str ([] ++ [97] ++ [99] ++ [116] ++ [117] ++ [97] ++ [108]), AV.str ([] ++ [116] ++ [104] ++ [105] ++ [114] ++ [116] ++ [121]),
  AV.str ([] ++ [100] ++ [111] ++ [119] ++ [110]), AV.str ([] ++ [117] ++ [112]), AV.str ([] ++ [102] ++ [108] ++ [111] ++ [111] ++ [114]),
  AV.str ([] ++ [99] ++ [101] ++ [105] ++ [108]), AV.str ([] ++ [104] ++ [97] ++ [108] ++ [102] ++ [95] ++ [117] ++ [112]),
  AV.str ([] ++ [104] ++ [97] ++ [108] ++ [102] ++ [95] ++ [101] ++ [118] ++ [101] ++ [110]), AV.str ([] ++ [107] ++ [101] ++ [101] ++ [112]),
  AV.str ([] ++ [100] ++ [114] ++ [111] ++ [112]), AV.str ([] ++ [102] ++ [101] ++ [101]), AV.str ([] ++ [108] ++ [105] ++ [109] ++ [105] ++ [116]),
  AV.str ([] ++ [119] ++ [104] ++ [101] ++ [110]), AV.str ([] ++ [97] ++ [109] ++ [111] ++ [117] ++ [110] ++ [116] ++ [95] ++ [111] ++ [102]),
  AV.str ([] ++ [115] ++ [105] ++ [110] ++ [103] ++ [108] ++ [101]), AV.str ([] ++ [100] ++ [97] ++ [105] ++ [108] ++ [121]),
  AV.str ([] ++ [109] ++ [111] ++ [110] ++ [116] ++ [104] ++ [108] ++ [121]), AV.str ([] ++ [109] ++ [111] ++ [110] ++ [116] ++ [104]),
  AV.str ([] ++ [114] ++ [101] ++ [116] ++ [117] ++ [114] ++ [110]), AV.str ([] ++ [99] ++ [108] ++ [111] ++ [115] ++ [101]),
  AV.str ([] ++ [101] ++ [118] ++ [101] ++ [110] ++ [116]), AV.str ([] ++ [105] ++ [102]), AV.str ([] ++ [116] ++ [104] ++ [101] ++ [110]),
  AV.str ([] ++ [101] ++ [108] ++ [115] ++ [101]), AV.str ([] ++ [97] ++ [110] ++ [100]), AV.str ([] ++ [111] ++ [114]), AV.str ([] ++ [110] ++ [111] ++ [116]),
  AV.str ([] ++ [109] ++ [105] ++ [110]), AV.str ([] ++ [109] ++ [97] ++ [120])])
def f_u112q : Option B_u112q := lock (tr_u112q).ev
theorem f_u112q_eq : f_u112q = (tr_u112q).ev := lock_eq _
theorem c_u112q : FH IP 128 p_u112q r_u112q (fun _ => f_u112q) := fun_FH (F := F128) (L := []) (t := (fun _ => tr_u112q)) T19_ok (LOk_of (l := []) (by kernel_rfl) trivial) (by kernel_rfl) (fun v => by kernel_rfl) (fun _ => lock_eq _)
def T20 : Tab := (128, FE p_u112q r_u112q (fun _ => f_u112q)) :: T19
theorem T20_ok : TabOk IP T20 := ⟨FE_ok c_u112q, T19_ok⟩
end
end Go.Proofs.H12

/- Functions over plain data. Printed by a program of mine. -/
import Derived.Test.YthljpgljbpdmjaaGreatDoorD15e_3
import Derived.KernelRfl
set_option linter.unusedVariables false
set_option linter.unusedSimpArgs false
set_option linter.unnecessarySimpa false
namespace Go.Proofs.H15e
open Go Go.Eng
set_option maxRecDepth 100000
abbrev TT_u35q : Type := (List UInt8 × Int) ⊕ (List UInt8 × Int × List AV)
def hs_u35q : List PSt := [⟨[(1013400, .junk), (0, .str), (5, .nils 3), (6, .int .i64)], [], 0, 0⟩, ⟨[(1013400, .junk), (0, .str), (5, .own 0 0), (6, .int .i64)], [(0, .arr 3 false)], 1, 0⟩]
noncomputable def x_u35q_0 (x0 : List UInt8) (x1 : Int) : X × St := (X.ret, { tm := [(2, AV.nils { sz := 3, kd := NKd.nil }), (3, AV.int IntKind.i64 0), (4, AV.int IntKind.i64 0)], hp := [], nx := 0, k := 0 })
noncomputable def x_u35q_1 (x0 : List UInt8) (x1 : Int) : X × St := (X.ret,
  {
    tm :=
      [(2, AV.nils { sz := 3, kd := NKd.nil }), (3, AV.int IntKind.i64 (IntKind.i64.wrap (x1 + (↑(Lib.countByte (List.take (gv (f_u84q x0)).toNat x0) 10) : Int)))),
        (4, AV.int IntKind.i64 (gv (f_u112q (List.drop (gv (f_u84q x0)).toNat x0))).2.2.2)],
    hp := [], nx := 0, k := 0 })
noncomputable def x_u35q_2 (x0 : List UInt8) (x1 : Int) (x2 : List AV) : X × St := (X.ret, { tm := [(2, AV.own 0 0 none), (3, AV.int IntKind.i64 0), (4, AV.int IntKind.i64 0)], hp := [(0, Blk.arr 3 x2 false)], nx := 1, k := 0 })
noncomputable def x_u35q_3 (x0 : List UInt8) (x1 : Int) (x2 : List AV) : X × St := (X.ret,
  {
    tm :=
      [(2, AV.nils { sz := 3, kd := NKd.nil }), (3, AV.int IntKind.i64 (IntKind.i64.wrap (x1 + (↑(Lib.countByte (List.take (gv (f_u84q x0)).toNat x0) 10) : Int)))),
        (4, AV.int IntKind.i64 (gv (f_u112q (List.drop (gv (f_u84q x0)).toNat x0))).2.2.2)],
    hp := [], nx := 0, k := 0 })
noncomputable def x_u35q : List (TT_u35q → X × St) := [fun w => x_u35q_0 (sl w).1 (sl w).2, fun w => x_u35q_1 (sl w).1 (sl w).2, fun w => x_u35q_2 (sr w).1 (sr w).2.1 (sr w).2.2, fun w => x_u35q_3 (sr w).1 (sr w).2.1 (sr w).2.2]
noncomputable def st_u35q_0 (x0 : List UInt8) (x1 : Int) : DT (Rd TT_u35q) :=
 .bi (f_u84q x0) (fun y0 =>
  .br (leB y0 x0.length && true)
   (.br (leB y0 x0.length)
    (.br (List.drop y0.toNat x0 == [])
     (.at (.done 0))
     (.bi (f_u112q (List.drop y0.toNat x0)) (fun y1 =>
      .br (y1.2.2.2 != 0)
       (.at (.done 1))
       (.br (leB (↑y1.2.2.1.length : Int) (List.drop y0.toNat x0).length)
        (.at (.next ((.inr (List.drop (↑y1.2.2.1.length : Int).toNat (List.drop y0.toNat x0), IntKind.i64.wrap (x1 + (↑(Lib.countByte (List.take y0.toNat x0) 10) : Int)), [AV.agg [AV.int IntKind.i64 y1.1, AV.int IntKind.i64 (IntKind.i64.wrap (x1 + (↑(Lib.countByte (List.take y0.toNat x0) 10) : Int))), AV.str y1.2.2.1]])))))
        (.no)))
      (.no)))
    (.no))
   (.no))
  (.no)
noncomputable def st_u35q_1 (x0 : List UInt8) (x1 : Int) (x2 : List AV) : DT (Rd TT_u35q) :=
 .bi (f_u84q x0) (fun y0 =>
  .br (leB y0 x0.length && true)
   (.br (leB y0 x0.length)
    (.br (List.drop y0.toNat x0 == [])
     (.at (.done 2))
     (.bi (f_u112q (List.drop y0.toNat x0)) (fun y1 =>
      .br (y1.2.2.2 != 0)
       (.at (.done 3))
       (.br (room (x2.length + 1) 32)
        (.br (leB (↑y1.2.2.1.length : Int) (List.drop y0.toNat x0).length)
         (.at (.next ((.inr (List.drop (↑y1.2.2.1.length : Int).toNat (List.drop y0.toNat x0), IntKind.i64.wrap (x1 + (↑(Lib.countByte (List.take y0.toNat x0) 10) : Int)), x2 ++ [AV.agg [AV.int IntKind.i64 y1.1, AV.int IntKind.i64 (IntKind.i64.wrap (x1 + (↑(Lib.countByte (List.take y0.toNat x0) 10) : Int))), AV.str y1.2.2.1]])))))
         (.no))
        (.no)))
      (.no)))
    (.no))
   (.no))
  (.no)
noncomputable def st_u35q : TT_u35q → DT (Rd TT_u35q) := (Sum.elim (fun v => st_u35q_0 v.1 v.2) (fun v => st_u35q_1 v.1 v.2.1 v.2.2))
noncomputable def l_u35q (v : TT_u35q) : Option (Nat × TT_u35q) := lock (iterO (fun v => (st_u35q v).ev) v)
theorem l_u35q_eq (v : TT_u35q) : l_u35q v = iterO (fun v => (st_u35q v).ev) v := lock_eq _
noncomputable def ll_u35q : LEnt := LE (τ := TT_u35q) (hD hs_u35q) (l_u35q) x_u35q
theorem t_u35q : Go.Eng.Told IP (loopAt F134 0).1 (loopAt F134 0).2 (ll_u35q) := loop_LE (inferInstance : Inhabited TT_u35q) (hs := hs_u35q) (st := st_u35q) (L := []) T50_ok (LOk_of (l := []) (by kernel_rfl) trivial) (l_u35q_eq) (fun v => match v with | (.inl v) => by kernel_rfl | (.inr v) => by kernel_rfl) (fun v => match v with | (.inl v) => by kernel_rfl | (.inr v) => by kernel_rfl)
abbrev B_u53q : Type := List AV × Int × Int
def p_u53q : PArgs := ⟨[.str], []⟩
def r_u53q : List PRes := [⟨false, .tup [.view 3, .int .i64, .int .i64], []⟩]
noncomputable def tr_u53q (x0 : List UInt8) : DT B_u53q :=
 .br (decide ((↑x0.length : Int) > 2048))
  (.at (([], 0, 5)))
  (.bi (pj 0 (l_u35q (Sum.inl (x0, 1)))) (fun y0 =>
   .at (([], 0, 0)))
   (.bi (pj 1 (l_u35q (Sum.inl (x0, 1)))) (fun y0 =>
    .at (([], IntKind.i64.wrap ((sl y0).2 + (↑(Lib.countByte (List.take (gv (f_u84q (sl y0).1)).toNat (sl y0).1) 10) : Int)), (gv (f_u112q (List.drop (gv (f_u84q (sl y0).1)).toNat (sl y0).1))).2.2.2)))
    (.bi (pj 2 (l_u35q (Sum.inl (x0, 1)))) (fun y0 =>
     .at (((sr y0).2.2, 0, 0)))
     (.bi (pj 3 (l_u35q (Sum.inl (x0, 1)))) (fun y0 =>
      .at (([], IntKind.i64.wrap ((sr y0).2.1 + (↑(Lib.countByte (List.take (gv (f_u84q (sr y0).1)).toNat (sr y0).1) 10) : Int)), (gv (f_u112q (List.drop (gv (f_u84q (sr y0).1)).toNat (sr y0).1))).2.2.2)))
      (.no)))))
noncomputable def f_u53q (x0 : List UInt8) : Option B_u53q := lock (tr_u53q x0).ev
theorem f_u53q_eq (x0 : List UInt8) : f_u53q x0 = (tr_u53q x0).ev := lock_eq _
theorem c_u53q : FH IP 134 p_u53q r_u53q (fun (v : List UInt8) => (f_u53q v : Option B_u53q)) := fun_FH (F := F134) (L := [(1013400, ll_u35q)]) (t := fun (v : List UInt8) => tr_u53q v) T50_ok (LOk_of (l := [loopAt F134 0]) (by kernel_rfl) ⟨sel_one (by kernel_rfl) t_u35q, trivial⟩) (by kernel_rfl) (fun v => by kernel_rfl) (fun v => f_u53q_eq v)
noncomputable def T51 : Tab := (134, FE p_u53q r_u53q (fun (v : List UInt8) => (f_u53q v : Option B_u53q))) :: T50
theorem T51_ok : TabOk IP T51 := ⟨FE_ok c_u53q, T50_ok⟩
abbrev B_u62q : Type := Bool
def p_u62q : PArgs := ⟨[.str], []⟩
def r_u62q : List PRes := [⟨false, .bool, []⟩]
noncomputable def tr_u62q (x0 : List UInt8) : DT B_u62q :=
 .bi (f_u53q x0) (fun y0 =>
  .bi (br (y0.2.2 == 0) (some ((↑y0.1.length : Int) == 1)) (some false)) (fun y1 =>
   .bi (br y1 (br (okAt [CS.int IntKind.i64, CS.int IntKind.i64, CS.str] y0.1 0) (some (intOf (cellAt y0.1 0 0) == 1)) none) (some false)) (fun y2 =>
    .bi (br y2 (br (okAt [CS.int IntKind.i64, CS.int IntKind.i64, CS.str] y0.1 0) (some (strOf (cellAt y0.1 0 2) == x0)) none) (some false)) (fun y3 =>
     .at (y3))
     (.no))
    (.no))
   (.no))
  (.no)
noncomputable def f_u62q (x0 : List UInt8) : Option B_u62q := lock (tr_u62q x0).ev
theorem f_u62q_eq (x0 : List UInt8) : f_u62q x0 = (tr_u62q x0).ev := lock_eq _
theorem c_u62q : FH IP 111 p_u62q r_u62q (fun (v : List UInt8) => (f_u62q v : Option B_u62q)) := fun_FH (F := F111) (L := []) (t := fun (v : List UInt8) => tr_u62q v) T51_ok (LOk_of (l := []) (by kernel_rfl) trivial) (by kernel_rfl) (fun v => by kernel_rfl) (fun v => f_u62q_eq v)
noncomputable def T52 : Tab := (111, FE p_u62q r_u62q (fun (v : List UInt8) => (f_u62q v : Option B_u62q))) :: T51
theorem T52_ok : TabOk IP T52 := ⟨FE_ok c_u62q, T51_ok⟩
abbrev B_u107q : Type := Bool
def p_u107q : PArgs := ⟨[.agg [.int .i64, .int .i64, .str, .view 4]], []⟩
def r_u107q : List PRes := [⟨false, .bool, []⟩]
noncomputable def tr_u107q (x0 x1 : Int) (x2 : List UInt8) (x3 : List AV) : DT B_u107q :=
 .bi (br (x0 != 4) (some true) (br (sm (f_u62q x2)) (some (gv (f_u62q x2))) none)) (fun y0 =>
  .at (y0))
  (.no)
noncomputable def f_u107q (x0 x1 : Int) (x2 : List UInt8) (x3 : List AV) : Option B_u107q := lock (tr_u107q x0 x1 x2 x3).ev
theorem f_u107q_eq (x0 x1 : Int) (x2 : List UInt8) (x3 : List AV) : f_u107q x0 x1 x2 x3 = (tr_u107q x0 x1 x2 x3).ev := lock_eq _
theorem c_u107q : FH IP 88 p_u107q r_u107q (fun (v : Int × Int × List UInt8 × List AV) => (f_u107q v.1 v.2.1 v.2.2.1 v.2.2.2 : Option B_u107q)) := fun_FH (F := F88) (L := []) (t := fun (v : Int × Int × List UInt8 × List AV) => tr_u107q v.1 v.2.1 v.2.2.1 v.2.2.2) T52_ok (LOk_of (l := []) (by kernel_rfl) trivial) (by kernel_rfl) (fun v => by kernel_rfl) (fun v => f_u107q_eq v.1 v.2.1 v.2.2.1 v.2.2.2)
noncomputable def T53 : Tab := (88, FE p_u107q r_u107q (fun (v : Int × Int × List UInt8 × List AV) => (f_u107q v.1 v.2.1 v.2.2.1 v.2.2.2 : Option B_u107q))) :: T52
theorem T53_ok : TabOk IP T53 := ⟨FE_ok c_u107q, T52_ok⟩
abbrev B_u92q : Type := Bool
def p_u92q : PArgs := ⟨[.agg [.int .i64, .int .i64, .str, .view 4], .fn (.func 88) []], []⟩
def r_u92q : List PRes := [⟨false, .bool, []⟩]
abbrev GT_u92q : Type := Int → Int → (List UInt8) → (List AV) → Option B_u92q
abbrev B_u8q : Type := Bool
def p_u8q : PArgs := ⟨[.view 4, .fn (.func 109) [.ptr [.fn (.func 88) []]]], []⟩
def r_u8q : List PRes := [⟨false, .bool, []⟩]
abbrev GT_u8q : Type := (List AV) → Option B_u8q
abbrev B_u12q : Type := Int
def p_u12q : PArgs := ⟨[.view 4, .fn (.func 109) [.ptr [.fn (.func 88) []]]], []⟩
def r_u12q : List PRes := [⟨false, .int .i64, []⟩]
abbrev GT_u12q : Type := (List AV) → Option B_u12q
abbrev B_u60q : Type := Bool
def p_u60q : PArgs := ⟨[.agg [.int .i64, .int .i64, .str, .view 4], .ptr [.fn (.func 88) []]], []⟩
def r_u60q : List PRes := [⟨false, .bool, []⟩]
abbrev GT_u60q : Type := Int → Int → (List UInt8) → (List AV) → Option B_u60q
def GH_u92q (G_u92q : GT_u92q) (G_u8q : GT_u8q) (G_u12q : GT_u12q) (G_u60q : GT_u60q) : Prop := FH IP 86 p_u92q r_u92q (fun (v : Int × Int × List UInt8 × List AV) => (G_u92q v.1 v.2.1 v.2.2.1 v.2.2.2 : Option B_u92q)) ∧ FH IP 108 p_u8q r_u8q (fun (v : List AV) => (G_u8q v : Option B_u8q)) ∧ FH IP 133 p_u12q r_u12q (fun (v : List AV) => (G_u12q v : Option B_u12q)) ∧ FH IP 109 p_u60q r_u60q (fun (v : Int × Int × List UInt8 × List AV) => (G_u60q v.1 v.2.1 v.2.2.1 v.2.2.2 : Option B_u60q))
noncomputable def TG_u92q (G_u92q : GT_u92q) (G_u8q : GT_u8q) (G_u12q : GT_u12q) (G_u60q : GT_u60q) : Tab := (86, FE p_u92q r_u92q (fun (v : Int × Int × List UInt8 × List AV) => (G_u92q v.1 v.2.1 v.2.2.1 v.2.2.2 : Option B_u92q))) :: (108, FE p_u8q r_u8q (fun (v : List AV) => (G_u8q v : Option B_u8q))) :: (133, FE p_u12q r_u12q (fun (v : List AV) => (G_u12q v : Option B_u12q))) :: (109, FE p_u60q r_u60q (fun (v : Int × Int × List UInt8 × List AV) => (G_u60q v.1 v.2.1 v.2.2.1 v.2.2.2 : Option B_u60q))) :: T53
theorem TG_u92q_ok (G_u92q : GT_u92q) (G_u8q : GT_u8q) (G_u12q : GT_u12q) (G_u60q : GT_u60q) (hG : GH_u92q G_u92q G_u8q G_u12q G_u60q) : TabOk IP (TG_u92q G_u92q G_u8q G_u12q G_u60q) := ⟨FE_ok (hG.1), FE_ok (hG.2.1), FE_ok (hG.2.2.1), FE_ok (hG.2.2.2), T53_ok⟩
abbrev TT_u10q : Type := List AV × Int × Int
def hs_u10q : List PSt := [⟨[(1013300, .junk), (0, .view 4), (1, .fn (.func 109) [.ptr [.fn (.func 88) []]]), (7, .int .i64), (8, .int .i64)], [], 0, 0⟩]
noncomputable def x_u10q_0 (x0 : List AV) (x1 x2 : Int) : X × St := (X.ret, { tm := [(4, AV.int IntKind.i64 x2)], hp := [], nx := 0, k := 0 })
noncomputable def x_u10q_1 (x0 : List AV) (x1 x2 : Int) : X × St := (X.exit 0, { tm := [(4, AV.junk)], hp := [], nx := 0, k := 0 })
noncomputable def x_u10q : List (TT_u10q → X × St) := [fun w => x_u10q_0 w.1 w.2.1 w.2.2, fun w => x_u10q_1 w.1 w.2.1 w.2.2]
noncomputable def st_u10q_0 (G_u92q : GT_u92q) (G_u8q : GT_u8q) (G_u12q : GT_u12q) (G_u60q : GT_u60q) (x0 : List AV) (x1 x2 : Int) : DT (Rd TT_u10q) :=
 .br (decide (x2 < x1))
  (.br (okAt [CS.int IntKind.i64, CS.int IntKind.i64, CS.str, CS.slice 4] x0 x2)
   (.bi (G_u60q (intOf (cellAt x0 x2 0)) (intOf (cellAt x0 x2 1)) (strOf (cellAt x0 x2 2)) (viewOf (cellAt x0 x2 3))) (fun y0 =>
    .br (y0) (.at (.done 0)) (.at (.next ((x0, x1, IntKind.i64.wrap (x2 + 1))))))
    (.no))
   (.no))
  (.at (.done 1))
noncomputable def st_u10q (G_u92q : GT_u92q) (G_u8q : GT_u8q) (G_u12q : GT_u12q) (G_u60q : GT_u60q) : TT_u10q → DT (Rd TT_u10q) := (fun v => st_u10q_0 G_u92q G_u8q G_u12q G_u60q v.1 v.2.1 v.2.2)
noncomputable def l_u10q (G_u92q : GT_u92q) (G_u8q : GT_u8q) (G_u12q : GT_u12q) (G_u60q : GT_u60q) (v : TT_u10q) : Option (Nat × TT_u10q) := lock (iterO (fun v => (st_u10q G_u92q G_u8q G_u12q G_u60q v).ev) v)
theorem l_u10q_eq (G_u92q : GT_u92q) (G_u8q : GT_u8q) (G_u12q : GT_u12q) (G_u60q : GT_u60q) (v : TT_u10q) : l_u10q G_u92q G_u8q G_u12q G_u60q v = iterO (fun v => (st_u10q G_u92q G_u8q G_u12q G_u60q v).ev) v := lock_eq _
noncomputable def ll_u10q (G_u92q : GT_u92q) (G_u8q : GT_u8q) (G_u12q : GT_u12q) (G_u60q : GT_u60q) : LEnt := LE (τ := TT_u10q) (hD hs_u10q) (l_u10q G_u92q G_u8q G_u12q G_u60q) x_u10q
theorem t_u10q (G_u92q : GT_u92q) (G_u8q : GT_u8q) (G_u12q : GT_u12q) (G_u60q : GT_u60q) (hG : GH_u92q G_u92q G_u8q G_u12q G_u60q) : Go.Eng.Told IP (loopAt F133 0).1 (loopAt F133 0).2 (ll_u10q G_u92q G_u8q G_u12q G_u60q) := loop_LE (inferInstance : Inhabited TT_u10q) (hs := hs_u10q) (st := st_u10q G_u92q G_u8q G_u12q G_u60q) (L := []) (TG_u92q_ok G_u92q G_u8q G_u12q G_u60q hG) (LOk_of (l := []) (by kernel_rfl) trivial) (l_u10q_eq G_u92q G_u8q G_u12q G_u60q) (fun v => by kernel_rfl) (fun v => by kernel_rfl)
noncomputable def tr_u92q (G_u92q : GT_u92q) (G_u8q : GT_u8q) (G_u12q : GT_u12q) (G_u60q : GT_u60q) (x0 x1 : Int) (x2 : List UInt8) (x3 : List AV) : DT B_u92q :=
 .bi (f_u107q x0 x1 x2 x3) (fun y0 =>
  .bi (br y0 (br (sm (G_u8q x3)) (some !gv (G_u8q x3)) none) (some false)) (fun y1 =>
   .at (y1))
   (.no))
  (.no)
noncomputable def tr_u8q (G_u92q : GT_u92q) (G_u8q : GT_u8q) (G_u12q : GT_u12q) (G_u60q : GT_u60q) (x0 : List AV) : DT B_u8q :=
 .bi (G_u12q x0) (fun y0 =>
  .at (decide (y0 ≥ 0)))
  (.no)
noncomputable def tr_u12q (G_u92q : GT_u92q) (G_u8q : GT_u8q) (G_u12q : GT_u12q) (G_u60q : GT_u60q) (x0 : List AV) : DT B_u12q :=
 .bi (pj 0
     (l_u10q G_u92q G_u8q G_u12q G_u60q
       (x0, (↑x0.length : Int), 0))) (fun y0 =>
  .at (y0.2.2))
  (.bi (pj 1
      (l_u10q G_u92q G_u8q G_u12q G_u60q
        (x0, (↑x0.length : Int), 0))) (fun y0 =>
   .at (-1))
   (.no))
noncomputable def tr_u60q (G_u92q : GT_u92q) (G_u8q : GT_u8q) (G_u12q : GT_u12q) (G_u60q : GT_u60q) (x0 x1 : Int) (x2 : List UInt8) (x3 : List AV) : DT B_u60q :=
 .bi (G_u92q x0 x1 x2 x3) (fun y0 =>
  .at (!y0))
  (.no)
noncomputable def N_u92q : Nat → GT_u92q × GT_u8q × GT_u12q × GT_u60q
  | 0 => (fun _ _ _ _ => none, fun _ => none, fun _ => none, fun _ _ _ _ => none)
  | n + 1 => (fun x0 x1 x2 x3 => (tr_u92q ((N_u92q n).1) ((N_u92q n).2.1) ((N_u92q n).2.2.1) ((N_u92q n).2.2.2) x0 x1 x2 x3).ev, fun x0 => (tr_u8q ((N_u92q n).1) ((N_u92q n).2.1) ((N_u92q n).2.2.1) ((N_u92q n).2.2.2) x0).ev, fun x0 => (tr_u12q ((N_u92q n).1) ((N_u92q n).2.1) ((N_u92q n).2.2.1) ((N_u92q n).2.2.2) x0).ev, fun x0 x1 x2 x3 => (tr_u60q ((N_u92q n).1) ((N_u92q n).2.1) ((N_u92q n).2.2.1) ((N_u92q n).2.2.2) x0 x1 x2 x3).ev)
noncomputable def f_u92q (x0 x1 : Int) (x2 : List UInt8) (x3 : List AV) : Option B_u92q := limO fun n => (N_u92q n).1 x0 x1 x2 x3
noncomputable def f_u8q (x0 : List AV) : Option B_u8q := limO fun n => (N_u92q n).2.1 x0
noncomputable def f_u12q (x0 : List AV) : Option B_u12q := limO fun n => (N_u92q n).2.2.1 x0
noncomputable def f_u60q (x0 x1 : Int) (x2 : List UInt8) (x3 : List AV) : Option B_u60q := limO fun n => (N_u92q n).2.2.2 x0 x1 x2 x3
theorem N_u92q_ok : ∀ n, GH_u92q ((N_u92q n).1) ((N_u92q n).2.1) ((N_u92q n).2.2.1) ((N_u92q n).2.2.2)
  | 0 => ⟨(fun v y h => nomatch h), (fun v y h => nomatch h), (fun v y h => nomatch h), (fun v y h => nomatch h)⟩
  | n + 1 => have hG := N_u92q_ok n
    ⟨fun_FH (F := F86) (L := []) (t := fun (v : Int × Int × List UInt8 × List AV) => tr_u92q ((N_u92q n).1) ((N_u92q n).2.1) ((N_u92q n).2.2.1) ((N_u92q n).2.2.2) v.1 v.2.1 v.2.2.1 v.2.2.2) (TG_u92q_ok ((N_u92q n).1) ((N_u92q n).2.1) ((N_u92q n).2.2.1) ((N_u92q n).2.2.2) hG) (LOk_of (l := []) (by kernel_rfl) trivial) (by kernel_rfl) (fun v => by kernel_rfl) (fun v => rfl), fun_FH (F := F108) (L := []) (t := fun (v : List AV) => tr_u8q ((N_u92q n).1) ((N_u92q n).2.1) ((N_u92q n).2.2.1) ((N_u92q n).2.2.2) v) (TG_u92q_ok ((N_u92q n).1) ((N_u92q n).2.1) ((N_u92q n).2.2.1) ((N_u92q n).2.2.2) hG) (LOk_of (l := []) (by kernel_rfl) trivial) (by kernel_rfl) (fun v => by kernel_rfl) (fun v => rfl), fun_FH (F := F133) (L := [(1013300, ll_u10q ((N_u92q n).1) ((N_u92q n).2.1) ((N_u92q n).2.2.1) ((N_u92q n).2.2.2))]) (t := fun (v : List AV) => tr_u12q ((N_u92q n).1) ((N_u92q n).2.1) ((N_u92q n).2.2.1) ((N_u92q n).2.2.2) v) (TG_u92q_ok ((N_u92q n).1) ((N_u92q n).2.1) ((N_u92q n).2.2.1) ((N_u92q n).2.2.2) hG) (LOk_of (l := [loopAt F133 0]) (by kernel_rfl) ⟨sel_one (by kernel_rfl) (t_u10q ((N_u92q n).1) ((N_u92q n).2.1) ((N_u92q n).2.2.1) ((N_u92q n).2.2.2) hG), trivial⟩) (by kernel_rfl) (fun v => by kernel_rfl) (fun v => rfl), fun_FH (F := F109) (L := []) (t := fun (v : Int × Int × List UInt8 × List AV) => tr_u60q ((N_u92q n).1) ((N_u92q n).2.1) ((N_u92q n).2.2.1) ((N_u92q n).2.2.2) v.1 v.2.1 v.2.2.1 v.2.2.2) (TG_u92q_ok ((N_u92q n).1) ((N_u92q n).2.1) ((N_u92q n).2.2.1) ((N_u92q n).2.2.2) hG) (LOk_of (l := []) (by kernel_rfl) trivial) (by kernel_rfl) (fun v => by kernel_rfl) (fun v => rfl)⟩
theorem c_u92q : FH IP 86 p_u92q r_u92q (fun (v : Int × Int × List UInt8 × List AV) => (f_u92q v.1 v.2.1 v.2.2.1 v.2.2.2 : Option B_u92q)) := lim_FH (p := p_u92q) (rs := r_u92q) (s := fun n (v : Int × Int × List UInt8 × List AV) => (N_u92q n).1 v.1 v.2.1 v.2.2.1 v.2.2.2) fun n => (N_u92q_ok n).1
theorem c_u8q : FH IP 108 p_u8q r_u8q (fun (v : List AV) => (f_u8q v : Option B_u8q)) := lim_FH (p := p_u8q) (rs := r_u8q) (s := fun n (v : List AV) => (N_u92q n).2.1 v) fun n => (N_u92q_ok n).2.1
theorem c_u12q : FH IP 133 p_u12q r_u12q (fun (v : List AV) => (f_u12q v : Option B_u12q)) := lim_FH (p := p_u12q) (rs := r_u12q) (s := fun n (v : List AV) => (N_u92q n).2.2.1 v) fun n => (N_u92q_ok n).2.2.1
theorem c_u60q : FH IP 109 p_u60q r_u60q (fun (v : Int × Int × List UInt8 × List AV) => (f_u60q v.1 v.2.1 v.2.2.1 v.2.2.2 : Option B_u60q)) := lim_FH (p := p_u60q) (rs := r_u60q) (s := fun n (v : Int × Int × List UInt8 × List AV) => (N_u92q n).2.2.2 v.1 v.2.1 v.2.2.1 v.2.2.2) fun n => (N_u92q_ok n).2.2.2
noncomputable def T54 : Tab := (86, FE p_u92q r_u92q (fun (v : Int × Int × List UInt8 × List AV) => (f_u92q v.1 v.2.1 v.2.2.1 v.2.2.2 : Option B_u92q))) :: T53
theorem T54_ok : TabOk IP T54 := ⟨FE_ok c_u92q, T53_ok⟩
noncomputable def T55 : Tab := (108, FE p_u8q r_u8q (fun (v : List AV) => (f_u8q v : Option B_u8q))) :: T54
theorem T55_ok : TabOk IP T55 := ⟨FE_ok c_u8q, T54_ok⟩
noncomputable def T56 : Tab := (133, FE p_u12q r_u12q (fun (v : List AV) => (f_u12q v : Option B_u12q))) :: T55
theorem T56_ok : TabOk IP T56 := ⟨FE_ok c_u12q, T55_ok⟩
noncomputable def T57 : Tab := (109, FE p_u60q r_u60q (fun (v : Int × Int × List UInt8 × List AV) => (f_u60q v.1 v.2.1 v.2.2.1 v.2.2.2 : Option B_u60q))) :: T56
theorem T57_ok : TabOk IP T57 := ⟨FE_ok c_u60q, T56_ok⟩
abbrev B_u59q : Type := Int
def p_u59q : PArgs := ⟨[.agg [.int .i64, .int .i64, .str, .view 4]], []⟩
def r_u59q : List PRes := [⟨false, .int .i64, []⟩]
noncomputable def tr_u59q (x0 x1 : Int) (x2 : List UInt8) (x3 : List AV) : DT B_u59q :=
 .bi (f_u104q x0 x1 x2 x3) (fun y0 =>
  .bi (br (decide (y0 > 64)) (some true) (br (sm (f_u105q x0 x1 x2 x3)) (some (decide (gv (f_u105q x0 x1 x2 x3) > 8))) none)) (fun y1 =>
   .br (y1)
    (.at (5))
    (.bi (f_u106q x0 x1 x2 x3) (fun y2 =>
     .br (!y2)
      (.at (1))
      (.bi (f_u92q x0 x1 x2 x3) (fun y3 =>
       .br (!y3) (.at (4)) (.at (0)))
       (.no)))
     (.no)))
   (.no))
  (.no)
noncomputable def f_u59q (x0 x1 : Int) (x2 : List UInt8) (x3 : List AV) : Option B_u59q := lock (tr_u59q x0 x1 x2 x3).ev
theorem f_u59q_eq (x0 x1 : Int) (x2 : List UInt8) (x3 : List AV) : f_u59q x0 x1 x2 x3 = (tr_u59q x0 x1 x2 x3).ev := lock_eq _
theorem c_u59q : FH IP 73 p_u59q r_u59q (fun (v : Int × Int × List UInt8 × List AV) => (f_u59q v.1 v.2.1 v.2.2.1 v.2.2.2 : Option B_u59q)) := fun_FH (F := F73) (L := []) (t := fun (v : Int × Int × List UInt8 × List AV) => tr_u59q v.1 v.2.1 v.2.2.1 v.2.2.2) T57_ok (LOk_of (l := []) (by kernel_rfl) trivial) (by kernel_rfl) (fun v => by kernel_rfl) (fun v => f_u59q_eq v.1 v.2.1 v.2.2.1 v.2.2.2)
noncomputable def T58 : Tab := (73, FE p_u59q r_u59q (fun (v : Int × Int × List UInt8 × List AV) => (f_u59q v.1 v.2.1 v.2.2.1 v.2.2.2 : Option B_u59q))) :: T57
theorem T58_ok : TabOk IP T58 := ⟨FE_ok c_u59q, T57_ok⟩
abbrev B_u91q : Type := Bool
def p_u91q : PArgs := ⟨[.int .i64], []⟩
def r_u91q : List PRes := [⟨false, .bool, []⟩]
noncomputable def tr_u91q (x0 : Int) : DT B_u91q :=
 .bi (br (decide (x0 ≥ 1)) (some (decide (x0 ≤ 5))) (some false)) (fun y0 =>
  .at (y0))
  (.no)
noncomputable def f_u91q (x0 : Int) : Option B_u91q := lock (tr_u91q x0).ev
theorem f_u91q_eq (x0 : Int) : f_u91q x0 = (tr_u91q x0).ev := lock_eq _
theorem c_u91q : FH IP 74 p_u91q r_u91q (fun (v : Int) => (f_u91q v : Option B_u91q)) := fun_FH (F := F74) (L := []) (t := fun (v : Int) => tr_u91q v) T58_ok (LOk_of (l := []) (by kernel_rfl) trivial) (by kernel_rfl) (fun v => by kernel_rfl) (fun v => f_u91q_eq v)
noncomputable def T59 : Tab := (74, FE p_u91q r_u91q (fun (v : Int) => (f_u91q v : Option B_u91q))) :: T58
theorem T59_ok : TabOk IP T59 := ⟨FE_ok c_u91q, T58_ok⟩
abbrev TT_u31q : Type := List UInt8 × List AV × Int × Int
def hs_u31q : List PSt := [⟨[(1008900, .junk), (0, .str), (8, .view 2), (9, .int .i64), (10, .int .i64)], [], 0, 0⟩]
noncomputable def x_u31q_0 (x0 : List UInt8) (x1 : List AV) (x2 x3 : Int) : X × St := (X.ret, { tm := [(4, AV.int IntKind.i64 0), (5, AV.int IntKind.i64 3)], hp := [], nx := 0, k := 0 })
noncomputable def x_u31q_1 (x0 : List UInt8) (x1 : List AV) (x2 x3 : Int) : X × St := (X.ret, { tm := [(4, AV.int IntKind.i64 (intOf (cellAt x1 x3 1))), (5, AV.int IntKind.i64 0)], hp := [], nx := 0, k := 0 })
noncomputable def x_u31q_2 (x0 : List UInt8) (x1 : List AV) (x2 x3 : Int) : X × St := (X.exit 0, { tm := [(4, AV.junk), (5, AV.junk)], hp := [], nx := 0, k := 0 })
noncomputable def x_u31q : List (TT_u31q → X × St) := [fun w => x_u31q_0 w.1 w.2.1 w.2.2.1 w.2.2.2, fun w => x_u31q_1 w.1 w.2.1 w.2.2.1 w.2.2.2, fun w => x_u31q_2 w.1 w.2.1 w.2.2.1 w.2.2.2]
noncomputable def st_u31q_0 (x0 : List UInt8) (x1 : List AV) (x2 x3 : Int) : DT (Rd TT_u31q) :=
 .br (decide (x3 < x2))
  (.br (okAt [CS.str, CS.int IntKind.i64] x1 x3)
   (.br (strOf (cellAt x1 x3 0) == x0)
    (.bi (f_u91q (intOf (cellAt x1 x3 1))) (fun y0 =>
     .br (!y0) (.at (.done 0)) (.at (.done 1)))
     (.no))
    (.at (.next ((x0, x1, x2, IntKind.i64.wrap (x3 + 1))))))
   (.no))
  (.at (.done 2))
noncomputable def st_u31q : TT_u31q → DT (Rd TT_u31q) := (fun v => st_u31q_0 v.1 v.2.1 v.2.2.1 v.2.2.2)
noncomputable def l_u31q (v : TT_u31q) : Option (Nat × TT_u31q) := lock (iterO (fun v => (st_u31q v).ev) v)
theorem l_u31q_eq (v : TT_u31q) : l_u31q v = iterO (fun v => (st_u31q v).ev) v := lock_eq _
noncomputable def ll_u31q : LEnt := LE (τ := TT_u31q) (hD hs_u31q) (l_u31q) x_u31q
theorem t_u31q : Go.Eng.Told IP (loopAt F89 0).1 (loopAt F89 0).2 (ll_u31q) := loop_LE (inferInstance : Inhabited TT_u31q) (hs := hs_u31q) (st := st_u31q) (L := []) T59_ok (LOk_of (l := []) (by kernel_rfl) trivial) (l_u31q_eq) (fun v => by kernel_rfl) (fun v => by kernel_rfl)
abbrev B_u44q : Type := Int × Int
def p_u44q : PArgs := ⟨[.str, .view 2], []⟩
def r_u44q : List PRes := [⟨false, .tup [.int .i64, .int .i64], []⟩]
noncomputable def tr_u44q (x0 : List UInt8) (x1 : List AV) : DT B_u44q :=
 .bi (pj 0 (l_u31q (x0, x1, (↑x1.length : Int), 0))) (fun y0 =>
  .at ((0, 3)))
  (.bi (pj 1 (l_u31q (x0, x1, (↑x1.length : Int), 0))) (fun y0 =>
   .at ((intOf (cellAt y0.2.1 y0.2.2.2 1), 0)))
   (.bi (pj 2 (l_u31q (x0, x1, (↑x1.length : Int), 0))) (fun y0 =>
    .at ((0, 4)))
    (.no)))
noncomputable def f_u44q (x0 : List UInt8) (x1 : List AV) : Option B_u44q := lock (tr_u44q x0 x1).ev
theorem f_u44q_eq (x0 : List UInt8) (x1 : List AV) : f_u44q x0 x1 = (tr_u44q x0 x1).ev := lock_eq _
theorem c_u44q : FH IP 89 p_u44q r_u44q (fun (v : List UInt8 × List AV) => (f_u44q v.1 v.2 : Option B_u44q)) := fun_FH (F := F89) (L := [(1008900, ll_u31q)]) (t := fun (v : List UInt8 × List AV) => tr_u44q v.1 v.2) T59_ok (LOk_of (l := [loopAt F89 0]) (by kernel_rfl) ⟨sel_one (by kernel_rfl) t_u31q, trivial⟩) (by kernel_rfl) (fun v => by kernel_rfl) (fun v => f_u44q_eq v.1 v.2)
noncomputable def T60 : Tab := (89, FE p_u44q r_u44q (fun (v : List UInt8 × List AV) => (f_u44q v.1 v.2 : Option B_u44q))) :: T59
theorem T60_ok : TabOk IP T60 := ⟨FE_ok c_u44q, T59_ok⟩
abbrev TT_u43q : Type := Int × List AV × List AV × Int × Int
def hs_u43q : List PSt := [⟨[(1009000, .junk), (0, .int .i64), (1, .view 1), (10, .view 1), (11, .int .i64), (12, .int .i64)], [], 0, 0⟩]
noncomputable def x_u43q_0 (x0 : Int) (x1 x2 : List AV) (x3 x4 : Int) : X × St := (X.ret, { tm := [(0, AV.int IntKind.i64 x0), (1, AV.view 1 x1), (4, AV.int IntKind.i64 0), (5, AV.bool false)], hp := [], nx := 0, k := 0 })
noncomputable def x_u43q_1 (x0 : Int) (x1 x2 : List AV) (x3 x4 : Int) : X × St := (X.exit 0, { tm := [(0, AV.int IntKind.i64 x0), (1, AV.view 1 x1), (4, AV.junk), (5, AV.junk)], hp := [], nx := 0, k := 0 })
noncomputable def x_u43q : List (TT_u43q → X × St) := [fun w => x_u43q_0 w.1 w.2.1 w.2.2.1 w.2.2.2.1 w.2.2.2.2, fun w => x_u43q_1 w.1 w.2.1 w.2.2.1 w.2.2.2.1 w.2.2.2.2]
noncomputable def st_u43q_0 (x0 : Int) (x1 x2 : List AV) (x3 x4 : Int) : DT (Rd TT_u43q) :=
 .br (decide (x4 < x3))
  (.br (okAt [CS.int IntKind.i64] x2 x4)
   (.bi (f_u91q (intOf (cellAt x2 x4 0))) (fun y0 =>
    .br (!y0) (.at (.done 0)) (.at (.next ((x0, x1, x2, x3, IntKind.i64.wrap (x4 + 1))))))
    (.no))
   (.no))
  (.at (.done 1))
noncomputable def st_u43q : TT_u43q → DT (Rd TT_u43q) := (fun v => st_u43q_0 v.1 v.2.1 v.2.2.1 v.2.2.2.1 v.2.2.2.2)
noncomputable def l_u43q (v : TT_u43q) : Option (Nat × TT_u43q) := lock (iterO (fun v => (st_u43q v).ev) v)
theorem l_u43q_eq (v : TT_u43q) : l_u43q v = iterO (fun v => (st_u43q v).ev) v := lock_eq _
noncomputable def ll_u43q : LEnt := LE (τ := TT_u43q) (hD hs_u43q) (l_u43q) x_u43q
theorem t_u43q : Go.Eng.Told IP (loopAt F90 0).1 (loopAt F90 0).2 (ll_u43q) := loop_LE (inferInstance : Inhabited TT_u43q) (hs := hs_u43q) (st := st_u43q) (L := []) T60_ok (LOk_of (l := []) (by kernel_rfl) trivial) (l_u43q_eq) (fun v => by kernel_rfl) (fun v => by kernel_rfl)
abbrev B_u113q : Type := Int × Bool
def p_u113q : PArgs := ⟨[.int .i64, .int .i64], []⟩
def r_u113q : List PRes := [⟨false, .tup [.int .i64, .bool], []⟩]
noncomputable def tr_u113q (x0 x1 : Int) : DT B_u113q :=
 .br (x0 == 16)
  (.at ((5, x1 == 5)))
  (.br (x0 == 9)
   (.bi (br (x1 == 1) (some true) (some (x1 == 2))) (fun y0 =>
    .bi (br y0 (some true) (some (x1 == 3))) (fun y1 =>
     .at ((x1, y1)))
     (.no))
    (.no))
   (.at ((0, false))))
noncomputable def f_u113q (x0 x1 : Int) : Option B_u113q := lock (tr_u113q x0 x1).ev
theorem f_u113q_eq (x0 x1 : Int) : f_u113q x0 x1 = (tr_u113q x0 x1).ev := lock_eq _
theorem c_u113q : FH IP 112 p_u113q r_u113q (fun (v : Int × Int) => (f_u113q v.1 v.2 : Option B_u113q)) := fun_FH (F := F112) (L := []) (t := fun (v : Int × Int) => tr_u113q v.1 v.2) T60_ok (LOk_of (l := []) (by kernel_rfl) trivial) (by kernel_rfl) (fun v => by kernel_rfl) (fun v => f_u113q_eq v.1 v.2)
noncomputable def T61 : Tab := (112, FE p_u113q r_u113q (fun (v : Int × Int) => (f_u113q v.1 v.2 : Option B_u113q))) :: T60
theorem T61_ok : TabOk IP T61 := ⟨FE_ok c_u113q, T60_ok⟩
abbrev B_u30q : Type := List (AV × AV)
def p_u30q : PArgs := ⟨[], []⟩
def r_u30q : List PRes := [⟨false, .mref 0, [(0, .mp)]⟩]
noncomputable def tr_u30q : DT B_u30q :=
 .at ([(AV.agg [AV.int IntKind.i64 5, AV.int IntKind.i64 1, AV.int IntKind.i64 1], AV.int IntKind.i64 1),
  (AV.agg [AV.int IntKind.i64 5, AV.int IntKind.i64 2, AV.int IntKind.i64 2], AV.int IntKind.i64 2),
  (AV.agg [AV.int IntKind.i64 5, AV.int IntKind.i64 3, AV.int IntKind.i64 3], AV.int IntKind.i64 3),
  (AV.agg [AV.int IntKind.i64 5, AV.int IntKind.i64 4, AV.int IntKind.i64 1], AV.int IntKind.i64 4),
  (AV.agg [AV.int IntKind.i64 6, AV.int IntKind.i64 1, AV.int IntKind.i64 1], AV.int IntKind.i64 1),
  (AV.agg [AV.int IntKind.i64 6, AV.int IntKind.i64 2, AV.int IntKind.i64 2], AV.int IntKind.i64 2),
  (AV.agg [AV.int IntKind.i64 6, AV.int IntKind.i64 3, AV.int IntKind.i64 3], AV.int IntKind.i64 3),
  (AV.agg [AV.int IntKind.i64 6, AV.int IntKind.i64 4, AV.int IntKind.i64 1], AV.int IntKind.i64 4),
  (AV.agg [AV.int IntKind.i64 6, AV.int IntKind.i64 4, AV.int IntKind.i64 4], AV.int IntKind.i64 1),
  (AV.agg [AV.int IntKind.i64 7, AV.int IntKind.i64 1, AV.int IntKind.i64 1], AV.int IntKind.i64 1),
  (AV.agg [AV.int IntKind.i64 7, AV.int IntKind.i64 1, AV.int IntKind.i64 2], AV.int IntKind.i64 2),
  (AV.agg [AV.int IntKind.i64 7, AV.int IntKind.i64 1, AV.int IntKind.i64 3], AV.int IntKind.i64 3),
  (AV.agg [AV.int IntKind.i64 7, AV.int IntKind.i64 2, AV.int IntKind.i64 1], AV.int IntKind.i64 2),
  (AV.agg [AV.int IntKind.i64 7, AV.int IntKind.i64 2, AV.int IntKind.i64 3], AV.int IntKind.i64 2),
  (AV.agg [AV.int IntKind.i64 7, AV.int IntKind.i64 3, AV.int IntKind.i64 1], AV.int IntKind.i64 3),
  (AV.agg [AV.int IntKind.i64 7, AV.int IntKind.i64 3, AV.int IntKind.i64 2], AV.int IntKind.i64 2),
  (AV.agg [AV.int IntKind.i64 8, AV.int IntKind.i64 1, AV.int IntKind.i64 1], AV.int IntKind.i64 1),
  (AV.agg [AV.int IntKind.i64 8, AV.int IntKind.i64 2, AV.int IntKind.i64 1], AV.int IntKind.i64 2),
  (AV.agg [AV.int IntKind.i64 8, AV.int IntKind.i64 2, AV.int IntKind.i64 2], AV.int IntKind.i64 1),
  (AV.agg [AV.int IntKind.i64 8, AV.int IntKind.i64 3, AV.int IntKind.i64 1], AV.int IntKind.i64 3)])
noncomputable def f_u30q : Option B_u30q := lock (tr_u30q).ev
theorem f_u30q_eq : f_u30q = (tr_u30q).ev := lock_eq _
theorem c_u30q : FH IP 135 p_u30q r_u30q (fun (v : Unit) => (f_u30q : Option B_u30q)) := cst_FH (fun v => f_u30q_eq) (fun v => by kernel_rfl)
noncomputable def T62 : Tab := (135, FE p_u30q r_u30q (fun (v : Unit) => (f_u30q : Option B_u30q))) :: T61
theorem T62_ok : TabOk IP T62 := ⟨FE_ok c_u30q, T61_ok⟩
end Go.Proofs.H15e

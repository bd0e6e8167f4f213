/- Functions over plain data. Printed by a program of mine. -/
import Derived.Test.YtbhffafppahmjaaGreatDoorD11_3
import Derived.KernelRfl
set_option linter.unusedVariables false
set_option linter.unusedSimpArgs false
set_option linter.unnecessarySimpa false
namespace Go.Proofs.H11
open Go Go.Eng
set_option maxRecDepth 100000
abbrev B_u43q : Type := Int × Bool
def p_u43q : PArgs := ⟨[.int .i64, .view 1], []⟩
def r_u43q : List PRes := [⟨false, .tup [.int .i64, .bool], []⟩]
noncomputable def tr_u43q (x0 : Int) (x1 : List AV) : DT B_u43q :=
 .bi (pj 0 (l_u26q (x0, x1, x1, (↑x1.length : Int), 0))) (fun y0 =>
  .at ((0, false)))
  (.bi (pj 1 (l_u26q (x0, x1, x1, (↑x1.length : Int), 0))) (fun y0 =>
   .br ((↑y0.snd.fst.length : Int) == 1)
    (.br (okAt [CS.int IntKind.i64] y0.snd.fst 0)
     (.bi (f_u94q y0.fst (intOf (cellAt y0.snd.fst 0 0))) (fun y1 =>
      .br (!y1.snd) (.at ((0, false))) (.at ((y1.fst, true))))
      (.no))
     (.no))
    (.br ((↑y0.snd.fst.length : Int) == 2)
     (.br (okAt [CS.int IntKind.i64] y0.snd.fst 0)
      (.br (okAt [CS.int IntKind.i64] y0.snd.fst 1)
       (.bi (f_u95q y0.fst (intOf (cellAt y0.snd.fst 0 0)) (intOf (cellAt y0.snd.fst 1 0))) (fun y1 =>
        .br (!y1.snd) (.at ((0, false))) (.at ((y1.fst, true))))
        (.no))
       (.no))
      (.no))
     (.br ((↑y0.snd.fst.length : Int) == 3)
      (.br (okAt [CS.int IntKind.i64] y0.snd.fst 1)
       (.br (y0.fst == 19)
        (.br (okAt [CS.int IntKind.i64] y0.snd.fst 0)
         (.br (intOf (cellAt y0.snd.fst 0 0) == 5)
          (.br (okAt [CS.int IntKind.i64] y0.snd.fst 1)
           (.br (okAt [CS.int IntKind.i64] y0.snd.fst 2)
            (.br (!intOf (cellAt y0.snd.fst 1 0) == intOf (cellAt y0.snd.fst 2 0)) (.at ((0, false))) (.at ((intOf (cellAt y0.snd.fst 1 0), true))))
            (.no))
           (.no))
          (.at ((0, false))))
         (.no))
        (.at ((0, false))))
       (.no))
      (.at ((0, false))))))
   (.no))
noncomputable def f_u43q (x0 : Int) (x1 : List AV) : Option B_u43q := lock (tr_u43q x0 x1).ev
theorem f_u43q_eq (x0 : Int) (x1 : List AV) : f_u43q x0 x1 = (tr_u43q x0 x1).ev := lock_eq _
theorem c_u43q : FH IP 14 p_u43q r_u43q (fun (v : Int × List AV) => (f_u43q v.1 v.2 : Option B_u43q)) := fun_FH (F := F14) (L := [(1001400, ll_u26q)]) (t := fun (v : Int × List AV) => tr_u43q v.1 v.2) T55_ok (LOk_of (l := [loopAt F14 0]) (by kernel_rfl) ⟨sel_one (by kernel_rfl) t_u26q, trivial⟩) (by kernel_rfl) (fun v => by kernel_rfl) (fun v => f_u43q_eq v.1 v.2)
noncomputable def T56 : Tab := (14, FE p_u43q r_u43q (fun (v : Int × List AV) => (f_u43q v.1 v.2 : Option B_u43q))) :: T55
theorem T56_ok : TabOk IP T56 := ⟨FE_ok c_u43q, T55_ok⟩
abbrev TT_u19q : Type := List UInt8 × List AV × Int × Int
def hs_u19q : List PSt := [⟨[(1004000, .junk), (0, .str), (8, .view 2), (9, .int .i64), (10, .int .i64)], [], 0, 0⟩]
noncomputable def x_u19q_0 (x0 : List UInt8) (x1 : List AV) (x2 : Int) (x3 : Int) : X × St := (X.ret, { tm := [(4, AV.int IntKind.i64 0), (5, AV.int IntKind.i64 3)], hp := [], nx := 0, k := 0 })
noncomputable def x_u19q_1 (x0 : List UInt8) (x1 : List AV) (x2 : Int) (x3 : Int) : X × St := (X.ret, { tm := [(4, AV.int IntKind.i64 (intOf (cellAt x1 x3 1))), (5, AV.int IntKind.i64 0)], hp := [], nx := 0, k := 0 })
noncomputable def x_u19q_2 (x0 : List UInt8) (x1 : List AV) (x2 : Int) (x3 : Int) : X × St := (X.exit 0, { tm := [(4, AV.junk), (5, AV.junk)], hp := [], nx := 0, k := 0 })
noncomputable def x_u19q : List (TT_u19q → X × St) := [fun w => x_u19q_0 w.1 w.2.1 w.2.2.1 w.2.2.2, fun w => x_u19q_1 w.1 w.2.1 w.2.2.1 w.2.2.2, fun w => x_u19q_2 w.1 w.2.1 w.2.2.1 w.2.2.2]
noncomputable def st_u19q_0 (x0 : List UInt8) (x1 : List AV) (x2 : Int) (x3 : Int) : DT (Rd TT_u19q) :=
 .br (decide (x3 < x2))
  (.br (okAt [CS.str, CS.int IntKind.i64] x1 x3)
   (.br (strOf (cellAt x1 x3 0) == x0)
    (.bi (f_u63q (intOf (cellAt x1 x3 1))) (fun y0 =>
     .br (!y0) (.at (.done 0)) (.at (.done 1)))
     (.no))
    (.at (.next ((x0, x1, x2, IntKind.i64.wrap (x3 + 1))))))
   (.no))
  (.at (.done 2))
noncomputable def st_u19q : TT_u19q → DT (Rd TT_u19q) := (fun v => st_u19q_0 v.1 v.2.1 v.2.2.1 v.2.2.2)
noncomputable def l_u19q (v : TT_u19q) : Option (Nat × TT_u19q) := lock (iterO (fun v => (st_u19q v).ev) v)
theorem l_u19q_eq (v : TT_u19q) : l_u19q v = iterO (fun v => (st_u19q v).ev) v := lock_eq _
noncomputable def ll_u19q : LEnt := LE (τ := TT_u19q) (hD hs_u19q) (l_u19q) x_u19q
theorem t_u19q : Go.Eng.Told IP (loopAt F40 0).1 (loopAt F40 0).2 (ll_u19q) := loop_LE (inferInstance : Inhabited TT_u19q) (hs := hs_u19q) (st := st_u19q) (L := []) T56_ok (LOk_of (l := []) (by kernel_rfl) trivial) (l_u19q_eq) (fun v => by kernel_rfl) (fun v => by kernel_rfl)
abbrev B_u27q : Type := Int × Int
def p_u27q : PArgs := ⟨[.str, .view 2], []⟩
def r_u27q : List PRes := [⟨false, .tup [.int .i64, .int .i64], []⟩]
noncomputable def tr_u27q (x0 : List UInt8) (x1 : List AV) : DT B_u27q :=
 .bi (pj 0 (l_u19q (x0, x1, (↑x1.length : Int), 0))) (fun y0 =>
  .at ((0, 3)))
  (.bi (pj 1 (l_u19q (x0, x1, (↑x1.length : Int), 0))) (fun y0 =>
   .at ((intOf (cellAt y0.snd.fst y0.snd.snd.snd 1), 0)))
   (.bi (pj 2 (l_u19q (x0, x1, (↑x1.length : Int), 0))) (fun y0 =>
    .at ((0, 4)))
    (.no)))
noncomputable def f_u27q (x0 : List UInt8) (x1 : List AV) : Option B_u27q := lock (tr_u27q x0 x1).ev
theorem f_u27q_eq (x0 : List UInt8) (x1 : List AV) : f_u27q x0 x1 = (tr_u27q x0 x1).ev := lock_eq _
theorem c_u27q : FH IP 40 p_u27q r_u27q (fun (v : List UInt8 × List AV) => (f_u27q v.1 v.2 : Option B_u27q)) := fun_FH (F := F40) (L := [(1004000, ll_u19q)]) (t := fun (v : List UInt8 × List AV) => tr_u27q v.1 v.2) T56_ok (LOk_of (l := [loopAt F40 0]) (by kernel_rfl) ⟨sel_one (by kernel_rfl) t_u19q, trivial⟩) (by kernel_rfl) (fun v => by kernel_rfl) (fun v => f_u27q_eq v.1 v.2)
noncomputable def T57 : Tab := (40, FE p_u27q r_u27q (fun (v : List UInt8 × List AV) => (f_u27q v.1 v.2 : Option B_u27q))) :: T56
theorem T57_ok : TabOk IP T57 := ⟨FE_ok c_u27q, T56_ok⟩
abbrev B_u105q : Type := Int × Int
def p_u105q : PArgs := ⟨[.agg [.int .i64, .int .i64, .str, .view 4], .view 2], []⟩
def r_u105q : List PRes := [⟨false, .tup [.int .i64, .int .i64], []⟩]
abbrev GT_u105q : Type := Int → Int → (List UInt8) → (List AV) → (List AV) → Option B_u105q
def GH_u105q (G_u105q : GT_u105q) : Prop := FH IP 26 p_u105q r_u105q (fun (v : Int × Int × List UInt8 × List AV × List AV) => (G_u105q v.1 v.2.1 v.2.2.1 v.2.2.2.1 v.2.2.2.2 : Option B_u105q))
noncomputable def TG_u105q (G_u105q : GT_u105q) : Tab := (26, FE p_u105q r_u105q (fun (v : Int × Int × List UInt8 × List AV × List AV) => (G_u105q v.1 v.2.1 v.2.2.1 v.2.2.2.1 v.2.2.2.2 : Option B_u105q))) :: T57
theorem TG_u105q_ok (G_u105q : GT_u105q) (hG : GH_u105q G_u105q) : TabOk IP (TG_u105q G_u105q) := ⟨FE_ok (hG), T57_ok⟩
abbrev TT_u78q : Type := (List AV × List AV × Int × Int × Int × Int × List UInt8 × List AV) ⊕ (List AV × List AV × Int × Int × Int × Int × List UInt8 × List AV × List AV)
def hs_u78q : List PSt := [⟨[(1002600, .junk), (1, .view 2), (2, .ref 0 0 0), (6, .nils 1), (30, .view 4), (31, .int .i64), (32, .int .i64)], [(0, .box [.int .i64, .int .i64, .str, .view 4] false)], 1, 0⟩, ⟨[(1002600, .junk), (1, .view 2), (2, .ref 0 0 0), (6, .own 1 0), (30, .view 4), (31, .int .i64), (32, .int .i64)], [(0, .box [.int .i64, .int .i64, .str, .view 4] false), (1, .arr 1 false)], 2, 0⟩]
noncomputable def x_u78q_0 (G_u105q : GT_u105q) (x0 : List AV) (x1 : List AV) (x2 : Int) (x3 : Int) (x4 : Int) (x5 : Int) (x6 : List UInt8) (x7 : List AV) : X × St := (X.ret,
  {
    tm :=
      [(2, AV.ref 0 0 0), (4, AV.int IntKind.i64 0),
        (5, AV.int IntKind.i64 (gv (G_u105q (intOf (cellAt x1 x3 0)) (intOf (cellAt x1 x3 1)) (strOf (cellAt x1 x3 2)) (viewOf (cellAt x1 x3 3)) x0)).snd),
        (6, AV.nils { sz := 1, kd := NKd.nil })],
    hp := [(0, Blk.box [AV.int IntKind.i64 x4, AV.int IntKind.i64 x5, AV.str x6, AV.view 4 x7] false)], nx := 1, k := 0 })
noncomputable def x_u78q_1 (G_u105q : GT_u105q) (x0 : List AV) (x1 : List AV) (x2 : Int) (x3 : Int) (x4 : Int) (x5 : Int) (x6 : List UInt8) (x7 : List AV) : X × St := (X.exit 1,
  { tm := [(2, AV.ref 0 0 0), (4, AV.junk), (5, AV.junk), (6, AV.nils { sz := 1, kd := NKd.nil })],
    hp := [(0, Blk.box [AV.int IntKind.i64 x4, AV.int IntKind.i64 x5, AV.str x6, AV.view 4 x7] false)], nx := 1, k := 0 })
noncomputable def x_u78q_2 (G_u105q : GT_u105q) (x0 : List AV) (x1 : List AV) (x2 : Int) (x3 : Int) (x4 : Int) (x5 : Int) (x6 : List UInt8) (x7 : List AV) (x8 : List AV) : X × St := (X.ret,
  {
    tm :=
      [(2, AV.ref 0 0 0), (4, AV.int IntKind.i64 0),
        (5, AV.int IntKind.i64 (gv (G_u105q (intOf (cellAt x1 x3 0)) (intOf (cellAt x1 x3 1)) (strOf (cellAt x1 x3 2)) (viewOf (cellAt x1 x3 3)) x0)).snd),
        (6, AV.own 1 0 none)],
    hp := [(0, Blk.box [AV.int IntKind.i64 x4, AV.int IntKind.i64 x5, AV.str x6, AV.view 4 x7] false), (1, Blk.arr 1 x8 false)], nx := 2, k := 0 })
noncomputable def x_u78q_3 (G_u105q : GT_u105q) (x0 : List AV) (x1 : List AV) (x2 : Int) (x3 : Int) (x4 : Int) (x5 : Int) (x6 : List UInt8) (x7 : List AV) (x8 : List AV) : X × St := (X.exit 1,
  { tm := [(2, AV.ref 0 0 0), (4, AV.junk), (5, AV.junk), (6, AV.own 1 0 none)],
    hp := [(0, Blk.box [AV.int IntKind.i64 x4, AV.int IntKind.i64 x5, AV.str x6, AV.view 4 x7] false), (1, Blk.arr 1 x8 false)], nx := 2, k := 0 })
noncomputable def x_u78q (G_u105q : GT_u105q) : List (TT_u78q → X × St) := [fun w => x_u78q_0 G_u105q (sl w).1 (sl w).2.1 (sl w).2.2.1 (sl w).2.2.2.1 (sl w).2.2.2.2.1 (sl w).2.2.2.2.2.1 (sl w).2.2.2.2.2.2.1 (sl w).2.2.2.2.2.2.2, fun w => x_u78q_1 G_u105q (sl w).1 (sl w).2.1 (sl w).2.2.1 (sl w).2.2.2.1 (sl w).2.2.2.2.1 (sl w).2.2.2.2.2.1 (sl w).2.2.2.2.2.2.1 (sl w).2.2.2.2.2.2.2, fun w => x_u78q_2 G_u105q (sr w).1 (sr w).2.1 (sr w).2.2.1 (sr w).2.2.2.1 (sr w).2.2.2.2.1 (sr w).2.2.2.2.2.1 (sr w).2.2.2.2.2.2.1 (sr w).2.2.2.2.2.2.2.1 (sr w).2.2.2.2.2.2.2.2, fun w => x_u78q_3 G_u105q (sr w).1 (sr w).2.1 (sr w).2.2.1 (sr w).2.2.2.1 (sr w).2.2.2.2.1 (sr w).2.2.2.2.2.1 (sr w).2.2.2.2.2.2.1 (sr w).2.2.2.2.2.2.2.1 (sr w).2.2.2.2.2.2.2.2]
noncomputable def st_u78q_0 (G_u105q : GT_u105q) (x0 : List AV) (x1 : List AV) (x2 : Int) (x3 : Int) (x4 : Int) (x5 : Int) (x6 : List UInt8) (x7 : List AV) : DT (Rd TT_u78q) :=
 .br (decide (x3 < x2))
  (.br (okAt [CS.int IntKind.i64, CS.int IntKind.i64, CS.str, CS.slice 4] x1 x3)
   (.bi (G_u105q (intOf (cellAt x1 x3 0)) (intOf (cellAt x1 x3 1)) (strOf (cellAt x1 x3 2)) (viewOf (cellAt x1 x3 3)) x0) (fun y0 =>
    .br (y0.snd != 0) (.at (.done 0)) (.at (.next ((.inr (x0, x1, x2, IntKind.i64.wrap (x3 + 1), x4, x5, x6, x7, [AV.int IntKind.i64 y0.fst]))))))
    (.no))
   (.no))
  (.at (.done 1))
noncomputable def st_u78q_1 (G_u105q : GT_u105q) (x0 : List AV) (x1 : List AV) (x2 : Int) (x3 : Int) (x4 : Int) (x5 : Int) (x6 : List UInt8) (x7 : List AV) (x8 : List AV) : DT (Rd TT_u78q) :=
 .br (decide (x3 < x2))
  (.br (okAt [CS.int IntKind.i64, CS.int IntKind.i64, CS.str, CS.slice 4] x1 x3)
   (.bi (G_u105q (intOf (cellAt x1 x3 0)) (intOf (cellAt x1 x3 1)) (strOf (cellAt x1 x3 2)) (viewOf (cellAt x1 x3 3)) x0) (fun y0 =>
    .br (y0.snd != 0)
     (.at (.done 2))
     (.br (room (x8.length + 1) 8) (.at (.next ((.inr (x0, x1, x2, IntKind.i64.wrap (x3 + 1), x4, x5, x6, x7, x8 ++ [AV.int IntKind.i64 y0.fst]))))) (.no)))
    (.no))
   (.no))
  (.at (.done 3))
noncomputable def st_u78q (G_u105q : GT_u105q) : TT_u78q → DT (Rd TT_u78q) := (Sum.elim (fun v => st_u78q_0 G_u105q v.1 v.2.1 v.2.2.1 v.2.2.2.1 v.2.2.2.2.1 v.2.2.2.2.2.1 v.2.2.2.2.2.2.1 v.2.2.2.2.2.2.2) (fun v => st_u78q_1 G_u105q v.1 v.2.1 v.2.2.1 v.2.2.2.1 v.2.2.2.2.1 v.2.2.2.2.2.1 v.2.2.2.2.2.2.1 v.2.2.2.2.2.2.2.1 v.2.2.2.2.2.2.2.2))
noncomputable def l_u78q (G_u105q : GT_u105q) (v : TT_u78q) : Option (Nat × TT_u78q) := lock (iterO (fun v => (st_u78q G_u105q v).ev) v)
theorem l_u78q_eq (G_u105q : GT_u105q) (v : TT_u78q) : l_u78q G_u105q v = iterO (fun v => (st_u78q G_u105q v).ev) v := lock_eq _
noncomputable def ll_u78q (G_u105q : GT_u105q) : LEnt := LE (τ := TT_u78q) (hD hs_u78q) (l_u78q G_u105q) (x_u78q G_u105q)
theorem t_u78q (G_u105q : GT_u105q) (hG : GH_u105q G_u105q) : Go.Eng.Told IP (loopAt F26 0).1 (loopAt F26 0).2 (ll_u78q G_u105q) := loop_LE (inferInstance : Inhabited TT_u78q) (hs := hs_u78q) (st := st_u78q G_u105q) (L := []) (TG_u105q_ok G_u105q hG) (LOk_of (l := []) (by kernel_rfl) trivial) (l_u78q_eq G_u105q) (fun v => match v with | (.inl v) => by kernel_rfl | (.inr v) => by kernel_rfl) (fun v => match v with | (.inl v) => by kernel_rfl | (.inr v) => by kernel_rfl)
noncomputable def tr_u105q (G_u105q : GT_u105q) (x0 : Int) (x1 : Int) (x2 : List UInt8) (x3 : List AV) (x4 : List AV) : DT B_u105q :=
 .br (x0 == 1)
  (.at ((1, 0)))
  (.br (x0 == 2)
   (.at ((2, 0)))
   (.br (x0 == 3)
    (.at ((3, 0)))
    (.br (x0 == 4)
     (.bi (f_u27q x2 x4) (fun y0 =>
      .at ((y0.fst, y0.snd)))
      (.no))
     (.bi (pj 0 (l_u78q G_u105q (Sum.inl (x4, x3, (↑x3.length : Int), 0, x0, x1, x2, x3)))) (fun y0 =>
      .at ((0, (gv
    (G_u105q (intOf (cellAt (sl y0).snd.fst (sl y0).snd.snd.snd.fst 0)) (intOf (cellAt (sl y0).snd.fst (sl y0).snd.snd.snd.fst 1))
      (strOf (cellAt (sl y0).snd.fst (sl y0).snd.snd.snd.fst 2)) (viewOf (cellAt (sl y0).snd.fst (sl y0).snd.snd.snd.fst 3)) (sl y0).fst)).snd)))
      (.bi (pj 1 (l_u78q G_u105q (Sum.inl (x4, x3, (↑x3.length : Int), 0, x0, x1, x2, x3)))) (fun y0 =>
       .bi (f_u43q (sl y0).snd.snd.snd.snd.fst []) (fun y1 =>
        .br (!y1.snd) (.at ((0, 3))) (.at ((y1.fst, 0))))
        (.no))
       (.bi (pj 2 (l_u78q G_u105q (Sum.inl (x4, x3, (↑x3.length : Int), 0, x0, x1, x2, x3)))) (fun y0 =>
        .at ((0, (gv
    (G_u105q (intOf (cellAt (sr y0).snd.fst (sr y0).snd.snd.snd.fst 0)) (intOf (cellAt (sr y0).snd.fst (sr y0).snd.snd.snd.fst 1))
      (strOf (cellAt (sr y0).snd.fst (sr y0).snd.snd.snd.fst 2)) (viewOf (cellAt (sr y0).snd.fst (sr y0).snd.snd.snd.fst 3)) (sr y0).fst)).snd)))
        (.bi (pj 3 (l_u78q G_u105q (Sum.inl (x4, x3, (↑x3.length : Int), 0, x0, x1, x2, x3)))) (fun y0 =>
         .bi (f_u43q (sr y0).snd.snd.snd.snd.fst (sr y0).snd.snd.snd.snd.snd.snd.snd.snd) (fun y1 =>
          .br (!y1.snd) (.at ((0, 3))) (.at ((y1.fst, 0))))
          (.no))
         (.no))))))))
noncomputable def N_u105q : Nat → GT_u105q
  | 0 => fun _ _ _ _ _ => none
  | n + 1 => fun x0 x1 x2 x3 x4 => (tr_u105q ((N_u105q n)) x0 x1 x2 x3 x4).ev
noncomputable def f_u105q (x0 : Int) (x1 : Int) (x2 : List UInt8) (x3 : List AV) (x4 : List AV) : Option B_u105q := limO fun n => (N_u105q n) x0 x1 x2 x3 x4
theorem N_u105q_ok : ∀ n, GH_u105q ((N_u105q n))
  | 0 => (fun v y h => nomatch h)
  | n + 1 => have hG := N_u105q_ok n
    fun_FH (F := F26) (L := [(1002600, ll_u78q ((N_u105q n)))]) (t := fun (v : Int × Int × List UInt8 × List AV × List AV) => tr_u105q ((N_u105q n)) v.1 v.2.1 v.2.2.1 v.2.2.2.1 v.2.2.2.2) (TG_u105q_ok ((N_u105q n)) hG) (LOk_of (l := [loopAt F26 0]) (by kernel_rfl) ⟨sel_one (by kernel_rfl) (t_u78q ((N_u105q n)) hG), trivial⟩) (by kernel_rfl) (fun v => by kernel_rfl) (fun v => rfl)
theorem c_u105q : FH IP 26 p_u105q r_u105q (fun (v : Int × Int × List UInt8 × List AV × List AV) => (f_u105q v.1 v.2.1 v.2.2.1 v.2.2.2.1 v.2.2.2.2 : Option B_u105q)) := lim_FH (p := p_u105q) (rs := r_u105q) (s := fun n (v : Int × Int × List UInt8 × List AV × List AV) => (N_u105q n) v.1 v.2.1 v.2.2.1 v.2.2.2.1 v.2.2.2.2) fun n => (N_u105q_ok n)
noncomputable def T58 : Tab := (26, FE p_u105q r_u105q (fun (v : Int × Int × List UInt8 × List AV × List AV) => (f_u105q v.1 v.2.1 v.2.2.1 v.2.2.2.1 v.2.2.2.2 : Option B_u105q))) :: T57
theorem T58_ok : TabOk IP T58 := ⟨FE_ok c_u105q, T57_ok⟩
abbrev B_u104q : Type := Int × Int
def p_u104q : PArgs := ⟨[.agg [.int .i64, .int .i64, .str, .view 4], .view 2], []⟩
def r_u104q : List PRes := [⟨false, .tup [.int .i64, .int .i64], []⟩]
noncomputable def tr_u104q (x0 : Int) (x1 : Int) (x2 : List UInt8) (x3 : List AV) (x4 : List AV) : DT B_u104q :=
 .bi (f_u35q x0 x1 x2 x3) (fun y0 =>
  .br (y0 != 0)
   (.at ((0, y0)))
   (.bi (f_u105q x0 x1 x2 x3 x4) (fun y1 =>
    .at ((y1.fst, y1.snd)))
    (.no)))
  (.no)
noncomputable def f_u104q (x0 : Int) (x1 : Int) (x2 : List UInt8) (x3 : List AV) (x4 : List AV) : Option B_u104q := lock (tr_u104q x0 x1 x2 x3 x4).ev
theorem f_u104q_eq (x0 : Int) (x1 : Int) (x2 : List UInt8) (x3 : List AV) (x4 : List AV) : f_u104q x0 x1 x2 x3 x4 = (tr_u104q x0 x1 x2 x3 x4).ev := lock_eq _
theorem c_u104q : FH IP 13 p_u104q r_u104q (fun (v : Int × Int × List UInt8 × List AV × List AV) => (f_u104q v.1 v.2.1 v.2.2.1 v.2.2.2.1 v.2.2.2.2 : Option B_u104q)) := fun_FH (F := F13) (L := []) (t := fun (v : Int × Int × List UInt8 × List AV × List AV) => tr_u104q v.1 v.2.1 v.2.2.1 v.2.2.2.1 v.2.2.2.2) T58_ok (LOk_of (l := []) (by kernel_rfl) trivial) (by kernel_rfl) (fun v => by kernel_rfl) (fun v => f_u104q_eq v.1 v.2.1 v.2.2.1 v.2.2.2.1 v.2.2.2.2)
noncomputable def T59 : Tab := (13, FE p_u104q r_u104q (fun (v : Int × Int × List UInt8 × List AV × List AV) => (f_u104q v.1 v.2.1 v.2.2.1 v.2.2.2.1 v.2.2.2.2 : Option B_u104q))) :: T58
theorem T59_ok : TabOk IP T59 := ⟨FE_ok c_u104q, T58_ok⟩
abbrev B_u106q : Type := Bool
def p_u106q : PArgs := ⟨[], []⟩
def r_u106q : List PRes := [⟨false, .bool, []⟩]
noncomputable def tr_u106q : DT B_u106q :=
 .bi (f_u43q 7 [AV.int IntKind.i64 2, AV.int IntKind.i64 3]) (fun y0 =>
  .bi (f_u43q 7 [AV.int IntKind.i64 2, AV.int IntKind.i64 2]) (fun y1 =>
   .bi (f_u43q 6 [AV.int IntKind.i64 4, AV.int IntKind.i64 4]) (fun y2 =>
    .bi (f_u104q 5 0 []
        [AV.agg
            [AV.int IntKind.i64 5, AV.int IntKind.i64 0, AV.str [],
              AV.view 4 [AV.agg [AV.int IntKind.i64 4, AV.int IntKind.i64 0, AV.str [120], AV.view 4 []], AV.agg [AV.int IntKind.i64 2, AV.int IntKind.i64 1, AV.str [], AV.view 4 []]]],
          AV.agg [AV.int IntKind.i64 1, AV.int IntKind.i64 1, AV.str [], AV.view 4 []]]
        []) (fun y3 =>
     .bi (f_u104q 5 0 []
         [AV.agg
             [AV.int IntKind.i64 5, AV.int IntKind.i64 0, AV.str [],
               AV.view 4 [AV.agg [AV.int IntKind.i64 1, AV.int IntKind.i64 1, AV.str [], AV.view 4 []], AV.agg [AV.int IntKind.i64 2, AV.int IntKind.i64 1, AV.str [], AV.view 4 []]]],
           AV.agg [AV.int IntKind.i64 4, AV.int IntKind.i64 0, AV.str [120], AV.view 4 []]]
         []) (fun y4 =>
      .bi (f_u104q 12 0 [] [AV.agg [AV.int IntKind.i64 4, AV.int IntKind.i64 0, AV.str [120], AV.view 4 []], AV.agg [AV.int IntKind.i64 1, AV.int IntKind.i64 1, AV.str [], AV.view 4 []]]
          [AV.agg [AV.str [120], AV.int IntKind.i64 1]]) (fun y5 =>
       .bi (br (y0.fst == 2) (some y0.snd) (some false)) (fun y6 =>
        .bi (br y6 (some !y1.snd) (some false)) (fun y7 =>
         .bi (br y7 (some (y2.fst == 1)) (some false)) (fun y8 =>
          .bi (br y8 (some y2.snd) (some false)) (fun y9 =>
           .bi (br y9 (some (y3.snd == 4)) (some false)) (fun y10 =>
            .bi (br y10 (some (y4.snd == 3)) (some false)) (fun y11 =>
             .bi (br y11 (some (y5.fst == 5)) (some false)) (fun y12 =>
              .bi (br y12 (some (y5.snd == 0)) (some false)) (fun y13 =>
               .br (y13)
                (.bi (br (sm (f_u77q [AV.agg [AV.str [120], AV.int IntKind.i64 1], AV.agg [AV.str [120], AV.int IntKind.i64 1]]))
                    (some (gv (f_u77q [AV.agg [AV.str [120], AV.int IntKind.i64 1], AV.agg [AV.str [120], AV.int IntKind.i64 1]]) == 12)) none) (fun y14 =>
                 .at (y14))
                 (.no))
                (.at (false)))
               (.no))
              (.no))
             (.no))
            (.no))
           (.no))
          (.no))
         (.no))
        (.no))
       (.no))
      (.no))
     (.no))
    (.no))
   (.no))
  (.no)
noncomputable def f_u106q : Option B_u106q := lock (tr_u106q).ev
theorem f_u106q_eq : f_u106q = (tr_u106q).ev := lock_eq _
theorem c_u106q : FH IP 10 p_u106q r_u106q (fun (v : Unit) => (f_u106q : Option B_u106q)) := fun_FH (F := F10) (L := []) (t := fun (v : Unit) => tr_u106q) T59_ok (LOk_of (l := []) (by kernel_rfl) trivial) (by kernel_rfl) (fun v => by kernel_rfl) (fun v => f_u106q_eq)
noncomputable def T60 : Tab := (10, FE p_u106q r_u106q (fun (v : Unit) => (f_u106q : Option B_u106q))) :: T59
theorem T60_ok : TabOk IP T60 := ⟨FE_ok c_u106q, T59_ok⟩
abbrev B_u28q : Type := Bool
def p_u28q : PArgs := ⟨[.view 2], []⟩
def r_u28q : List PRes := [⟨false, .bool, []⟩]
noncomputable def tr_u28q (x0 : List AV) : DT B_u28q :=
 .bi (f_u96q x0) (fun y0 =>
  .bi (br (!y0) (some true) (br (sm (f_u77q x0)) (br (sm (f_u111q x0)) (some (gv (f_u77q x0) == gv (f_u111q x0))) none) none)) (fun y1 =>
   .bi (br y1 (br (sm f_u106q) (some (gv f_u106q)) none) (some false)) (fun y2 =>
    .at (y2))
    (.no))
   (.no))
  (.no)
noncomputable def f_u28q (x0 : List AV) : Option B_u28q := lock (tr_u28q x0).ev
theorem f_u28q_eq (x0 : List AV) : f_u28q x0 = (tr_u28q x0).ev := lock_eq _
theorem c_u28q : FH IP 3 p_u28q r_u28q (fun (v : List AV) => (f_u28q v : Option B_u28q)) := fun_FH (F := F3) (L := []) (t := fun (v : List AV) => tr_u28q v) T60_ok (LOk_of (l := []) (by kernel_rfl) trivial) (by kernel_rfl) (fun v => by kernel_rfl) (fun v => f_u28q_eq v)
noncomputable def T61 : Tab := (3, FE p_u28q r_u28q (fun (v : List AV) => (f_u28q v : Option B_u28q))) :: T60
theorem T61_ok : TabOk IP T61 := ⟨FE_ok c_u28q, T60_ok⟩
abbrev B_u101q : Type := Int
def p_u101q : PArgs := ⟨[.agg [.int .i64, .int .i64, .str, .view 4], .int .i64], []⟩
def r_u101q : List PRes := [⟨false, .int .i64, []⟩]
abbrev GT_u101q : Type := Int → Int → (List UInt8) → (List AV) → Int → Option B_u101q
def GH_u101q (G_u101q : GT_u101q) : Prop := FH IP 22 p_u101q r_u101q (fun (v : Int × Int × List UInt8 × List AV × Int) => (G_u101q v.1 v.2.1 v.2.2.1 v.2.2.2.1 v.2.2.2.2 : Option B_u101q))
noncomputable def TG_u101q (G_u101q : GT_u101q) : Tab := (22, FE p_u101q r_u101q (fun (v : Int × Int × List UInt8 × List AV × Int) => (G_u101q v.1 v.2.1 v.2.2.1 v.2.2.2.1 v.2.2.2.2 : Option B_u101q))) :: T61
theorem TG_u101q_ok (G_u101q : GT_u101q) (hG : GH_u101q G_u101q) : TabOk IP (TG_u101q G_u101q) := ⟨FE_ok (hG), T61_ok⟩
abbrev TT_u68q : Type := Int × Int × Int × Int × Int × List UInt8 × List AV
def hs_u68q : List PSt := [⟨[(1002200, .junk), (1, .int .i64), (2, .ref 0 0 0), (5, .int .i64), (6, .int .i64)], [(0, .box [.int .i64, .int .i64, .str, .view 4] false)], 1, 0⟩]
noncomputable def x_u68q_0 (x0 : Int) (x1 : Int) (x2 : Int) (x3 : Int) (x4 : Int) (x5 : List UInt8) (x6 : List AV) : X × St := (X.exit 0, { tm := [(5, AV.int IntKind.i64 x1)], hp := [], nx := 0, k := 0 })
noncomputable def x_u68q : List (TT_u68q → X × St) := [fun w => x_u68q_0 w.1 w.2.1 w.2.2.1 w.2.2.2.1 w.2.2.2.2.1 w.2.2.2.2.2.1 w.2.2.2.2.2.2]
noncomputable def st_u68q_0 (G_u101q : GT_u101q) (x0 : Int) (x1 : Int) (x2 : Int) (x3 : Int) (x4 : Int) (x5 : List UInt8) (x6 : List AV) : DT (Rd TT_u68q) :=
 .bi (br (decide (x2 < (↑x6.length : Int))) (some (decide (x1 ≤ x0))) (some false)) (fun y0 =>
  .br (y0)
   (.br (okAt [CS.int IntKind.i64, CS.int IntKind.i64, CS.str, CS.slice 4] x6 x2)
    (.bi (G_u101q (intOf (cellAt x6 x2 0)) (intOf (cellAt x6 x2 1)) (strOf (cellAt x6 x2 2)) (viewOf (cellAt x6 x2 3)) (IntKind.i64.wrap (x0 - x1))) (fun y1 =>
     .at (.next ((x0, IntKind.i64.wrap (x1 + y1), IntKind.i64.wrap (x2 + 1), x3, x4, x5, x6))))
     (.no))
    (.no))
   (.at (.done 0)))
  (.no)
noncomputable def st_u68q (G_u101q : GT_u101q) : TT_u68q → DT (Rd TT_u68q) := (fun v => st_u68q_0 G_u101q v.1 v.2.1 v.2.2.1 v.2.2.2.1 v.2.2.2.2.1 v.2.2.2.2.2.1 v.2.2.2.2.2.2)
noncomputable def l_u68q (G_u101q : GT_u101q) (v : TT_u68q) : Option (Nat × TT_u68q) := lock (iterO (fun v => (st_u68q G_u101q v).ev) v)
theorem l_u68q_eq (G_u101q : GT_u101q) (v : TT_u68q) : l_u68q G_u101q v = iterO (fun v => (st_u68q G_u101q v).ev) v := lock_eq _
noncomputable def ll_u68q (G_u101q : GT_u101q) : LEnt := LE (τ := TT_u68q) (hD hs_u68q) (l_u68q G_u101q) x_u68q
theorem t_u68q (G_u101q : GT_u101q) (hG : GH_u101q G_u101q) : Go.Eng.Told IP (loopAt F22 0).1 (loopAt F22 0).2 (ll_u68q G_u101q) := loop_LE (inferInstance : Inhabited TT_u68q) (hs := hs_u68q) (st := st_u68q G_u101q) (L := []) (TG_u101q_ok G_u101q hG) (LOk_of (l := []) (by kernel_rfl) trivial) (l_u68q_eq G_u101q) (fun v => by kernel_rfl) (fun v => by kernel_rfl)
noncomputable def tr_u101q (G_u101q : GT_u101q) (x0 : Int) (x1 : Int) (x2 : List UInt8) (x3 : List AV) (x4 : Int) : DT B_u101q :=
 .bi (pj 0 (l_u68q G_u101q (x4, 1, 0, x0, x1, x2, x3))) (fun y0 =>
  .at (y0.snd.fst))
  (.no)
noncomputable def N_u101q : Nat → GT_u101q
  | 0 => fun _ _ _ _ _ => none
  | n + 1 => fun x0 x1 x2 x3 x4 => (tr_u101q ((N_u101q n)) x0 x1 x2 x3 x4).ev
noncomputable def f_u101q (x0 : Int) (x1 : Int) (x2 : List UInt8) (x3 : List AV) (x4 : Int) : Option B_u101q := limO fun n => (N_u101q n) x0 x1 x2 x3 x4
theorem N_u101q_ok : ∀ n, GH_u101q ((N_u101q n))
  | 0 => (fun v y h => nomatch h)
  | n + 1 => have hG := N_u101q_ok n
    fun_FH (F := F22) (L := [(1002200, ll_u68q ((N_u101q n)))]) (t := fun (v : Int × Int × List UInt8 × List AV × Int) => tr_u101q ((N_u101q n)) v.1 v.2.1 v.2.2.1 v.2.2.2.1 v.2.2.2.2) (TG_u101q_ok ((N_u101q n)) hG) (LOk_of (l := [loopAt F22 0]) (by kernel_rfl) ⟨sel_one (by kernel_rfl) (t_u68q ((N_u101q n)) hG), trivial⟩) (by kernel_rfl) (fun v => by kernel_rfl) (fun v => rfl)
theorem c_u101q : FH IP 22 p_u101q r_u101q (fun (v : Int × Int × List UInt8 × List AV × Int) => (f_u101q v.1 v.2.1 v.2.2.1 v.2.2.2.1 v.2.2.2.2 : Option B_u101q)) := lim_FH (p := p_u101q) (rs := r_u101q) (s := fun n (v : Int × Int × List UInt8 × List AV × Int) => (N_u101q n) v.1 v.2.1 v.2.2.1 v.2.2.2.1 v.2.2.2.2) fun n => (N_u101q_ok n)
noncomputable def T62 : Tab := (22, FE p_u101q r_u101q (fun (v : Int × Int × List UInt8 × List AV × Int) => (f_u101q v.1 v.2.1 v.2.2.1 v.2.2.2.1 v.2.2.2.2 : Option B_u101q))) :: T61
theorem T62_ok : TabOk IP T62 := ⟨FE_ok c_u101q, T61_ok⟩
abbrev B_u99q : Type := Bool
def p_u99q : PArgs := ⟨[.agg [.int .i64, .int .i64, .str, .view 4], .int .i64], []⟩
def r_u99q : List PRes := [⟨false, .bool, []⟩]
noncomputable def tr_u99q (x0 : Int) (x1 : Int) (x2 : List UInt8) (x3 : List AV) (x4 : Int) : DT B_u99q :=
 .bi (f_u101q x0 x1 x2 x3 x4) (fun y0 =>
  .at (decide (y0 > x4)))
  (.no)
noncomputable def f_u99q (x0 : Int) (x1 : Int) (x2 : List UInt8) (x3 : List AV) (x4 : Int) : Option B_u99q := lock (tr_u99q x0 x1 x2 x3 x4).ev
theorem f_u99q_eq (x0 : Int) (x1 : Int) (x2 : List UInt8) (x3 : List AV) (x4 : Int) : f_u99q x0 x1 x2 x3 x4 = (tr_u99q x0 x1 x2 x3 x4).ev := lock_eq _
theorem c_u99q : FH IP 11 p_u99q r_u99q (fun (v : Int × Int × List UInt8 × List AV × Int) => (f_u99q v.1 v.2.1 v.2.2.1 v.2.2.2.1 v.2.2.2.2 : Option B_u99q)) := fun_FH (F := F11) (L := []) (t := fun (v : Int × Int × List UInt8 × List AV × Int) => tr_u99q v.1 v.2.1 v.2.2.1 v.2.2.2.1 v.2.2.2.2) T62_ok (LOk_of (l := []) (by kernel_rfl) trivial) (by kernel_rfl) (fun v => by kernel_rfl) (fun v => f_u99q_eq v.1 v.2.1 v.2.2.1 v.2.2.2.1 v.2.2.2.2)
noncomputable def T63 : Tab := (11, FE p_u99q r_u99q (fun (v : Int × Int × List UInt8 × List AV × Int) => (f_u99q v.1 v.2.1 v.2.2.1 v.2.2.2.1 v.2.2.2.2 : Option B_u99q))) :: T62
theorem T63_ok : TabOk IP T63 := ⟨FE_ok c_u99q, T62_ok⟩
abbrev B_u98q : Type := Int
def p_u98q : PArgs := ⟨[.agg [.int .i64, .int .i64, .str, .view 4]], []⟩
def r_u98q : List PRes := [⟨false, .int .i64, []⟩]
abbrev GT_u98q : Type := Int → Int → (List UInt8) → (List AV) → Option B_u98q
def GH_u98q (G_u98q : GT_u98q) : Prop := FH IP 23 p_u98q r_u98q (fun (v : Int × Int × List UInt8 × List AV) => (G_u98q v.1 v.2.1 v.2.2.1 v.2.2.2 : Option B_u98q))
noncomputable def TG_u98q (G_u98q : GT_u98q) : Tab := (23, FE p_u98q r_u98q (fun (v : Int × Int × List UInt8 × List AV) => (G_u98q v.1 v.2.1 v.2.2.1 v.2.2.2 : Option B_u98q))) :: T63
theorem TG_u98q_ok (G_u98q : GT_u98q) (hG : GH_u98q G_u98q) : TabOk IP (TG_u98q G_u98q) := ⟨FE_ok (hG), T63_ok⟩
abbrev TT_u65q : Type := Int × Int × Int × Int × List UInt8 × List AV
def hs_u65q : List PSt := [⟨[(1002300, .junk), (1, .ref 0 0 0), (3, .int .i64), (4, .int .i64)], [(0, .box [.int .i64, .int .i64, .str, .view 4] false)], 1, 0⟩]
noncomputable def x_u65q_0 (x0 : Int) (x1 : Int) (x2 : Int) (x3 : Int) (x4 : List UInt8) (x5 : List AV) : X × St := (X.exit 0, { tm := [(3, AV.int IntKind.i64 x0)], hp := [], nx := 0, k := 0 })
noncomputable def x_u65q : List (TT_u65q → X × St) := [fun w => x_u65q_0 w.1 w.2.1 w.2.2.1 w.2.2.2.1 w.2.2.2.2.1 w.2.2.2.2.2]
noncomputable def st_u65q_0 (G_u98q : GT_u98q) (x0 : Int) (x1 : Int) (x2 : Int) (x3 : Int) (x4 : List UInt8) (x5 : List AV) : DT (Rd TT_u65q) :=
 .br (decide (x1 < (↑x5.length : Int)))
  (.br (okAt [CS.int IntKind.i64, CS.int IntKind.i64, CS.str, CS.slice 4] x5 x1)
   (.bi (G_u98q (intOf (cellAt x5 x1 0)) (intOf (cellAt x5 x1 1)) (strOf (cellAt x5 x1 2)) (viewOf (cellAt x5 x1 3))) (fun y0 =>
    .at (.next ((if y0 > x0 then y0 else x0, IntKind.i64.wrap (x1 + 1), x2, x3, x4, x5))))
    (.no))
   (.no))
  (.at (.done 0))
noncomputable def st_u65q (G_u98q : GT_u98q) : TT_u65q → DT (Rd TT_u65q) := (fun v => st_u65q_0 G_u98q v.1 v.2.1 v.2.2.1 v.2.2.2.1 v.2.2.2.2.1 v.2.2.2.2.2)
noncomputable def l_u65q (G_u98q : GT_u98q) (v : TT_u65q) : Option (Nat × TT_u65q) := lock (iterO (fun v => (st_u65q G_u98q v).ev) v)
theorem l_u65q_eq (G_u98q : GT_u98q) (v : TT_u65q) : l_u65q G_u98q v = iterO (fun v => (st_u65q G_u98q v).ev) v := lock_eq _
noncomputable def ll_u65q (G_u98q : GT_u98q) : LEnt := LE (τ := TT_u65q) (hD hs_u65q) (l_u65q G_u98q) x_u65q
theorem t_u65q (G_u98q : GT_u98q) (hG : GH_u98q G_u98q) : Go.Eng.Told IP (loopAt F23 0).1 (loopAt F23 0).2 (ll_u65q G_u98q) := loop_LE (inferInstance : Inhabited TT_u65q) (hs := hs_u65q) (st := st_u65q G_u98q) (L := []) (TG_u98q_ok G_u98q hG) (LOk_of (l := []) (by kernel_rfl) trivial) (l_u65q_eq G_u98q) (fun v => by kernel_rfl) (fun v => by kernel_rfl)
noncomputable def tr_u98q (G_u98q : GT_u98q) (x0 : Int) (x1 : Int) (x2 : List UInt8) (x3 : List AV) : DT B_u98q :=
 .bi (pj 0 (l_u65q G_u98q (0, 0, x0, x1, x2, x3))) (fun y0 =>
  .at (IntKind.i64.wrap (y0.fst + 1)))
  (.no)
noncomputable def N_u98q : Nat → GT_u98q
  | 0 => fun _ _ _ _ => none
  | n + 1 => fun x0 x1 x2 x3 => (tr_u98q ((N_u98q n)) x0 x1 x2 x3).ev
noncomputable def f_u98q (x0 : Int) (x1 : Int) (x2 : List UInt8) (x3 : List AV) : Option B_u98q := limO fun n => (N_u98q n) x0 x1 x2 x3
theorem N_u98q_ok : ∀ n, GH_u98q ((N_u98q n))
  | 0 => (fun v y h => nomatch h)
  | n + 1 => have hG := N_u98q_ok n
    fun_FH (F := F23) (L := [(1002300, ll_u65q ((N_u98q n)))]) (t := fun (v : Int × Int × List UInt8 × List AV) => tr_u98q ((N_u98q n)) v.1 v.2.1 v.2.2.1 v.2.2.2) (TG_u98q_ok ((N_u98q n)) hG) (LOk_of (l := [loopAt F23 0]) (by kernel_rfl) ⟨sel_one (by kernel_rfl) (t_u65q ((N_u98q n)) hG), trivial⟩) (by kernel_rfl) (fun v => by kernel_rfl) (fun v => rfl)
theorem c_u98q : FH IP 23 p_u98q r_u98q (fun (v : Int × Int × List UInt8 × List AV) => (f_u98q v.1 v.2.1 v.2.2.1 v.2.2.2 : Option B_u98q)) := lim_FH (p := p_u98q) (rs := r_u98q) (s := fun n (v : Int × Int × List UInt8 × List AV) => (N_u98q n) v.1 v.2.1 v.2.2.1 v.2.2.2) fun n => (N_u98q_ok n)
noncomputable def T64 : Tab := (23, FE p_u98q r_u98q (fun (v : Int × Int × List UInt8 × List AV) => (f_u98q v.1 v.2.1 v.2.2.1 v.2.2.2 : Option B_u98q))) :: T63
theorem T64_ok : TabOk IP T64 := ⟨FE_ok c_u98q, T63_ok⟩
abbrev B_u47q : Type := Int
def p_u47q : PArgs := ⟨[.int .i64], []⟩
def r_u47q : List PRes := [⟨false, .int .i64, []⟩]
noncomputable def tr_u47q (x0 : Int) : DT B_u47q :=
 .bi (br (decide (x0 < 1)) (some true) (some (decide (x0 > 19)))) (fun y0 =>
  .br (y0)
   (.at (-1))
   (.br (decide (x0 ≤ 4))
    (.at (0))
    (.bi (br (x0 == 9) (some true) (some (x0 == 16))) (fun y1 =>
     .br (y1)
      (.at (1))
      (.br (x0 == 19) (.at (3)) (.at (2))))
     (.no))))
  (.no)
noncomputable def f_u47q (x0 : Int) : Option B_u47q := lock (tr_u47q x0).ev
theorem f_u47q_eq (x0 : Int) : f_u47q x0 = (tr_u47q x0).ev := lock_eq _
theorem c_u47q : FH IP 37 p_u47q r_u47q (fun (v : Int) => (f_u47q v : Option B_u47q)) := fun_FH (F := F37) (L := []) (t := fun (v : Int) => tr_u47q v) T64_ok (LOk_of (l := []) (by kernel_rfl) trivial) (by kernel_rfl) (fun v => by kernel_rfl) (fun v => f_u47q_eq v)
noncomputable def T65 : Tab := (37, FE p_u47q r_u47q (fun (v : Int) => (f_u47q v : Option B_u47q))) :: T64
theorem T65_ok : TabOk IP T65 := ⟨FE_ok c_u47q, T64_ok⟩
abbrev B_u109q : Type := Int
def p_u109q : PArgs := ⟨[.int .i64], []⟩
def r_u109q : List PRes := [⟨false, .int .i64, []⟩]
noncomputable def tr_u109q (x0 : Int) : DT B_u109q :=
 .br (x0 == 1)
  (.at (9223372036854775807))
  (.br (x0 == 2)
   (.at (1000000000000))
   (.br (x0 == 3) (.at (1000000)) (.at (0))))
noncomputable def f_u109q (x0 : Int) : Option B_u109q := lock (tr_u109q x0).ev
theorem f_u109q_eq (x0 : Int) : f_u109q x0 = (tr_u109q x0).ev := lock_eq _
theorem c_u109q : FH IP 38 p_u109q r_u109q (fun (v : Int) => (f_u109q v : Option B_u109q)) := fun_FH (F := F38) (L := []) (t := fun (v : Int) => tr_u109q v) T65_ok (LOk_of (l := []) (by kernel_rfl) trivial) (by kernel_rfl) (fun v => by kernel_rfl) (fun v => f_u109q_eq v)
noncomputable def T66 : Tab := (38, FE p_u109q r_u109q (fun (v : Int) => (f_u109q v : Option B_u109q))) :: T65
theorem T66_ok : TabOk IP T66 := ⟨FE_ok c_u109q, T65_ok⟩
abbrev B_u102q : Type := Bool
def p_u102q : PArgs := ⟨[.agg [.int .i64, .int .i64, .str, .view 4]], []⟩
def r_u102q : List PRes := [⟨false, .bool, []⟩]
abbrev GT_u102q : Type := Int → Int → (List UInt8) → (List AV) → Option B_u102q
def GH_u102q (G_u102q : GT_u102q) : Prop := FH IP 24 p_u102q r_u102q (fun (v : Int × Int × List UInt8 × List AV) => (G_u102q v.1 v.2.1 v.2.2.1 v.2.2.2 : Option B_u102q))
noncomputable def TG_u102q (G_u102q : GT_u102q) : Tab := (24, FE p_u102q r_u102q (fun (v : Int × Int × List UInt8 × List AV) => (G_u102q v.1 v.2.1 v.2.2.1 v.2.2.2 : Option B_u102q))) :: T66
theorem TG_u102q_ok (G_u102q : GT_u102q) (hG : GH_u102q G_u102q) : TabOk IP (TG_u102q G_u102q) := ⟨FE_ok (hG), T66_ok⟩
abbrev TT_u69q : Type := Int × Int × Int × List UInt8 × List AV
def hs_u69q : List PSt := [⟨[(1002400, .junk), (1, .ref 0 0 0), (3, .int .i64)], [(0, .box [.int .i64, .int .i64, .str, .view 4] false)], 1, 0⟩]
noncomputable def x_u69q_0 (x0 : Int) (x1 : Int) (x2 : Int) (x3 : List UInt8) (x4 : List AV) : X × St := (X.ret, { tm := [(2, AV.bool false)], hp := [], nx := 0, k := 0 })
noncomputable def x_u69q_1 (x0 : Int) (x1 : Int) (x2 : Int) (x3 : List UInt8) (x4 : List AV) : X × St := (X.exit 0, { tm := [(2, AV.junk)], hp := [], nx := 0, k := 0 })
noncomputable def x_u69q : List (TT_u69q → X × St) := [fun w => x_u69q_0 w.1 w.2.1 w.2.2.1 w.2.2.2.1 w.2.2.2.2, fun w => x_u69q_1 w.1 w.2.1 w.2.2.1 w.2.2.2.1 w.2.2.2.2]
noncomputable def st_u69q_0 (G_u102q : GT_u102q) (x0 : Int) (x1 : Int) (x2 : Int) (x3 : List UInt8) (x4 : List AV) : DT (Rd TT_u69q) :=
 .br (decide (x0 < (↑x4.length : Int)))
  (.br (okAt [CS.int IntKind.i64, CS.int IntKind.i64, CS.str, CS.slice 4] x4 x0)
   (.bi (G_u102q (intOf (cellAt x4 x0 0)) (intOf (cellAt x4 x0 1)) (strOf (cellAt x4 x0 2)) (viewOf (cellAt x4 x0 3))) (fun y0 =>
    .br (!y0) (.at (.done 0)) (.at (.next ((IntKind.i64.wrap (x0 + 1), x1, x2, x3, x4)))))
    (.no))
   (.no))
  (.at (.done 1))
noncomputable def st_u69q (G_u102q : GT_u102q) : TT_u69q → DT (Rd TT_u69q) := (fun v => st_u69q_0 G_u102q v.1 v.2.1 v.2.2.1 v.2.2.2.1 v.2.2.2.2)
noncomputable def l_u69q (G_u102q : GT_u102q) (v : TT_u69q) : Option (Nat × TT_u69q) := lock (iterO (fun v => (st_u69q G_u102q v).ev) v)
theorem l_u69q_eq (G_u102q : GT_u102q) (v : TT_u69q) : l_u69q G_u102q v = iterO (fun v => (st_u69q G_u102q v).ev) v := lock_eq _
noncomputable def ll_u69q (G_u102q : GT_u102q) : LEnt := LE (τ := TT_u69q) (hD hs_u69q) (l_u69q G_u102q) x_u69q
theorem t_u69q (G_u102q : GT_u102q) (hG : GH_u102q G_u102q) : Go.Eng.Told IP (loopAt F24 0).1 (loopAt F24 0).2 (ll_u69q G_u102q) := loop_LE (inferInstance : Inhabited TT_u69q) (hs := hs_u69q) (st := st_u69q G_u102q) (L := []) (TG_u102q_ok G_u102q hG) (LOk_of (l := []) (by kernel_rfl) trivial) (l_u69q_eq G_u102q) (fun v => by kernel_rfl) (fun v => by kernel_rfl)
noncomputable def tr_u102q (G_u102q : GT_u102q) (x0 : Int) (x1 : Int) (x2 : List UInt8) (x3 : List AV) : DT B_u102q :=
 .bi (f_u47q x0) (fun y0 =>
  .br ((↑x3.length : Int) != y0)
   (.at (false))
   (.br (decide (x1 < 0))
    (.at (false))
    (.bi (f_u109q x0) (fun y1 =>
     .br (decide (x1 > y1))
      (.at (false))
      (.br (x0 != 4)
       (.br (!x2 == [])
        (.at (false))
        (.bi (pj 0 (l_u69q G_u102q (0, x0, x1, x2, x3))) (fun y2 =>
         .at (false))
         (.bi (pj 1 (l_u69q G_u102q (0, x0, x1, x2, x3))) (fun y2 =>
          .at (true))
          (.no))))
       (.bi (pj 0 (l_u69q G_u102q (0, x0, x1, x2, x3))) (fun y2 =>
        .at (false))
        (.bi (pj 1 (l_u69q G_u102q (0, x0, x1, x2, x3))) (fun y2 =>
         .at (true))
         (.no)))))
     (.no))))
  (.no)
noncomputable def N_u102q : Nat → GT_u102q
  | 0 => fun _ _ _ _ => none
  | n + 1 => fun x0 x1 x2 x3 => (tr_u102q ((N_u102q n)) x0 x1 x2 x3).ev
noncomputable def f_u102q (x0 : Int) (x1 : Int) (x2 : List UInt8) (x3 : List AV) : Option B_u102q := limO fun n => (N_u102q n) x0 x1 x2 x3
theorem N_u102q_ok : ∀ n, GH_u102q ((N_u102q n))
  | 0 => (fun v y h => nomatch h)
  | n + 1 => have hG := N_u102q_ok n
    fun_FH (F := F24) (L := [(1002400, ll_u69q ((N_u102q n)))]) (t := fun (v : Int × Int × List UInt8 × List AV) => tr_u102q ((N_u102q n)) v.1 v.2.1 v.2.2.1 v.2.2.2) (TG_u102q_ok ((N_u102q n)) hG) (LOk_of (l := [loopAt F24 0]) (by kernel_rfl) ⟨sel_one (by kernel_rfl) (t_u69q ((N_u102q n)) hG), trivial⟩) (by kernel_rfl) (fun v => by kernel_rfl) (fun v => rfl)
theorem c_u102q : FH IP 24 p_u102q r_u102q (fun (v : Int × Int × List UInt8 × List AV) => (f_u102q v.1 v.2.1 v.2.2.1 v.2.2.2 : Option B_u102q)) := lim_FH (p := p_u102q) (rs := r_u102q) (s := fun n (v : Int × Int × List UInt8 × List AV) => (N_u102q n) v.1 v.2.1 v.2.2.1 v.2.2.2) fun n => (N_u102q_ok n)
noncomputable def T67 : Tab := (24, FE p_u102q r_u102q (fun (v : Int × Int × List UInt8 × List AV) => (f_u102q v.1 v.2.1 v.2.2.1 v.2.2.2 : Option B_u102q))) :: T66
theorem T67_ok : TabOk IP T67 := ⟨FE_ok c_u102q, T66_ok⟩
abbrev TT_u50q : Type := List AV × List UInt8 × Int
def hs_u50q : List PSt := [⟨[(1003900, .junk), (0, .view 1), (1, .str), (5, .int .i64)], [], 0, 0⟩]
noncomputable def x_u50q_0 (x0 : List AV) (x1 : List UInt8) (x2 : Int) : X × St := (X.exit 0, { tm := [(0, AV.view 1 x0), (1, AV.str x1), (5, AV.int IntKind.i64 x2)], hp := [], nx := 0, k := 0 })
noncomputable def x_u50q : List (TT_u50q → X × St) := [fun w => x_u50q_0 w.1 w.2.1 w.2.2]
noncomputable def st_u50q_0 (x0 : List AV) (x1 : List UInt8) (x2 : Int) : DT (Rd TT_u50q) :=
 .bi (br (decide (x2 < (↑x0.length : Int))) (br (okAt [CS.str] x0 x2) (some (bytesLt (strOf (cellAt x0 x2 0)) x1)) none) (some false)) (fun y0 =>
  .br (y0) (.at (.next ((x0, x1, IntKind.i64.wrap (x2 + 1))))) (.at (.done 0)))
  (.no)
noncomputable def st_u50q : TT_u50q → DT (Rd TT_u50q) := (fun v => st_u50q_0 v.1 v.2.1 v.2.2)
noncomputable def l_u50q (v : TT_u50q) : Option (Nat × TT_u50q) := lock (iterO (fun v => (st_u50q v).ev) v)
theorem l_u50q_eq (v : TT_u50q) : l_u50q v = iterO (fun v => (st_u50q v).ev) v := lock_eq _
noncomputable def ll_u50q : LEnt := LE (τ := TT_u50q) (hD hs_u50q) (l_u50q) x_u50q
theorem t_u50q : Go.Eng.Told IP (loopAt F39 0).1 (loopAt F39 0).2 (ll_u50q) := loop_LE (inferInstance : Inhabited TT_u50q) (hs := hs_u50q) (st := st_u50q) (L := []) T67_ok (LOk_of (l := []) (by kernel_rfl) trivial) (l_u50q_eq) (fun v => by kernel_rfl) (fun v => by kernel_rfl)
abbrev B_u81q : Type := List AV
def p_u81q : PArgs := ⟨[.view 1, .str], []⟩
def r_u81q : List PRes := [⟨false, .view 1, []⟩]
noncomputable def tr_u81q (x0 : List AV) (x1 : List UInt8) : DT B_u81q :=
 .bi (pj 0 (l_u50q (x0, x1, 0))) (fun y0 =>
  .bi (br (decide (y0.snd.snd < (↑y0.fst.length : Int))) (br (okAt [CS.str] y0.fst y0.snd.snd) (some (strOf (cellAt y0.fst y0.snd.snd 0) == y0.snd.fst)) none) (some false)) (fun y1 =>
   .br (y1)
    (.at (y0.fst))
    (.br (leB y0.snd.snd y0.fst.length && true)
     (.br (decide ((List.take y0.snd.snd.toNat y0.fst).length = 0) && decide (1 = 1))
      (.br (leB y0.snd.snd y0.fst.length)
       (.br (decide ((List.drop y0.snd.snd.toNat y0.fst).length = 0) && decide (1 = 1))
        (.at ([AV.str y0.snd.fst]))
        (.br (decide ((List.drop y0.snd.snd.toNat y0.fst).length ≠ 0) && room (1 + (List.drop y0.snd.snd.toNat y0.fst).length) 16)
         (.at (AV.str y0.snd.fst :: List.drop y0.snd.snd.toNat y0.fst))
         (.no)))
       (.no))
      (.br (decide ((List.take y0.snd.snd.toNat y0.fst).length ≠ 0) && room (List.take y0.snd.snd.toNat y0.fst).length 16)
       (.br (room ((List.take y0.snd.snd.toNat y0.fst).length + 1) 16)
        (.br (leB y0.snd.snd y0.fst.length)
         (.br (decide ((List.drop y0.snd.snd.toNat y0.fst).length = 0) && decide (1 = 1))
          (.at (List.take y0.snd.snd.toNat y0.fst ++ [AV.str y0.snd.fst]))
          (.br (decide ((List.drop y0.snd.snd.toNat y0.fst).length ≠ 0) && room ((List.take y0.snd.snd.toNat y0.fst ++ [AV.str y0.snd.fst]).length + (List.drop y0.snd.snd.toNat y0.fst).length) 16)
           (.at (List.take y0.snd.snd.toNat y0.fst ++ [AV.str y0.snd.fst] ++ List.drop y0.snd.snd.toNat y0.fst))
           (.no)))
         (.no))
        (.no))
       (.no)))
     (.no)))
   (.no))
  (.no)
noncomputable def f_u81q (x0 : List AV) (x1 : List UInt8) : Option B_u81q := lock (tr_u81q x0 x1).ev
theorem f_u81q_eq (x0 : List AV) (x1 : List UInt8) : f_u81q x0 x1 = (tr_u81q x0 x1).ev := lock_eq _
theorem c_u81q : FH IP 39 p_u81q r_u81q (fun (v : List AV × List UInt8) => (f_u81q v.1 v.2 : Option B_u81q)) := fun_FH (F := F39) (L := [(1003900, ll_u50q)]) (t := fun (v : List AV × List UInt8) => tr_u81q v.1 v.2) T67_ok (LOk_of (l := [loopAt F39 0]) (by kernel_rfl) ⟨sel_one (by kernel_rfl) t_u50q, trivial⟩) (by kernel_rfl) (fun v => by kernel_rfl) (fun v => f_u81q_eq v.1 v.2)
noncomputable def T68 : Tab := (39, FE p_u81q r_u81q (fun (v : List AV × List UInt8) => (f_u81q v.1 v.2 : Option B_u81q))) :: T67
theorem T68_ok : TabOk IP T68 := ⟨FE_ok c_u81q, T67_ok⟩
abbrev TT_u67q : Type := (Int × List AV × Int × Int × Int × List UInt8 × List AV × List AV) ⊕ (Int × List AV × Int × Int × Int × List UInt8 × List AV) ⊕ (List AV × Int × List AV × Int × Int × Int × List UInt8 × List AV)
def hs_u67q : List PSt := [⟨[(1002501, .junk), (1, .ref 0 0 0), (3, .own 1 0), (4, .int .i64), (5, .view 1), (6, .int .i64)], [(0, .box [.int .i64, .int .i64, .str, .view 4] false), (1, .arr 1 false)], 2, 0⟩, ⟨[(1002501, .junk), (1, .ref 0 0 0), (3, .nils 1), (4, .int .i64), (5, .view 1), (6, .int .i64)], [(0, .box [.int .i64, .int .i64, .str, .view 4] false)], 1, 0⟩, ⟨[(1002501, .junk), (1, .ref 0 0 0), (3, .view 1), (4, .int .i64), (5, .view 1), (6, .int .i64)], [(0, .box [.int .i64, .int .i64, .str, .view 4] false)], 1, 0⟩]
noncomputable def x_u67q_0 (x0 : Int) (x1 : List AV) (x2 : Int) (x3 : Int) (x4 : Int) (x5 : List UInt8) (x6 : List AV) (x7 : List AV) : X × St := (X.exit 2,
  { tm := [(1, AV.ref 0 0 0), (3, AV.own 1 0 none), (4, AV.int IntKind.i64 x0)],
    hp := [(0, Blk.box [AV.int IntKind.i64 x3, AV.int IntKind.i64 x4, AV.str x5, AV.view 4 x6] false), (1, Blk.arr 1 x7 false)], nx := 2, k := 0 })
noncomputable def x_u67q_1 (x0 : Int) (x1 : List AV) (x2 : Int) (x3 : Int) (x4 : Int) (x5 : List UInt8) (x6 : List AV) : X × St := (X.exit 2,
  { tm := [(1, AV.ref 0 0 0), (3, AV.nils { sz := 1, kd := NKd.nil }), (4, AV.int IntKind.i64 x0)],
    hp := [(0, Blk.box [AV.int IntKind.i64 x3, AV.int IntKind.i64 x4, AV.str x5, AV.view 4 x6] false)], nx := 1, k := 0 })
noncomputable def x_u67q_2 (x0 : List AV) (x1 : Int) (x2 : List AV) (x3 : Int) (x4 : Int) (x5 : Int) (x6 : List UInt8) (x7 : List AV) : X × St := (X.exit 2,
  { tm := [(1, AV.ref 0 0 0), (3, AV.view 1 x0), (4, AV.int IntKind.i64 x1)], hp := [(0, Blk.box [AV.int IntKind.i64 x4, AV.int IntKind.i64 x5, AV.str x6, AV.view 4 x7] false)],
    nx := 1, k := 0 })
noncomputable def x_u67q : List (TT_u67q → X × St) := [fun w => x_u67q_0 (sl w).1 (sl w).2.1 (sl w).2.2.1 (sl w).2.2.2.1 (sl w).2.2.2.2.1 (sl w).2.2.2.2.2.1 (sl w).2.2.2.2.2.2.1 (sl w).2.2.2.2.2.2.2, fun w => x_u67q_1 (sl (sr w)).1 (sl (sr w)).2.1 (sl (sr w)).2.2.1 (sl (sr w)).2.2.2.1 (sl (sr w)).2.2.2.2.1 (sl (sr w)).2.2.2.2.2.1 (sl (sr w)).2.2.2.2.2.2, fun w => x_u67q_2 (sr (sr w)).1 (sr (sr w)).2.1 (sr (sr w)).2.2.1 (sr (sr w)).2.2.2.1 (sr (sr w)).2.2.2.2.1 (sr (sr w)).2.2.2.2.2.1 (sr (sr w)).2.2.2.2.2.2.1 (sr (sr w)).2.2.2.2.2.2.2]
noncomputable def st_u67q_0 (x0 : Int) (x1 : List AV) (x2 : Int) (x3 : Int) (x4 : Int) (x5 : List UInt8) (x6 : List AV) (x7 : List AV) : DT (Rd TT_u67q) :=
 .br (decide (x2 < (↑x1.length : Int)))
  (.br (okAt [CS.str] x1 x2)
   (.bi (f_u81q x7 (strOf (cellAt x1 x2 0))) (fun y0 =>
    .at (.next ((.inr (.inr (y0, x0, x1, IntKind.i64.wrap (x2 + 1), x3, x4, x5, x6))))))
    (.no))
   (.no))
  (.at (.done 0))
noncomputable def st_u67q_1 (x0 : Int) (x1 : List AV) (x2 : Int) (x3 : Int) (x4 : Int) (x5 : List UInt8) (x6 : List AV) : DT (Rd TT_u67q) :=
 .br (decide (x2 < (↑x1.length : Int)))
  (.br (okAt [CS.str] x1 x2)
   (.bi (f_u81q [] (strOf (cellAt x1 x2 0))) (fun y0 =>
    .at (.next ((.inr (.inr (y0, x0, x1, IntKind.i64.wrap (x2 + 1), x3, x4, x5, x6))))))
    (.no))
   (.no))
  (.at (.done 1))
noncomputable def st_u67q_2 (x0 : List AV) (x1 : Int) (x2 : List AV) (x3 : Int) (x4 : Int) (x5 : Int) (x6 : List UInt8) (x7 : List AV) : DT (Rd TT_u67q) :=
 .br (decide (x3 < (↑x2.length : Int)))
  (.br (okAt [CS.str] x2 x3)
   (.bi (f_u81q x0 (strOf (cellAt x2 x3 0))) (fun y0 =>
    .at (.next ((.inr (.inr (y0, x1, x2, IntKind.i64.wrap (x3 + 1), x4, x5, x6, x7))))))
    (.no))
   (.no))
  (.at (.done 2))
noncomputable def st_u67q : TT_u67q → DT (Rd TT_u67q) := (Sum.elim (fun v => st_u67q_0 v.1 v.2.1 v.2.2.1 v.2.2.2.1 v.2.2.2.2.1 v.2.2.2.2.2.1 v.2.2.2.2.2.2.1 v.2.2.2.2.2.2.2) (Sum.elim (fun v => st_u67q_1 v.1 v.2.1 v.2.2.1 v.2.2.2.1 v.2.2.2.2.1 v.2.2.2.2.2.1 v.2.2.2.2.2.2) (fun v => st_u67q_2 v.1 v.2.1 v.2.2.1 v.2.2.2.1 v.2.2.2.2.1 v.2.2.2.2.2.1 v.2.2.2.2.2.2.1 v.2.2.2.2.2.2.2)))
noncomputable def l_u67q (v : TT_u67q) : Option (Nat × TT_u67q) := lock (iterO (fun v => (st_u67q v).ev) v)
theorem l_u67q_eq (v : TT_u67q) : l_u67q v = iterO (fun v => (st_u67q v).ev) v := lock_eq _
noncomputable def ll_u67q : LEnt := LE (τ := TT_u67q) (hD hs_u67q) (l_u67q) x_u67q
theorem t_u67q : Go.Eng.Told IP (loopAt F25 1).1 (loopAt F25 1).2 (ll_u67q) := loop_LE (inferInstance : Inhabited TT_u67q) (hs := hs_u67q) (st := st_u67q) (L := []) T68_ok (LOk_of (l := []) (by kernel_rfl) trivial) (l_u67q_eq) (fun v => match v with | (.inl v) => by kernel_rfl | (.inr (.inl v)) => by kernel_rfl | (.inr (.inr v)) => by kernel_rfl) (fun v => match v with | (.inl v) => by kernel_rfl | (.inr (.inl v)) => by kernel_rfl | (.inr (.inr v)) => by kernel_rfl)
abbrev B_u100q : Type := List AV
def p_u100q : PArgs := ⟨[.agg [.int .i64, .int .i64, .str, .view 4]], []⟩
def r_u100q : List PRes := [⟨false, .view 1, []⟩]
abbrev GT_u100q : Type := Int → Int → (List UInt8) → (List AV) → Option B_u100q
def GH_u100q (G_u100q : GT_u100q) : Prop := FH IP 25 p_u100q r_u100q (fun (v : Int × Int × List UInt8 × List AV) => (G_u100q v.1 v.2.1 v.2.2.1 v.2.2.2 : Option B_u100q))
noncomputable def TG_u100q (G_u100q : GT_u100q) : Tab := (25, FE p_u100q r_u100q (fun (v : Int × Int × List UInt8 × List AV) => (G_u100q v.1 v.2.1 v.2.2.1 v.2.2.2 : Option B_u100q))) :: T68
theorem TG_u100q_ok (G_u100q : GT_u100q) (hG : GH_u100q G_u100q) : TabOk IP (TG_u100q G_u100q) := ⟨FE_ok (hG), T68_ok⟩
end Go.Proofs.H11

/- Functions over plain data. Printed by a program of mine. -/
import Derived.Test.YtbhffafppahmjaaGreatDoorD11_4
import Derived.KernelRfl
set_option linter.unusedVariables false
set_option linter.unusedSimpArgs false
set_option linter.unnecessarySimpa false
namespace Go.Proofs.H11
open Go Go.Eng
set_option maxRecDepth 100000
abbrev TT_u66q : Type := (Int × Int × Int × List UInt8 × List AV × List AV) ⊕ (Int × Int × Int × List UInt8 × List AV) ⊕ (List AV × Int × Int × Int × List UInt8 × List AV)
def hs_u66q : List PSt := [⟨[(1002500, .junk), (1, .ref 0 0 0), (3, .own 1 0), (4, .int .i64)], [(0, .box [.int .i64, .int .i64, .str, .view 4] false), (1, .arr 1 false)], 2, 0⟩, ⟨[(1002500, .junk), (1, .ref 0 0 0), (3, .nils 1), (4, .int .i64)], [(0, .box [.int .i64, .int .i64, .str, .view 4] false)], 1, 0⟩, ⟨[(1002500, .junk), (1, .ref 0 0 0), (3, .view 1), (4, .int .i64)], [(0, .box [.int .i64, .int .i64, .str, .view 4] false)], 1, 0⟩]
noncomputable def x_u66q_0 (x0 : Int) (x1 : Int) (x2 : Int) (x3 : List UInt8) (x4 : List AV) (x5 : List AV) : X × St := (X.exit 0, { tm := [(3, AV.own 0 0 none)], hp := [(0, Blk.arr 1 x5 false)], nx := 1, k := 0 })
noncomputable def x_u66q_1 (x0 : Int) (x1 : Int) (x2 : Int) (x3 : List UInt8) (x4 : List AV) : X × St := (X.exit 0, { tm := [(3, AV.nils { sz := 1, kd := NKd.nil })], hp := [], nx := 0, k := 0 })
noncomputable def x_u66q_2 (x0 : List AV) (x1 : Int) (x2 : Int) (x3 : Int) (x4 : List UInt8) (x5 : List AV) : X × St := (X.exit 0, { tm := [(3, AV.view 1 x0)], hp := [], nx := 0, k := 0 })
noncomputable def x_u66q : List (TT_u66q → X × St) := [fun w => x_u66q_0 (sl w).1 (sl w).2.1 (sl w).2.2.1 (sl w).2.2.2.1 (sl w).2.2.2.2.1 (sl w).2.2.2.2.2, fun w => x_u66q_1 (sl (sr w)).1 (sl (sr w)).2.1 (sl (sr w)).2.2.1 (sl (sr w)).2.2.2.1 (sl (sr w)).2.2.2.2, fun w => x_u66q_2 (sr (sr w)).1 (sr (sr w)).2.1 (sr (sr w)).2.2.1 (sr (sr w)).2.2.2.1 (sr (sr w)).2.2.2.2.1 (sr (sr w)).2.2.2.2.2]
noncomputable def st_u66q_0 (G_u100q : GT_u100q) (x0 : Int) (x1 : Int) (x2 : Int) (x3 : List UInt8) (x4 : List AV) (x5 : List AV) : DT (Rd TT_u66q) :=
 .br (decide (x0 < (↑x4.length : Int)))
  (.br (okAt [CS.int IntKind.i64, CS.int IntKind.i64, CS.str, CS.slice 4] x4 x0)
   (.bi (G_u100q (intOf (cellAt x4 x0 0)) (intOf (cellAt x4 x0 1)) (strOf (cellAt x4 x0 2)) (viewOf (cellAt x4 x0 3))) (fun y0 =>
    .bi (pj 0 (l_u67q (Sum.inl (x0, y0, 0, x1, x2, x3, x4, x5)))) (fun y1 =>
     .at (.next ((.inl (IntKind.i64.wrap ((sl y1).fst + 1), (sl y1).snd.snd.snd.fst, (sl y1).snd.snd.snd.snd.fst, (sl y1).snd.snd.snd.snd.snd.fst, (sl y1).snd.snd.snd.snd.snd.snd.fst, (sl y1).snd.snd.snd.snd.snd.snd.snd)))))
     (.bi (pj 1 (l_u67q (Sum.inl (x0, y0, 0, x1, x2, x3, x4, x5)))) (fun y1 =>
      .at (.next ((.inr (.inl (IntKind.i64.wrap ((sl (sr y1)).fst + 1), (sl (sr y1)).snd.snd.snd.fst, (sl (sr y1)).snd.snd.snd.snd.fst, (sl (sr y1)).snd.snd.snd.snd.snd.fst, (sl (sr y1)).snd.snd.snd.snd.snd.snd))))))
      (.bi (pj 2 (l_u67q (Sum.inl (x0, y0, 0, x1, x2, x3, x4, x5)))) (fun y1 =>
       .at (.next ((.inr (.inr ((sr (sr y1)).fst, IntKind.i64.wrap ((sr (sr y1)).snd.fst + 1), (sr (sr y1)).snd.snd.snd.snd.fst, (sr (sr y1)).snd.snd.snd.snd.snd.fst, (sr (sr y1)).snd.snd.snd.snd.snd.snd.fst, (sr (sr y1)).snd.snd.snd.snd.snd.snd.snd))))))
       (.no))))
    (.no))
   (.no))
  (.at (.done 0))
noncomputable def st_u66q_1 (G_u100q : GT_u100q) (x0 : Int) (x1 : Int) (x2 : Int) (x3 : List UInt8) (x4 : List AV) : DT (Rd TT_u66q) :=
 .br (decide (x0 < (↑x4.length : Int)))
  (.br (okAt [CS.int IntKind.i64, CS.int IntKind.i64, CS.str, CS.slice 4] x4 x0)
   (.bi (G_u100q (intOf (cellAt x4 x0 0)) (intOf (cellAt x4 x0 1)) (strOf (cellAt x4 x0 2)) (viewOf (cellAt x4 x0 3))) (fun y0 =>
    .bi (pj 0 (l_u67q (Sum.inr (Sum.inl (x0, y0, 0, x1, x2, x3, x4))))) (fun y1 =>
     .at (.next ((.inl (IntKind.i64.wrap ((sl y1).fst + 1), (sl y1).snd.snd.snd.fst, (sl y1).snd.snd.snd.snd.fst, (sl y1).snd.snd.snd.snd.snd.fst, (sl y1).snd.snd.snd.snd.snd.snd.fst, (sl y1).snd.snd.snd.snd.snd.snd.snd)))))
     (.bi (pj 1 (l_u67q (Sum.inr (Sum.inl (x0, y0, 0, x1, x2, x3, x4))))) (fun y1 =>
      .at (.next ((.inr (.inl (IntKind.i64.wrap ((sl (sr y1)).fst + 1), (sl (sr y1)).snd.snd.snd.fst, (sl (sr y1)).snd.snd.snd.snd.fst, (sl (sr y1)).snd.snd.snd.snd.snd.fst, (sl (sr y1)).snd.snd.snd.snd.snd.snd))))))
      (.bi (pj 2 (l_u67q (Sum.inr (Sum.inl (x0, y0, 0, x1, x2, x3, x4))))) (fun y1 =>
       .at (.next ((.inr (.inr ((sr (sr y1)).fst, IntKind.i64.wrap ((sr (sr y1)).snd.fst + 1), (sr (sr y1)).snd.snd.snd.snd.fst, (sr (sr y1)).snd.snd.snd.snd.snd.fst, (sr (sr y1)).snd.snd.snd.snd.snd.snd.fst, (sr (sr y1)).snd.snd.snd.snd.snd.snd.snd))))))
       (.no))))
    (.no))
   (.no))
  (.at (.done 1))
noncomputable def st_u66q_2 (G_u100q : GT_u100q) (x0 : List AV) (x1 : Int) (x2 : Int) (x3 : Int) (x4 : List UInt8) (x5 : List AV) : DT (Rd TT_u66q) :=
 .br (decide (x1 < (↑x5.length : Int)))
  (.br (okAt [CS.int IntKind.i64, CS.int IntKind.i64, CS.str, CS.slice 4] x5 x1)
   (.bi (G_u100q (intOf (cellAt x5 x1 0)) (intOf (cellAt x5 x1 1)) (strOf (cellAt x5 x1 2)) (viewOf (cellAt x5 x1 3))) (fun y0 =>
    .bi (pj 0 (l_u67q (Sum.inr (Sum.inr (x0, x1, y0, 0, x2, x3, x4, x5))))) (fun y1 =>
     .at (.next ((.inl (IntKind.i64.wrap ((sl y1).fst + 1), (sl y1).snd.snd.snd.fst, (sl y1).snd.snd.snd.snd.fst, (sl y1).snd.snd.snd.snd.snd.fst, (sl y1).snd.snd.snd.snd.snd.snd.fst, (sl y1).snd.snd.snd.snd.snd.snd.snd)))))
     (.bi (pj 1 (l_u67q (Sum.inr (Sum.inr (x0, x1, y0, 0, x2, x3, x4, x5))))) (fun y1 =>
      .at (.next ((.inr (.inl (IntKind.i64.wrap ((sl (sr y1)).fst + 1), (sl (sr y1)).snd.snd.snd.fst, (sl (sr y1)).snd.snd.snd.snd.fst, (sl (sr y1)).snd.snd.snd.snd.snd.fst, (sl (sr y1)).snd.snd.snd.snd.snd.snd))))))
      (.bi (pj 2 (l_u67q (Sum.inr (Sum.inr (x0, x1, y0, 0, x2, x3, x4, x5))))) (fun y1 =>
       .at (.next ((.inr (.inr ((sr (sr y1)).fst, IntKind.i64.wrap ((sr (sr y1)).snd.fst + 1), (sr (sr y1)).snd.snd.snd.snd.fst, (sr (sr y1)).snd.snd.snd.snd.snd.fst, (sr (sr y1)).snd.snd.snd.snd.snd.snd.fst, (sr (sr y1)).snd.snd.snd.snd.snd.snd.snd))))))
       (.no))))
    (.no))
   (.no))
  (.at (.done 2))
noncomputable def st_u66q (G_u100q : GT_u100q) : TT_u66q → DT (Rd TT_u66q) := (Sum.elim (fun v => st_u66q_0 G_u100q v.1 v.2.1 v.2.2.1 v.2.2.2.1 v.2.2.2.2.1 v.2.2.2.2.2) (Sum.elim (fun v => st_u66q_1 G_u100q v.1 v.2.1 v.2.2.1 v.2.2.2.1 v.2.2.2.2) (fun v => st_u66q_2 G_u100q v.1 v.2.1 v.2.2.1 v.2.2.2.1 v.2.2.2.2.1 v.2.2.2.2.2)))
noncomputable def l_u66q (G_u100q : GT_u100q) (v : TT_u66q) : Option (Nat × TT_u66q) := lock (iterO (fun v => (st_u66q G_u100q v).ev) v)
theorem l_u66q_eq (G_u100q : GT_u100q) (v : TT_u66q) : l_u66q G_u100q v = iterO (fun v => (st_u66q G_u100q v).ev) v := lock_eq _
noncomputable def ll_u66q (G_u100q : GT_u100q) : LEnt := LE (τ := TT_u66q) (hD hs_u66q) (l_u66q G_u100q) x_u66q
theorem t_u66q (G_u100q : GT_u100q) (hG : GH_u100q G_u100q) : Go.Eng.Told IP (loopAt F25 0).1 (loopAt F25 0).2 (ll_u66q G_u100q) := loop_LE (inferInstance : Inhabited TT_u66q) (hs := hs_u66q) (st := st_u66q G_u100q) (L := [(1002501, ll_u67q)]) (TG_u100q_ok G_u100q hG) (LOk_of (l := [loopAt F25 1]) (by kernel_rfl) ⟨sel_one (by kernel_rfl) t_u67q, trivial⟩) (l_u66q_eq G_u100q) (fun v => match v with | (.inl v) => by kernel_rfl | (.inr (.inl v)) => by kernel_rfl | (.inr (.inr v)) => by kernel_rfl) (fun v => match v with | (.inl v) => by kernel_rfl | (.inr (.inl v)) => by kernel_rfl | (.inr (.inr v)) => by kernel_rfl)
noncomputable def tr_u100q (G_u100q : GT_u100q) (x0 : Int) (x1 : Int) (x2 : List UInt8) (x3 : List AV) : DT B_u100q :=
 .br (x0 == 4)
  (.bi (pj 0 (l_u66q G_u100q (Sum.inl (0, x0, x1, x2, x3, [AV.str x2])))) (fun y0 =>
   .at ((sl y0).snd.snd.snd.snd.snd))
   (.bi (pj 1 (l_u66q G_u100q (Sum.inl (0, x0, x1, x2, x3, [AV.str x2])))) (fun y0 =>
    .at ([]))
    (.bi (pj 2 (l_u66q G_u100q (Sum.inl (0, x0, x1, x2, x3, [AV.str x2])))) (fun y0 =>
     .at ((sr (sr y0)).fst))
     (.no))))
  (.bi (pj 0 (l_u66q G_u100q (Sum.inr (Sum.inl (0, x0, x1, x2, x3))))) (fun y0 =>
   .at ((sl y0).snd.snd.snd.snd.snd))
   (.bi (pj 1 (l_u66q G_u100q (Sum.inr (Sum.inl (0, x0, x1, x2, x3))))) (fun y0 =>
    .at ([]))
    (.bi (pj 2 (l_u66q G_u100q (Sum.inr (Sum.inl (0, x0, x1, x2, x3))))) (fun y0 =>
     .at ((sr (sr y0)).fst))
     (.no))))
noncomputable def N_u100q : Nat → GT_u100q
  | 0 => fun _ _ _ _ => none
  | n + 1 => fun x0 x1 x2 x3 => (tr_u100q ((N_u100q n)) x0 x1 x2 x3).ev
noncomputable def f_u100q (x0 : Int) (x1 : Int) (x2 : List UInt8) (x3 : List AV) : Option B_u100q := limO fun n => (N_u100q n) x0 x1 x2 x3
theorem N_u100q_ok : ∀ n, GH_u100q ((N_u100q n))
  | 0 => (fun v y h => nomatch h)
  | n + 1 => have hG := N_u100q_ok n
    fun_FH (F := F25) (L := [(1002500, ll_u66q ((N_u100q n)))]) (t := fun (v : Int × Int × List UInt8 × List AV) => tr_u100q ((N_u100q n)) v.1 v.2.1 v.2.2.1 v.2.2.2) (TG_u100q_ok ((N_u100q n)) hG) (LOk_of (l := [loopAt F25 0, loopAt F25 1]) (by kernel_rfl) ⟨sel_one (by kernel_rfl) (t_u66q ((N_u100q n)) hG), sel_no (by kernel_rfl), trivial⟩) (by kernel_rfl) (fun v => by kernel_rfl) (fun v => rfl)
theorem c_u100q : FH IP 25 p_u100q r_u100q (fun (v : Int × Int × List UInt8 × List AV) => (f_u100q v.1 v.2.1 v.2.2.1 v.2.2.2 : Option B_u100q)) := lim_FH (p := p_u100q) (rs := r_u100q) (s := fun n (v : Int × Int × List UInt8 × List AV) => (N_u100q n) v.1 v.2.1 v.2.2.1 v.2.2.2) fun n => (N_u100q_ok n)
noncomputable def T69 : Tab := (25, FE p_u100q r_u100q (fun (v : Int × Int × List UInt8 × List AV) => (f_u100q v.1 v.2.1 v.2.2.1 v.2.2.2 : Option B_u100q))) :: T68
theorem T69_ok : TabOk IP T69 := ⟨FE_ok c_u100q, T68_ok⟩
abbrev TT_u29q : Type := List AV × Int
def hs_u29q : List PSt := [⟨[(1001200, .junk), (3, .view 1), (4, .int .i64)], [], 0, 0⟩]
noncomputable def x_u29q_0 (x0 : List AV) (x1 : Int) : X × St := (X.ret, { tm := [(2, AV.int IntKind.i64 4)], hp := [], nx := 0, k := 0 })
noncomputable def x_u29q_1 (x0 : List AV) (x1 : Int) : X × St := (X.exit 0, { tm := [(2, AV.junk)], hp := [], nx := 0, k := 0 })
noncomputable def x_u29q : List (TT_u29q → X × St) := [fun w => x_u29q_0 w.1 w.2, fun w => x_u29q_1 w.1 w.2]
noncomputable def st_u29q_0 (x0 : List AV) (x1 : Int) : DT (Rd TT_u29q) :=
 .br (decide (x1 < (↑x0.length : Int)))
  (.br (okAt [CS.str] x0 x1)
   (.bi (f_u49q (strOf (cellAt x0 x1 0))) (fun y0 =>
    .br (!y0) (.at (.done 0)) (.at (.next ((x0, IntKind.i64.wrap (x1 + 1))))))
    (.no))
   (.no))
  (.at (.done 1))
noncomputable def st_u29q : TT_u29q → DT (Rd TT_u29q) := (fun v => st_u29q_0 v.1 v.2)
noncomputable def l_u29q (v : TT_u29q) : Option (Nat × TT_u29q) := lock (iterO (fun v => (st_u29q v).ev) v)
theorem l_u29q_eq (v : TT_u29q) : l_u29q v = iterO (fun v => (st_u29q v).ev) v := lock_eq _
noncomputable def ll_u29q : LEnt := LE (τ := TT_u29q) (hD hs_u29q) (l_u29q) x_u29q
theorem t_u29q : Go.Eng.Told IP (loopAt F12 0).1 (loopAt F12 0).2 (ll_u29q) := loop_LE (inferInstance : Inhabited TT_u29q) (hs := hs_u29q) (st := st_u29q) (L := []) T69_ok (LOk_of (l := []) (by kernel_rfl) trivial) (l_u29q_eq) (fun v => by kernel_rfl) (fun v => by kernel_rfl)
abbrev B_u48q : Type := Int
def p_u48q : PArgs := ⟨[.agg [.int .i64, .int .i64, .str, .view 4]], []⟩
def r_u48q : List PRes := [⟨false, .int .i64, []⟩]
noncomputable def tr_u48q (x0 : Int) (x1 : Int) (x2 : List UInt8) (x3 : List AV) : DT B_u48q :=
 .bi (f_u99q x0 x1 x2 x3 64) (fun y0 =>
  .bi (br y0 (some true) (br (sm (f_u98q x0 x1 x2 x3)) (some (decide (gv (f_u98q x0 x1 x2 x3) > 8))) none)) (fun y1 =>
   .br (y1)
    (.at (5))
    (.bi (f_u102q x0 x1 x2 x3) (fun y2 =>
     .br (!y2)
      (.at (1))
      (.bi (f_u100q x0 x1 x2 x3) (fun y3 =>
       .bi (pj 0 (l_u29q (y3, 0))) (fun y4 =>
        .at (4))
        (.bi (pj 1 (l_u29q (y3, 0))) (fun y4 =>
         .at (0))
         (.no)))
       (.no)))
     (.no)))
   (.no))
  (.no)
noncomputable def f_u48q (x0 : Int) (x1 : Int) (x2 : List UInt8) (x3 : List AV) : Option B_u48q := lock (tr_u48q x0 x1 x2 x3).ev
theorem f_u48q_eq (x0 : Int) (x1 : Int) (x2 : List UInt8) (x3 : List AV) : f_u48q x0 x1 x2 x3 = (tr_u48q x0 x1 x2 x3).ev := lock_eq _
theorem c_u48q : FH IP 12 p_u48q r_u48q (fun (v : Int × Int × List UInt8 × List AV) => (f_u48q v.1 v.2.1 v.2.2.1 v.2.2.2 : Option B_u48q)) := fun_FH (F := F12) (L := [(1001200, ll_u29q)]) (t := fun (v : Int × Int × List UInt8 × List AV) => tr_u48q v.1 v.2.1 v.2.2.1 v.2.2.2) T69_ok (LOk_of (l := [loopAt F12 0]) (by kernel_rfl) ⟨sel_one (by kernel_rfl) t_u29q, trivial⟩) (by kernel_rfl) (fun v => by kernel_rfl) (fun v => f_u48q_eq v.1 v.2.1 v.2.2.1 v.2.2.2)
noncomputable def T70 : Tab := (12, FE p_u48q r_u48q (fun (v : Int × Int × List UInt8 × List AV) => (f_u48q v.1 v.2.1 v.2.2.1 v.2.2.2 : Option B_u48q))) :: T69
theorem T70_ok : TabOk IP T70 := ⟨FE_ok c_u48q, T69_ok⟩
abbrev TT_u112q : Type := List AV × Int × Int × Int × List UInt8 × List AV
def hs_u112q : List PSt := [⟨[(1002900, .junk), (1, .view 2), (2, .ref 0 0 0), (6, .int .i64)], [(0, .box [.int .i64, .int .i64, .str, .view 4] false)], 1, 0⟩]
noncomputable def x_u112q_0 (x0 : List AV) (x1 : Int) (x2 : Int) (x3 : Int) (x4 : List UInt8) (x5 : List AV) : X × St := (X.ret, { tm := [(4, AV.int IntKind.i64 (intOf (cellAt x0 x1 1))), (5, AV.int IntKind.i64 0)], hp := [], nx := 0, k := 0 })
noncomputable def x_u112q_1 (x0 : List AV) (x1 : Int) (x2 : Int) (x3 : Int) (x4 : List UInt8) (x5 : List AV) : X × St := (X.ret, { tm := [(4, AV.int IntKind.i64 0), (5, AV.int IntKind.i64 3)], hp := [], nx := 0, k := 0 })
noncomputable def x_u112q_2 (x0 : List AV) (x1 : Int) (x2 : Int) (x3 : Int) (x4 : List UInt8) (x5 : List AV) : X × St := (X.exit 1, { tm := [(4, AV.junk), (5, AV.junk)], hp := [], nx := 0, k := 0 })
noncomputable def x_u112q : List (TT_u112q → X × St) := [fun w => x_u112q_0 w.1 w.2.1 w.2.2.1 w.2.2.2.1 w.2.2.2.2.1 w.2.2.2.2.2, fun w => x_u112q_1 w.1 w.2.1 w.2.2.1 w.2.2.2.1 w.2.2.2.2.1 w.2.2.2.2.2, fun w => x_u112q_2 w.1 w.2.1 w.2.2.1 w.2.2.2.1 w.2.2.2.2.1 w.2.2.2.2.2]
noncomputable def st_u112q_0 (x0 : List AV) (x1 : Int) (x2 : Int) (x3 : Int) (x4 : List UInt8) (x5 : List AV) : DT (Rd TT_u112q) :=
 .br (decide (x1 < (↑x0.length : Int)))
  (.br (okAt [CS.str, CS.int IntKind.i64] x0 x1)
   (.br (strOf (cellAt x0 x1 0) == x4)
    (.br (okAt [CS.str, CS.int IntKind.i64] x0 x1)
     (.bi (f_u110q (intOf (cellAt x0 x1 1))) (fun y0 =>
      .br (y0)
       (.br (okAt [CS.str, CS.int IntKind.i64] x0 x1) (.at (.done 0)) (.no))
       (.br (okAt [CS.str, CS.int IntKind.i64] x0 x1)
        (.br (strOf (cellAt x0 x1 0) == x4) (.at (.done 1)) (.at (.next ((x0, IntKind.i64.wrap (x1 + 1), x2, x3, x4, x5)))))
        (.no)))
      (.no))
     (.no))
    (.br (okAt [CS.str, CS.int IntKind.i64] x0 x1)
     (.br (strOf (cellAt x0 x1 0) == x4) (.at (.done 1)) (.at (.next ((x0, IntKind.i64.wrap (x1 + 1), x2, x3, x4, x5)))))
     (.no)))
   (.no))
  (.at (.done 2))
noncomputable def st_u112q : TT_u112q → DT (Rd TT_u112q) := (fun v => st_u112q_0 v.1 v.2.1 v.2.2.1 v.2.2.2.1 v.2.2.2.2.1 v.2.2.2.2.2)
noncomputable def l_u112q (v : TT_u112q) : Option (Nat × TT_u112q) := lock (iterO (fun v => (st_u112q v).ev) v)
theorem l_u112q_eq (v : TT_u112q) : l_u112q v = iterO (fun v => (st_u112q v).ev) v := lock_eq _
noncomputable def ll_u112q : LEnt := LE (τ := TT_u112q) (hD hs_u112q) (l_u112q) x_u112q
theorem t_u112q : Go.Eng.Told IP (loopAt F29 0).1 (loopAt F29 0).2 (ll_u112q) := loop_LE (inferInstance : Inhabited TT_u112q) (hs := hs_u112q) (st := st_u112q) (L := []) T70_ok (LOk_of (l := []) (by kernel_rfl) trivial) (l_u112q_eq) (fun v => by kernel_rfl) (fun v => by kernel_rfl)
abbrev TT_u51q : Type := Int × List AV × Int
def hs_u51q : List PSt := [⟨[(1004200, .junk), (0, .int .i64), (1, .view 1), (6, .int .i64)], [], 0, 0⟩]
noncomputable def x_u51q_0 (x0 : Int) (x1 : List AV) (x2 : Int) : X × St := (X.ret, { tm := [(0, AV.int IntKind.i64 x0), (1, AV.view 1 x1), (4, AV.int IntKind.i64 0), (5, AV.bool false)], hp := [], nx := 0, k := 0 })
noncomputable def x_u51q_1 (x0 : Int) (x1 : List AV) (x2 : Int) : X × St := (X.exit 0, { tm := [(0, AV.int IntKind.i64 x0), (1, AV.view 1 x1), (4, AV.junk), (5, AV.junk)], hp := [], nx := 0, k := 0 })
noncomputable def x_u51q : List (TT_u51q → X × St) := [fun w => x_u51q_0 w.1 w.2.1 w.2.2, fun w => x_u51q_1 w.1 w.2.1 w.2.2]
noncomputable def st_u51q_0 (x0 : Int) (x1 : List AV) (x2 : Int) : DT (Rd TT_u51q) :=
 .br (decide (x2 < (↑x1.length : Int)))
  (.br (okAt [CS.int IntKind.i64] x1 x2)
   (.bi (f_u110q (intOf (cellAt x1 x2 0))) (fun y0 =>
    .br (!y0) (.at (.done 0)) (.at (.next ((x0, x1, IntKind.i64.wrap (x2 + 1))))))
    (.no))
   (.no))
  (.at (.done 1))
noncomputable def st_u51q : TT_u51q → DT (Rd TT_u51q) := (fun v => st_u51q_0 v.1 v.2.1 v.2.2)
noncomputable def l_u51q (v : TT_u51q) : Option (Nat × TT_u51q) := lock (iterO (fun v => (st_u51q v).ev) v)
theorem l_u51q_eq (v : TT_u51q) : l_u51q v = iterO (fun v => (st_u51q v).ev) v := lock_eq _
noncomputable def ll_u51q : LEnt := LE (τ := TT_u51q) (hD hs_u51q) (l_u51q) x_u51q
theorem t_u51q : Go.Eng.Told IP (loopAt F42 0).1 (loopAt F42 0).2 (ll_u51q) := loop_LE (inferInstance : Inhabited TT_u51q) (hs := hs_u51q) (st := st_u51q) (L := []) T70_ok (LOk_of (l := []) (by kernel_rfl) trivial) (l_u51q_eq) (fun v => by kernel_rfl) (fun v => by kernel_rfl)
abbrev B_u86q : Type := Bool
def p_u86q : PArgs := ⟨[.int .i64], []⟩
def r_u86q : List PRes := [⟨false, .bool, []⟩]
noncomputable def tr_u86q (x0 : Int) : DT B_u86q :=
 .bi (br (x0 == 1) (some true) (some (x0 == 2))) (fun y0 =>
  .bi (br y0 (some true) (some (x0 == 3))) (fun y1 =>
   .at (y1))
   (.no))
  (.no)
noncomputable def f_u86q (x0 : Int) : Option B_u86q := lock (tr_u86q x0).ev
theorem f_u86q_eq (x0 : Int) : f_u86q x0 = (tr_u86q x0).ev := lock_eq _
theorem c_u86q : FH IP 51 p_u86q r_u86q (fun (v : Int) => (f_u86q v : Option B_u86q)) := fun_FH (F := F51) (L := []) (t := fun (v : Int) => tr_u86q v) T70_ok (LOk_of (l := []) (by kernel_rfl) trivial) (by kernel_rfl) (fun v => by kernel_rfl) (fun v => f_u86q_eq v)
noncomputable def T71 : Tab := (51, FE p_u86q r_u86q (fun (v : Int) => (f_u86q v : Option B_u86q))) :: T70
theorem T71_ok : TabOk IP T71 := ⟨FE_ok c_u86q, T70_ok⟩
abbrev B_u70q : Type := Int × Bool
def p_u70q : PArgs := ⟨[.int .i64, .int .i64], []⟩
def r_u70q : List PRes := [⟨false, .tup [.int .i64, .bool], []⟩]
noncomputable def tr_u70q (x0 : Int) (x1 : Int) : DT B_u70q :=
 .bi (f_u86q x0) (fun y0 =>
  .bi (br (!y0) (some true) (br (sm (f_u86q x1)) (some !gv (f_u86q x1)) none)) (fun y1 =>
   .br (y1)
    (.at ((0, false)))
    (.br (x0 == 1)
     (.at ((x1, true)))
     (.br (x1 == 1) (.at ((x0, true))) (.at ((2, x0 != x1))))))
   (.no))
  (.no)
noncomputable def f_u70q (x0 : Int) (x1 : Int) : Option B_u70q := lock (tr_u70q x0 x1).ev
theorem f_u70q_eq (x0 : Int) (x1 : Int) : f_u70q x0 x1 = (tr_u70q x0 x1).ev := lock_eq _
theorem c_u70q : FH IP 56 p_u70q r_u70q (fun (v : Int × Int) => (f_u70q v.1 v.2 : Option B_u70q)) := fun_FH (F := F56) (L := []) (t := fun (v : Int × Int) => tr_u70q v.1 v.2) T71_ok (LOk_of (l := []) (by kernel_rfl) trivial) (by kernel_rfl) (fun v => by kernel_rfl) (fun v => f_u70q_eq v.1 v.2)
noncomputable def T72 : Tab := (56, FE p_u70q r_u70q (fun (v : Int × Int) => (f_u70q v.1 v.2 : Option B_u70q))) :: T71
theorem T72_ok : TabOk IP T72 := ⟨FE_ok c_u70q, T71_ok⟩
abbrev B_u114q : Type := Int × Bool
def p_u114q : PArgs := ⟨[.int .i64, .int .i64, .int .i64], []⟩
def r_u114q : List PRes := [⟨false, .tup [.int .i64, .bool], []⟩]
noncomputable def tr_u114q (x0 : Int) (x1 : Int) (x2 : Int) : DT B_u114q :=
 .br (x0 == 5)
  (.br (x1 == 4)
   (.at ((x1, x2 == 1)))
   (.bi (br (x1 == x2) (br (sm (f_u86q x1)) (some (gv (f_u86q x1))) none) (some false)) (fun y0 =>
    .at ((x1, y0)))
    (.no)))
  (.br (x0 == 6)
   (.bi (br (x1 == 4) (some (x2 == 4)) (some false)) (fun y0 =>
    .br (y0)
     (.at ((1, true)))
     (.br (x1 == 4)
      (.at ((x1, x2 == 1)))
      (.bi (br (x1 == x2) (br (sm (f_u86q x1)) (some (gv (f_u86q x1))) none) (some false)) (fun y1 =>
       .at ((x1, y1)))
       (.no))))
    (.no))
   (.br (x0 == 7)
    (.bi (f_u70q x1 x2) (fun y0 =>
     .at ((y0.fst, y0.snd)))
     (.no))
    (.br (x0 == 8)
     (.bi (br (x1 == 2) (some (x2 == 2)) (some false)) (fun y0 =>
      .br (y0)
       (.at ((1, true)))
       (.bi (f_u86q x1) (fun y1 =>
        .bi (br y1 (some (x2 == 1)) (some false)) (fun y2 =>
         .at ((x1, y2)))
         (.no))
        (.no)))
      (.no))
     (.br (x0 == 10)
      (.br (x0 == 10)
       (.at ((5, x1 == x2)))
       (.br (x0 == 12)
        (.br (x0 == 12)
         (.bi (br (x1 == x2) (some (x1 != 5)) (some false)) (fun y0 =>
          .at ((5, y0)))
          (.no))
         (.br (x0 == 14)
          (.br (x0 == 14)
           (.bi (br (x1 == 5) (some (x2 == 5)) (some false)) (fun y0 =>
            .at ((5, y0)))
            (.no))
           (.br (x0 == 17)
            (.br (x0 == 17)
             (.bi (br (x1 == x2) (some (x1 != 5)) (some false)) (fun y0 =>
              .at ((x1, y0)))
              (.no))
             (.at ((0, false))))
            (.br (x0 == 18)
             (.bi (br (x1 == x2) (some (x1 != 5)) (some false)) (fun y0 =>
              .at ((x1, y0)))
              (.no))
             (.at ((0, false))))))
          (.br (x0 == 15)
           (.bi (br (x1 == 5) (some (x2 == 5)) (some false)) (fun y0 =>
            .at ((5, y0)))
            (.no))
           (.br (x0 == 17)
            (.br (x0 == 17)
             (.bi (br (x1 == x2) (some (x1 != 5)) (some false)) (fun y0 =>
              .at ((x1, y0)))
              (.no))
             (.at ((0, false))))
            (.br (x0 == 18)
             (.bi (br (x1 == x2) (some (x1 != 5)) (some false)) (fun y0 =>
              .at ((x1, y0)))
              (.no))
             (.at ((0, false))))))))
        (.br (x0 == 13)
         (.bi (br (x1 == x2) (some (x1 != 5)) (some false)) (fun y0 =>
          .at ((5, y0)))
          (.no))
         (.br (x0 == 14)
          (.br (x0 == 14)
           (.bi (br (x1 == 5) (some (x2 == 5)) (some false)) (fun y0 =>
            .at ((5, y0)))
            (.no))
           (.br (x0 == 17)
            (.br (x0 == 17)
             (.bi (br (x1 == x2) (some (x1 != 5)) (some false)) (fun y0 =>
              .at ((x1, y0)))
              (.no))
             (.at ((0, false))))
            (.br (x0 == 18)
             (.bi (br (x1 == x2) (some (x1 != 5)) (some false)) (fun y0 =>
              .at ((x1, y0)))
              (.no))
             (.at ((0, false))))))
          (.br (x0 == 15)
           (.bi (br (x1 == 5) (some (x2 == 5)) (some false)) (fun y0 =>
            .at ((5, y0)))
            (.no))
           (.br (x0 == 17)
            (.br (x0 == 17)
             (.bi (br (x1 == x2) (some (x1 != 5)) (some false)) (fun y0 =>
              .at ((x1, y0)))
              (.no))
             (.at ((0, false))))
            (.br (x0 == 18)
             (.bi (br (x1 == x2) (some (x1 != 5)) (some false)) (fun y0 =>
              .at ((x1, y0)))
              (.no))
             (.at ((0, false))))))))))
      (.br (x0 == 11)
       (.at ((5, x1 == x2)))
       (.br (x0 == 12)
        (.br (x0 == 12)
         (.bi (br (x1 == x2) (some (x1 != 5)) (some false)) (fun y0 =>
          .at ((5, y0)))
          (.no))
         (.br (x0 == 14)
          (.br (x0 == 14)
           (.bi (br (x1 == 5) (some (x2 == 5)) (some false)) (fun y0 =>
            .at ((5, y0)))
            (.no))
           (.br (x0 == 17)
            (.br (x0 == 17)
             (.bi (br (x1 == x2) (some (x1 != 5)) (some false)) (fun y0 =>
              .at ((x1, y0)))
              (.no))
             (.at ((0, false))))
            (.br (x0 == 18)
             (.bi (br (x1 == x2) (some (x1 != 5)) (some false)) (fun y0 =>
              .at ((x1, y0)))
              (.no))
             (.at ((0, false))))))
          (.br (x0 == 15)
           (.bi (br (x1 == 5) (some (x2 == 5)) (some false)) (fun y0 =>
            .at ((5, y0)))
            (.no))
           (.br (x0 == 17)
            (.br (x0 == 17)
             (.bi (br (x1 == x2) (some (x1 != 5)) (some false)) (fun y0 =>
              .at ((x1, y0)))
              (.no))
             (.at ((0, false))))
            (.br (x0 == 18)
             (.bi (br (x1 == x2) (some (x1 != 5)) (some false)) (fun y0 =>
              .at ((x1, y0)))
              (.no))
             (.at ((0, false))))))))
        (.br (x0 == 13)
         (.bi (br (x1 == x2) (some (x1 != 5)) (some false)) (fun y0 =>
          .at ((5, y0)))
          (.no))
         (.br (x0 == 14)
          (.br (x0 == 14)
           (.bi (br (x1 == 5) (some (x2 == 5)) (some false)) (fun y0 =>
            .at ((5, y0)))
            (.no))
           (.br (x0 == 17)
            (.br (x0 == 17)
             (.bi (br (x1 == x2) (some (x1 != 5)) (some false)) (fun y0 =>
              .at ((x1, y0)))
              (.no))
             (.at ((0, false))))
            (.br (x0 == 18)
             (.bi (br (x1 == x2) (some (x1 != 5)) (some false)) (fun y0 =>
              .at ((x1, y0)))
              (.no))
             (.at ((0, false))))))
          (.br (x0 == 15)
           (.bi (br (x1 == 5) (some (x2 == 5)) (some false)) (fun y0 =>
            .at ((5, y0)))
            (.no))
           (.br (x0 == 17)
            (.br (x0 == 17)
             (.bi (br (x1 == x2) (some (x1 != 5)) (some false)) (fun y0 =>
              .at ((x1, y0)))
              (.no))
             (.at ((0, false))))
            (.br (x0 == 18)
             (.bi (br (x1 == x2) (some (x1 != 5)) (some false)) (fun y0 =>
              .at ((x1, y0)))
              (.no))
             (.at ((0, false))))))))))))))
noncomputable def f_u114q (x0 : Int) (x1 : Int) (x2 : Int) : Option B_u114q := lock (tr_u114q x0 x1 x2).ev
theorem f_u114q_eq (x0 : Int) (x1 : Int) (x2 : Int) : f_u114q x0 x1 x2 = (tr_u114q x0 x1 x2).ev := lock_eq _
theorem c_u114q : FH IP 52 p_u114q r_u114q (fun (v : Int × Int × Int) => (f_u114q v.1 v.2.1 v.2.2 : Option B_u114q)) := fun_FH (F := F52) (L := []) (t := fun (v : Int × Int × Int) => tr_u114q v.1 v.2.1 v.2.2) T72_ok (LOk_of (l := []) (by kernel_rfl) trivial) (by kernel_rfl) (fun v => by kernel_rfl) (fun v => f_u114q_eq v.1 v.2.1 v.2.2)
noncomputable def T73 : Tab := (52, FE p_u114q r_u114q (fun (v : Int × Int × Int) => (f_u114q v.1 v.2.1 v.2.2 : Option B_u114q))) :: T72
theorem T73_ok : TabOk IP T73 := ⟨FE_ok c_u114q, T72_ok⟩
abbrev B_u85q : Type := Int × Bool
def p_u85q : PArgs := ⟨[.int .i64, .view 1], []⟩
def r_u85q : List PRes := [⟨false, .tup [.int .i64, .bool], []⟩]
noncomputable def tr_u85q (x0 : Int) (x1 : List AV) : DT B_u85q :=
 .bi (br (x0 == 9) (some ((↑x1.length : Int) == 1)) (some false)) (fun y0 =>
  .br (y0)
   (.br (okAt [CS.int IntKind.i64] x1 0)
    (.br (okAt [CS.int IntKind.i64] x1 0)
     (.bi (f_u86q (intOf (cellAt x1 0 0))) (fun y1 =>
      .at ((intOf (cellAt x1 0 0), y1)))
      (.no))
     (.no))
    (.no))
   (.bi (br (x0 == 16) (some ((↑x1.length : Int) == 1)) (some false)) (fun y1 =>
    .br (y1)
     (.br (okAt [CS.int IntKind.i64] x1 0) (.at ((5, intOf (cellAt x1 0 0) == 5))) (.no))
     (.bi (br (x0 == 19) (some ((↑x1.length : Int) == 3)) (some false)) (fun y2 =>
      .br (y2)
       (.br (okAt [CS.int IntKind.i64] x1 1)
        (.br (okAt [CS.int IntKind.i64] x1 0)
         (.br (intOf (cellAt x1 0 0) == 5)
          (.br (okAt [CS.int IntKind.i64] x1 1)
           (.br (okAt [CS.int IntKind.i64] x1 2) (.at ((intOf (cellAt x1 1 0), intOf (cellAt x1 1 0) == intOf (cellAt x1 2 0)))) (.no))
           (.no))
          (.at ((intOf (cellAt x1 1 0), false))))
         (.no))
        (.no))
       (.br ((↑x1.length : Int) == 2)
        (.br (okAt [CS.int IntKind.i64] x1 0)
         (.br (okAt [CS.int IntKind.i64] x1 1)
          (.bi (f_u114q x0 (intOf (cellAt x1 0 0)) (intOf (cellAt x1 1 0))) (fun y3 =>
           .at ((y3.fst, y3.snd)))
           (.no))
          (.no))
         (.no))
        (.at ((0, false)))))
      (.no)))
    (.no)))
  (.no)
noncomputable def f_u85q (x0 : Int) (x1 : List AV) : Option B_u85q := lock (tr_u85q x0 x1).ev
theorem f_u85q_eq (x0 : Int) (x1 : List AV) : f_u85q x0 x1 = (tr_u85q x0 x1).ev := lock_eq _
theorem c_u85q : FH IP 48 p_u85q r_u85q (fun (v : Int × List AV) => (f_u85q v.1 v.2 : Option B_u85q)) := fun_FH (F := F48) (L := []) (t := fun (v : Int × List AV) => tr_u85q v.1 v.2) T73_ok (LOk_of (l := []) (by kernel_rfl) trivial) (by kernel_rfl) (fun v => by kernel_rfl) (fun v => f_u85q_eq v.1 v.2)
noncomputable def T74 : Tab := (48, FE p_u85q r_u85q (fun (v : Int × List AV) => (f_u85q v.1 v.2 : Option B_u85q))) :: T73
theorem T74_ok : TabOk IP T74 := ⟨FE_ok c_u85q, T73_ok⟩
abbrev B_u82q : Type := Int × Bool
def p_u82q : PArgs := ⟨[.int .i64, .view 1], []⟩
def r_u82q : List PRes := [⟨false, .tup [.int .i64, .bool], []⟩]
noncomputable def tr_u82q (x0 : Int) (x1 : List AV) : DT B_u82q :=
 .br (decide ((↑x1.length : Int) > 3))
  (.at ((0, false)))
  (.bi (pj 0 (l_u51q (x0, x1, 0))) (fun y0 =>
   .at ((0, false)))
   (.bi (pj 1 (l_u51q (x0, x1, 0))) (fun y0 =>
    .bi (f_u85q y0.fst y0.snd.fst) (fun y1 =>
     .br (!y1.snd) (.at ((0, false))) (.at ((y1.fst, true))))
     (.no))
    (.no)))
noncomputable def f_u82q (x0 : Int) (x1 : List AV) : Option B_u82q := lock (tr_u82q x0 x1).ev
theorem f_u82q_eq (x0 : Int) (x1 : List AV) : f_u82q x0 x1 = (tr_u82q x0 x1).ev := lock_eq _
theorem c_u82q : FH IP 42 p_u82q r_u82q (fun (v : Int × List AV) => (f_u82q v.1 v.2 : Option B_u82q)) := fun_FH (F := F42) (L := [(1004200, ll_u51q)]) (t := fun (v : Int × List AV) => tr_u82q v.1 v.2) T74_ok (LOk_of (l := [loopAt F42 0]) (by kernel_rfl) ⟨sel_one (by kernel_rfl) t_u51q, trivial⟩) (by kernel_rfl) (fun v => by kernel_rfl) (fun v => f_u82q_eq v.1 v.2)
noncomputable def T75 : Tab := (42, FE p_u82q r_u82q (fun (v : Int × List AV) => (f_u82q v.1 v.2 : Option B_u82q))) :: T74
theorem T75_ok : TabOk IP T75 := ⟨FE_ok c_u82q, T74_ok⟩
abbrev B_u116q : Type := Int × Int
def p_u116q : PArgs := ⟨[.agg [.int .i64, .int .i64, .str, .view 4], .view 2], []⟩
def r_u116q : List PRes := [⟨false, .tup [.int .i64, .int .i64], []⟩]
abbrev GT_u116q : Type := Int → Int → (List UInt8) → (List AV) → (List AV) → Option B_u116q
def GH_u116q (G_u116q : GT_u116q) : Prop := FH IP 29 p_u116q r_u116q (fun (v : Int × Int × List UInt8 × List AV × List AV) => (G_u116q v.1 v.2.1 v.2.2.1 v.2.2.2.1 v.2.2.2.2 : Option B_u116q))
noncomputable def TG_u116q (G_u116q : GT_u116q) : Tab := (29, FE p_u116q r_u116q (fun (v : Int × Int × List UInt8 × List AV × List AV) => (G_u116q v.1 v.2.1 v.2.2.1 v.2.2.2.1 v.2.2.2.2 : Option B_u116q))) :: T75
theorem TG_u116q_ok (G_u116q : GT_u116q) (hG : GH_u116q G_u116q) : TabOk IP (TG_u116q G_u116q) := ⟨FE_ok (hG), T75_ok⟩
abbrev TT_u113q : Type := (List AV × Int × Int × Int × List UInt8 × List AV) ⊕ (List AV × Int × Int × Int × List UInt8 × List AV × List AV)
def hs_u113q : List PSt := [⟨[(1002901, .junk), (1, .view 2), (2, .ref 0 0 0), (7, .nils ⟨1, .any⟩), (8, .int .i64)], [(0, .box [.int .i64, .int .i64, .str, .view 4] false)], 1, 0⟩, ⟨[(1002901, .junk), (1, .view 2), (2, .ref 0 0 0), (7, .own 1 0), (8, .int .i64)], [(0, .box [.int .i64, .int .i64, .str, .view 4] false), (1, .arr 1 false)], 2, 0⟩]
noncomputable def x_u113q_0 (G_u116q : GT_u116q) (x0 : List AV) (x1 : Int) (x2 : Int) (x3 : Int) (x4 : List UInt8) (x5 : List AV) : X × St := (X.ret,
  {
    tm :=
      [(2, AV.ref 0 0 0), (4, AV.int IntKind.i64 0),
        (5, AV.int IntKind.i64 (gv (G_u116q (intOf (cellAt x5 x1 0)) (intOf (cellAt x5 x1 1)) (strOf (cellAt x5 x1 2)) (viewOf (cellAt x5 x1 3)) x0)).snd),
        (7, AV.nils { sz := 1, kd := NKd.any })],
    hp := [(0, Blk.box [AV.int IntKind.i64 x2, AV.int IntKind.i64 x3, AV.str x4, AV.view 4 x5] false)], nx := 1, k := 0 })
noncomputable def x_u113q_1 (G_u116q : GT_u116q) (x0 : List AV) (x1 : Int) (x2 : Int) (x3 : Int) (x4 : List UInt8) (x5 : List AV) : X × St := (X.exit 3,
  { tm := [(2, AV.ref 0 0 0), (4, AV.junk), (5, AV.junk), (7, AV.nils { sz := 1, kd := NKd.any })],
    hp := [(0, Blk.box [AV.int IntKind.i64 x2, AV.int IntKind.i64 x3, AV.str x4, AV.view 4 x5] false)], nx := 1, k := 0 })
noncomputable def x_u113q_2 (G_u116q : GT_u116q) (x0 : List AV) (x1 : Int) (x2 : Int) (x3 : Int) (x4 : List UInt8) (x5 : List AV) (x6 : List AV) : X × St := (X.ret,
  {
    tm :=
      [(2, AV.ref 0 0 0), (4, AV.int IntKind.i64 0),
        (5, AV.int IntKind.i64 (gv (G_u116q (intOf (cellAt x5 x1 0)) (intOf (cellAt x5 x1 1)) (strOf (cellAt x5 x1 2)) (viewOf (cellAt x5 x1 3)) x0)).snd), (7, AV.own 1 0 none)],
    hp := [(0, Blk.box [AV.int IntKind.i64 x2, AV.int IntKind.i64 x3, AV.str x4, AV.view 4 x5] false), (1, Blk.arr 1 x6 false)], nx := 2, k := 0 })
noncomputable def x_u113q_3 (G_u116q : GT_u116q) (x0 : List AV) (x1 : Int) (x2 : Int) (x3 : Int) (x4 : List UInt8) (x5 : List AV) (x6 : List AV) : X × St := (X.exit 3,
  { tm := [(2, AV.ref 0 0 0), (4, AV.junk), (5, AV.junk), (7, AV.own 1 0 none)],
    hp := [(0, Blk.box [AV.int IntKind.i64 x2, AV.int IntKind.i64 x3, AV.str x4, AV.view 4 x5] false), (1, Blk.arr 1 x6 false)], nx := 2, k := 0 })
noncomputable def x_u113q (G_u116q : GT_u116q) : List (TT_u113q → X × St) := [fun w => x_u113q_0 G_u116q (sl w).1 (sl w).2.1 (sl w).2.2.1 (sl w).2.2.2.1 (sl w).2.2.2.2.1 (sl w).2.2.2.2.2, fun w => x_u113q_1 G_u116q (sl w).1 (sl w).2.1 (sl w).2.2.1 (sl w).2.2.2.1 (sl w).2.2.2.2.1 (sl w).2.2.2.2.2, fun w => x_u113q_2 G_u116q (sr w).1 (sr w).2.1 (sr w).2.2.1 (sr w).2.2.2.1 (sr w).2.2.2.2.1 (sr w).2.2.2.2.2.1 (sr w).2.2.2.2.2.2, fun w => x_u113q_3 G_u116q (sr w).1 (sr w).2.1 (sr w).2.2.1 (sr w).2.2.2.1 (sr w).2.2.2.2.1 (sr w).2.2.2.2.2.1 (sr w).2.2.2.2.2.2]
noncomputable def st_u113q_0 (G_u116q : GT_u116q) (x0 : List AV) (x1 : Int) (x2 : Int) (x3 : Int) (x4 : List UInt8) (x5 : List AV) : DT (Rd TT_u113q) :=
 .br (decide (x1 < (↑x5.length : Int)))
  (.br (okAt [CS.int IntKind.i64, CS.int IntKind.i64, CS.str, CS.slice 4] x5 x1)
   (.bi (G_u116q (intOf (cellAt x5 x1 0)) (intOf (cellAt x5 x1 1)) (strOf (cellAt x5 x1 2)) (viewOf (cellAt x5 x1 3)) x0) (fun y0 =>
    .br (y0.snd != 0) (.at (.done 0)) (.at (.next ((.inr (x0, IntKind.i64.wrap (x1 + 1), x2, x3, x4, x5, [AV.int IntKind.i64 y0.fst]))))))
    (.no))
   (.no))
  (.at (.done 1))
noncomputable def st_u113q_1 (G_u116q : GT_u116q) (x0 : List AV) (x1 : Int) (x2 : Int) (x3 : Int) (x4 : List UInt8) (x5 : List AV) (x6 : List AV) : DT (Rd TT_u113q) :=
 .br (decide (x1 < (↑x5.length : Int)))
  (.br (okAt [CS.int IntKind.i64, CS.int IntKind.i64, CS.str, CS.slice 4] x5 x1)
   (.bi (G_u116q (intOf (cellAt x5 x1 0)) (intOf (cellAt x5 x1 1)) (strOf (cellAt x5 x1 2)) (viewOf (cellAt x5 x1 3)) x0) (fun y0 =>
    .br (y0.snd != 0)
     (.at (.done 2))
     (.br (room (x6.length + 1) 8) (.at (.next ((.inr (x0, IntKind.i64.wrap (x1 + 1), x2, x3, x4, x5, x6 ++ [AV.int IntKind.i64 y0.fst]))))) (.no)))
    (.no))
   (.no))
  (.at (.done 3))
noncomputable def st_u113q (G_u116q : GT_u116q) : TT_u113q → DT (Rd TT_u113q) := (Sum.elim (fun v => st_u113q_0 G_u116q v.1 v.2.1 v.2.2.1 v.2.2.2.1 v.2.2.2.2.1 v.2.2.2.2.2) (fun v => st_u113q_1 G_u116q v.1 v.2.1 v.2.2.1 v.2.2.2.1 v.2.2.2.2.1 v.2.2.2.2.2.1 v.2.2.2.2.2.2))
noncomputable def l_u113q (G_u116q : GT_u116q) (v : TT_u113q) : Option (Nat × TT_u113q) := lock (iterO (fun v => (st_u113q G_u116q v).ev) v)
theorem l_u113q_eq (G_u116q : GT_u116q) (v : TT_u113q) : l_u113q G_u116q v = iterO (fun v => (st_u113q G_u116q v).ev) v := lock_eq _
noncomputable def ll_u113q (G_u116q : GT_u116q) : LEnt := LE (τ := TT_u113q) (hD hs_u113q) (l_u113q G_u116q) (x_u113q G_u116q)
theorem t_u113q (G_u116q : GT_u116q) (hG : GH_u116q G_u116q) : Go.Eng.Told IP (loopAt F29 1).1 (loopAt F29 1).2 (ll_u113q G_u116q) := loop_LE (inferInstance : Inhabited TT_u113q) (hs := hs_u113q) (st := st_u113q G_u116q) (L := []) (TG_u116q_ok G_u116q hG) (LOk_of (l := []) (by kernel_rfl) trivial) (l_u113q_eq G_u116q) (fun v => match v with | (.inl v) => by kernel_rfl | (.inr v) => by kernel_rfl) (fun v => match v with | (.inl v) => by kernel_rfl | (.inr v) => by kernel_rfl)
noncomputable def tr_u116q (G_u116q : GT_u116q) (x0 : Int) (x1 : Int) (x2 : List UInt8) (x3 : List AV) (x4 : List AV) : DT B_u116q :=
 .br (x0 == 1)
  (.at ((1, 0)))
  (.br (x0 == 2)
   (.at ((2, 0)))
   (.br (x0 == 3)
    (.at ((3, 0)))
    (.br (x0 == 4)
     (.bi (pj 0 (l_u112q (x4, 0, x0, x1, x2, x3))) (fun y0 =>
      .at ((intOf (cellAt y0.fst y0.snd.fst 1), 0)))
      (.bi (pj 1 (l_u112q (x4, 0, x0, x1, x2, x3))) (fun y0 =>
       .at ((0, 3)))
       (.bi (pj 2 (l_u112q (x4, 0, x0, x1, x2, x3))) (fun y0 =>
        .at ((0, 4)))
        (.no))))
     (.bi (pj 0 (l_u113q G_u116q (Sum.inl (x4, 0, x0, x1, x2, x3)))) (fun y0 =>
      .at ((0, (gv
    (G_u116q (intOf (cellAt (sl y0).snd.snd.snd.snd.snd (sl y0).snd.fst 0)) (intOf (cellAt (sl y0).snd.snd.snd.snd.snd (sl y0).snd.fst 1))
      (strOf (cellAt (sl y0).snd.snd.snd.snd.snd (sl y0).snd.fst 2)) (viewOf (cellAt (sl y0).snd.snd.snd.snd.snd (sl y0).snd.fst 3)) (sl y0).fst)).snd)))
      (.bi (pj 1 (l_u113q G_u116q (Sum.inl (x4, 0, x0, x1, x2, x3)))) (fun y0 =>
       .bi (f_u82q (sl y0).snd.snd.fst []) (fun y1 =>
        .br (!y1.snd) (.at ((0, 3))) (.at ((y1.fst, 0))))
        (.no))
       (.bi (pj 2 (l_u113q G_u116q (Sum.inl (x4, 0, x0, x1, x2, x3)))) (fun y0 =>
        .at ((0, (gv
    (G_u116q (intOf (cellAt (sr y0).snd.snd.snd.snd.snd.fst (sr y0).snd.fst 0)) (intOf (cellAt (sr y0).snd.snd.snd.snd.snd.fst (sr y0).snd.fst 1))
      (strOf (cellAt (sr y0).snd.snd.snd.snd.snd.fst (sr y0).snd.fst 2)) (viewOf (cellAt (sr y0).snd.snd.snd.snd.snd.fst (sr y0).snd.fst 3)) (sr y0).fst)).snd)))
        (.bi (pj 3 (l_u113q G_u116q (Sum.inl (x4, 0, x0, x1, x2, x3)))) (fun y0 =>
         .bi (f_u82q (sr y0).snd.snd.fst (sr y0).snd.snd.snd.snd.snd.snd) (fun y1 =>
          .br (!y1.snd) (.at ((0, 3))) (.at ((y1.fst, 0))))
          (.no))
         (.no))))))))
noncomputable def N_u116q : Nat → GT_u116q
  | 0 => fun _ _ _ _ _ => none
  | n + 1 => fun x0 x1 x2 x3 x4 => (tr_u116q ((N_u116q n)) x0 x1 x2 x3 x4).ev
noncomputable def f_u116q (x0 : Int) (x1 : Int) (x2 : List UInt8) (x3 : List AV) (x4 : List AV) : Option B_u116q := limO fun n => (N_u116q n) x0 x1 x2 x3 x4
theorem N_u116q_ok : ∀ n, GH_u116q ((N_u116q n))
  | 0 => (fun v y h => nomatch h)
  | n + 1 => have hG := N_u116q_ok n
    fun_FH (F := F29) (L := [(1002900, ll_u112q), (1002901, ll_u113q ((N_u116q n)))]) (t := fun (v : Int × Int × List UInt8 × List AV × List AV) => tr_u116q ((N_u116q n)) v.1 v.2.1 v.2.2.1 v.2.2.2.1 v.2.2.2.2) (TG_u116q_ok ((N_u116q n)) hG) (LOk_of (l := [loopAt F29 0, loopAt F29 1]) (by kernel_rfl) ⟨sel_one (by kernel_rfl) t_u112q, sel_one (by kernel_rfl) (t_u113q ((N_u116q n)) hG), trivial⟩) (by kernel_rfl) (fun v => by kernel_rfl) (fun v => rfl)
theorem c_u116q : FH IP 29 p_u116q r_u116q (fun (v : Int × Int × List UInt8 × List AV × List AV) => (f_u116q v.1 v.2.1 v.2.2.1 v.2.2.2.1 v.2.2.2.2 : Option B_u116q)) := lim_FH (p := p_u116q) (rs := r_u116q) (s := fun n (v : Int × Int × List UInt8 × List AV × List AV) => (N_u116q n) v.1 v.2.1 v.2.2.1 v.2.2.2.1 v.2.2.2.2) fun n => (N_u116q_ok n)
noncomputable def T76 : Tab := (29, FE p_u116q r_u116q (fun (v : Int × Int × List UInt8 × List AV × List AV) => (f_u116q v.1 v.2.1 v.2.2.1 v.2.2.2.1 v.2.2.2.2 : Option B_u116q))) :: T75
theorem T76_ok : TabOk IP T76 := ⟨FE_ok c_u116q, T75_ok⟩
abbrev B_u115q : Type := Int × Int
def p_u115q : PArgs := ⟨[.agg [.int .i64, .int .i64, .str, .view 4], .view 2], []⟩
def r_u115q : List PRes := [⟨false, .tup [.int .i64, .int .i64], []⟩]
noncomputable def tr_u115q (x0 : Int) (x1 : Int) (x2 : List UInt8) (x3 : List AV) (x4 : List AV) : DT B_u115q :=
 .bi (f_u48q x0 x1 x2 x3) (fun y0 =>
  .br (y0 != 0)
   (.at ((0, y0)))
   (.bi (f_u116q x0 x1 x2 x3 x4) (fun y1 =>
    .at ((y1.fst, y1.snd)))
    (.no)))
  (.no)
noncomputable def f_u115q (x0 : Int) (x1 : Int) (x2 : List UInt8) (x3 : List AV) (x4 : List AV) : Option B_u115q := lock (tr_u115q x0 x1 x2 x3 x4).ev
theorem f_u115q_eq (x0 : Int) (x1 : Int) (x2 : List UInt8) (x3 : List AV) (x4 : List AV) : f_u115q x0 x1 x2 x3 x4 = (tr_u115q x0 x1 x2 x3 x4).ev := lock_eq _
theorem c_u115q : FH IP 15 p_u115q r_u115q (fun (v : Int × Int × List UInt8 × List AV × List AV) => (f_u115q v.1 v.2.1 v.2.2.1 v.2.2.2.1 v.2.2.2.2 : Option B_u115q)) := fun_FH (F := F15) (L := []) (t := fun (v : Int × Int × List UInt8 × List AV × List AV) => tr_u115q v.1 v.2.1 v.2.2.1 v.2.2.2.1 v.2.2.2.2) T76_ok (LOk_of (l := []) (by kernel_rfl) trivial) (by kernel_rfl) (fun v => by kernel_rfl) (fun v => f_u115q_eq v.1 v.2.1 v.2.2.1 v.2.2.2.1 v.2.2.2.2)
noncomputable def T77 : Tab := (15, FE p_u115q r_u115q (fun (v : Int × Int × List UInt8 × List AV × List AV) => (f_u115q v.1 v.2.1 v.2.2.1 v.2.2.2.1 v.2.2.2.2 : Option B_u115q))) :: T76
theorem T77_ok : TabOk IP T77 := ⟨FE_ok c_u115q, T76_ok⟩
abbrev B_u62q : Type := Int
def p_u62q : PArgs := ⟨[.agg [.int .i64, .int .i64, .str, .view 4], .view 2, .int .i64], []⟩
def r_u62q : List PRes := [⟨false, .int .i64, []⟩]
noncomputable def tr_u62q (x0 : Int) (x1 : Int) (x2 : List UInt8) (x3 : List AV) (x4 : List AV) (x5 : Int) : DT B_u62q :=
 .bi (f_u104q x0 x1 x2 x3 x4) (fun y0 =>
  .bi (br (y0.snd == 0) (some (y0.fst != x5)) (some false)) (fun y1 =>
   .br (y1) (.at (3)) (.at (y0.snd)))
   (.no))
  (.no)
noncomputable def f_u62q (x0 : Int) (x1 : Int) (x2 : List UInt8) (x3 : List AV) (x4 : List AV) (x5 : Int) : Option B_u62q := lock (tr_u62q x0 x1 x2 x3 x4 x5).ev
theorem f_u62q_eq (x0 : Int) (x1 : Int) (x2 : List UInt8) (x3 : List AV) (x4 : List AV) (x5 : Int) : f_u62q x0 x1 x2 x3 x4 x5 = (tr_u62q x0 x1 x2 x3 x4 x5).ev := lock_eq _
theorem c_u62q : FH IP 16 p_u62q r_u62q (fun (v : Int × Int × List UInt8 × List AV × List AV × Int) => (f_u62q v.1 v.2.1 v.2.2.1 v.2.2.2.1 v.2.2.2.2.1 v.2.2.2.2.2 : Option B_u62q)) := fun_FH (F := F16) (L := []) (t := fun (v : Int × Int × List UInt8 × List AV × List AV × Int) => tr_u62q v.1 v.2.1 v.2.2.1 v.2.2.2.1 v.2.2.2.2.1 v.2.2.2.2.2) T77_ok (LOk_of (l := []) (by kernel_rfl) trivial) (by kernel_rfl) (fun v => by kernel_rfl) (fun v => f_u62q_eq v.1 v.2.1 v.2.2.1 v.2.2.2.1 v.2.2.2.2.1 v.2.2.2.2.2)
noncomputable def T78 : Tab := (16, FE p_u62q r_u62q (fun (v : Int × Int × List UInt8 × List AV × List AV × Int) => (f_u62q v.1 v.2.1 v.2.2.1 v.2.2.2.1 v.2.2.2.2.1 v.2.2.2.2.2 : Option B_u62q))) :: T77
theorem T78_ok : TabOk IP T78 := ⟨FE_ok c_u62q, T77_ok⟩
abbrev B_u103q : Type := Int
def p_u103q : PArgs := ⟨[.agg [.int .i64, .int .i64, .str, .view 4], .view 2, .int .i64], []⟩
def r_u103q : List PRes := [⟨false, .int .i64, []⟩]
noncomputable def tr_u103q (x0 : Int) (x1 : Int) (x2 : List UInt8) (x3 : List AV) (x4 : List AV) (x5 : Int) : DT B_u103q :=
 .bi (f_u115q x0 x1 x2 x3 x4) (fun y0 =>
  .br (y0.snd != 0)
   (.at (y0.snd))
   (.br (y0.fst != x5) (.at (3)) (.at (0))))
  (.no)
noncomputable def f_u103q (x0 : Int) (x1 : Int) (x2 : List UInt8) (x3 : List AV) (x4 : List AV) (x5 : Int) : Option B_u103q := lock (tr_u103q x0 x1 x2 x3 x4 x5).ev
theorem f_u103q_eq (x0 : Int) (x1 : Int) (x2 : List UInt8) (x3 : List AV) (x4 : List AV) (x5 : Int) : f_u103q x0 x1 x2 x3 x4 x5 = (tr_u103q x0 x1 x2 x3 x4 x5).ev := lock_eq _
theorem c_u103q : FH IP 17 p_u103q r_u103q (fun (v : Int × Int × List UInt8 × List AV × List AV × Int) => (f_u103q v.1 v.2.1 v.2.2.1 v.2.2.2.1 v.2.2.2.2.1 v.2.2.2.2.2 : Option B_u103q)) := fun_FH (F := F17) (L := []) (t := fun (v : Int × Int × List UInt8 × List AV × List AV × Int) => tr_u103q v.1 v.2.1 v.2.2.1 v.2.2.2.1 v.2.2.2.2.1 v.2.2.2.2.2) T78_ok (LOk_of (l := []) (by kernel_rfl) trivial) (by kernel_rfl) (fun v => by kernel_rfl) (fun v => f_u103q_eq v.1 v.2.1 v.2.2.1 v.2.2.2.1 v.2.2.2.2.1 v.2.2.2.2.2)
noncomputable def T79 : Tab := (17, FE p_u103q r_u103q (fun (v : Int × Int × List UInt8 × List AV × List AV × Int) => (f_u103q v.1 v.2.1 v.2.2.1 v.2.2.2.1 v.2.2.2.2.1 v.2.2.2.2.2 : Option B_u103q))) :: T78
theorem T79_ok : TabOk IP T79 := ⟨FE_ok c_u103q, T78_ok⟩
abbrev B_u46q : Type := Bool
def p_u46q : PArgs := ⟨[.agg [.int .i64, .int .i64, .str, .view 4], .view 2, .int .i64], []⟩
def r_u46q : List PRes := [⟨false, .bool, []⟩]
noncomputable def tr_u46q (x0 : Int) (x1 : Int) (x2 : List UInt8) (x3 : List AV) (x4 : List AV) (x5 : Int) : DT B_u46q :=
 .bi (f_u99q x0 x1 x2 x3 200) (fun y0 =>
  .bi (br y0 (some true) (br (sm (f_u96q x4)) (some !gv (f_u96q x4)) none)) (fun y1 =>
   .br (y1)
    (.bi (f_u106q) (fun y2 =>
     .at (y2))
     (.no))
    (.bi (f_u104q x0 x1 x2 x3 x4) (fun y2 =>
     .bi (f_u115q x0 x1 x2 x3 x4) (fun y3 =>
      .br (y2.fst == y3.fst)
       (.br (y2.snd == y3.snd)
        (.bi (f_u62q x0 x1 x2 x3 x4 x5) (fun y4 =>
         .bi (f_u103q x0 x1 x2 x3 x4 x5) (fun y5 =>
          .br (y4 == y5)
           (.bi (f_u106q) (fun y6 =>
            .at (y6))
            (.no))
           (.at (false)))
          (.no))
         (.no))
        (.at (false)))
       (.at (false)))
      (.no))
     (.no)))
   (.no))
  (.no)
noncomputable def f_u46q (x0 : Int) (x1 : Int) (x2 : List UInt8) (x3 : List AV) (x4 : List AV) (x5 : Int) : Option B_u46q := lock (tr_u46q x0 x1 x2 x3 x4 x5).ev
theorem f_u46q_eq (x0 : Int) (x1 : Int) (x2 : List UInt8) (x3 : List AV) (x4 : List AV) (x5 : Int) : f_u46q x0 x1 x2 x3 x4 x5 = (tr_u46q x0 x1 x2 x3 x4 x5).ev := lock_eq _
theorem c_u46q : FH IP 6 p_u46q r_u46q (fun (v : Int × Int × List UInt8 × List AV × List AV × Int) => (f_u46q v.1 v.2.1 v.2.2.1 v.2.2.2.1 v.2.2.2.2.1 v.2.2.2.2.2 : Option B_u46q)) := fun_FH (F := F6) (L := []) (t := fun (v : Int × Int × List UInt8 × List AV × List AV × Int) => tr_u46q v.1 v.2.1 v.2.2.1 v.2.2.2.1 v.2.2.2.2.1 v.2.2.2.2.2) T79_ok (LOk_of (l := []) (by kernel_rfl) trivial) (by kernel_rfl) (fun v => by kernel_rfl) (fun v => f_u46q_eq v.1 v.2.1 v.2.2.1 v.2.2.2.1 v.2.2.2.2.1 v.2.2.2.2.2)
noncomputable def T80 : Tab := (6, FE p_u46q r_u46q (fun (v : Int × Int × List UInt8 × List AV × List AV × Int) => (f_u46q v.1 v.2.1 v.2.2.1 v.2.2.2.1 v.2.2.2.2.1 v.2.2.2.2.2 : Option B_u46q))) :: T79
theorem T80_ok : TabOk IP T80 := ⟨FE_ok c_u46q, T79_ok⟩
abbrev TT_u15q : Type := (List AV × Int × Int × Int × List UInt8 × List AV) ⊕ (List AV × Int × Int × Int × List UInt8 × List AV × List AV)
def hs_u15q : List PSt := [⟨[(1000400, .junk), (1, .view 2), (2, .ref 0 0 0), (5, .nils ⟨1, .any⟩), (6, .int .i64)], [(0, .box [.int .i64, .int .i64, .str, .view 4] false)], 1, 0⟩, ⟨[(1000400, .junk), (1, .view 2), (2, .ref 0 0 0), (5, .own 1 0), (6, .int .i64)], [(0, .box [.int .i64, .int .i64, .str, .view 4] false), (1, .arr 1 false)], 2, 0⟩]
noncomputable def x_u15q_0 (x0 : List AV) (x1 : Int) (x2 : Int) (x3 : Int) (x4 : List UInt8) (x5 : List AV) : X × St := (X.ret,
  {
    tm :=
      [(1, AV.view 2 x0), (2, AV.ref 0 0 0),
        (4,
          AV.bool
            (gv
              (br
                (gv
                  (br ((gv (f_u104q x2 x3 x4 x5 x0)).fst == 0)
                    (some
                      ((gv (f_u104q x2 x3 x4 x5 x0)).snd ==
                        (gv (f_u104q (intOf (cellAt x5 x1 0)) (intOf (cellAt x5 x1 1)) (strOf (cellAt x5 x1 2)) (viewOf (cellAt x5 x1 3)) x0)).snd))
                    (some false)))
                (br (sm f_u106q) (some (gv f_u106q)) none) (some false)))),
        (5, AV.nils { sz := 1, kd := NKd.any })],
    hp := [(0, Blk.box [AV.int IntKind.i64 x2, AV.int IntKind.i64 x3, AV.str x4, AV.view 4 x5] false)], nx := 1, k := 0 })
noncomputable def x_u15q_1 (x0 : List AV) (x1 : Int) (x2 : Int) (x3 : Int) (x4 : List UInt8) (x5 : List AV) : X × St := (X.exit 0,
  { tm := [(1, AV.view 2 x0), (2, AV.ref 0 0 0), (4, AV.junk), (5, AV.nils { sz := 1, kd := NKd.any })],
    hp := [(0, Blk.box [AV.int IntKind.i64 x2, AV.int IntKind.i64 x3, AV.str x4, AV.view 4 x5] false)], nx := 1, k := 0 })
noncomputable def x_u15q_2 (x0 : List AV) (x1 : Int) (x2 : Int) (x3 : Int) (x4 : List UInt8) (x5 : List AV) (x6 : List AV) : X × St := (X.ret,
  {
    tm :=
      [(1, AV.view 2 x0), (2, AV.ref 0 0 0),
        (4,
          AV.bool
            (gv
              (br
                (gv
                  (br ((gv (f_u104q x2 x3 x4 x5 x0)).fst == 0)
                    (some
                      ((gv (f_u104q x2 x3 x4 x5 x0)).snd ==
                        (gv (f_u104q (intOf (cellAt x5 x1 0)) (intOf (cellAt x5 x1 1)) (strOf (cellAt x5 x1 2)) (viewOf (cellAt x5 x1 3)) x0)).snd))
                    (some false)))
                (br (sm f_u106q) (some (gv f_u106q)) none) (some false)))),
        (5, AV.own 1 0 none)],
    hp := [(0, Blk.box [AV.int IntKind.i64 x2, AV.int IntKind.i64 x3, AV.str x4, AV.view 4 x5] false), (1, Blk.arr 1 x6 false)], nx := 2, k := 0 })
noncomputable def x_u15q_3 (x0 : List AV) (x1 : Int) (x2 : Int) (x3 : Int) (x4 : List UInt8) (x5 : List AV) (x6 : List AV) : X × St := (X.exit 0,
  { tm := [(1, AV.view 2 x0), (2, AV.ref 0 0 0), (4, AV.junk), (5, AV.own 1 0 none)],
    hp := [(0, Blk.box [AV.int IntKind.i64 x2, AV.int IntKind.i64 x3, AV.str x4, AV.view 4 x5] false), (1, Blk.arr 1 x6 false)], nx := 2, k := 0 })
noncomputable def x_u15q : List (TT_u15q → X × St) := [fun w => x_u15q_0 (sl w).1 (sl w).2.1 (sl w).2.2.1 (sl w).2.2.2.1 (sl w).2.2.2.2.1 (sl w).2.2.2.2.2, fun w => x_u15q_1 (sl w).1 (sl w).2.1 (sl w).2.2.1 (sl w).2.2.2.1 (sl w).2.2.2.2.1 (sl w).2.2.2.2.2, fun w => x_u15q_2 (sr w).1 (sr w).2.1 (sr w).2.2.1 (sr w).2.2.2.1 (sr w).2.2.2.2.1 (sr w).2.2.2.2.2.1 (sr w).2.2.2.2.2.2, fun w => x_u15q_3 (sr w).1 (sr w).2.1 (sr w).2.2.1 (sr w).2.2.2.1 (sr w).2.2.2.2.1 (sr w).2.2.2.2.2.1 (sr w).2.2.2.2.2.2]
noncomputable def st_u15q_0 (x0 : List AV) (x1 : Int) (x2 : Int) (x3 : Int) (x4 : List UInt8) (x5 : List AV) : DT (Rd TT_u15q) :=
 .br (decide (x1 < (↑x5.length : Int)))
  (.br (okAt [CS.int IntKind.i64, CS.int IntKind.i64, CS.str, CS.slice 4] x5 x1)
   (.bi (f_u104q (intOf (cellAt x5 x1 0)) (intOf (cellAt x5 x1 1)) (strOf (cellAt x5 x1 2)) (viewOf (cellAt x5 x1 3)) x0) (fun y0 =>
    .br (y0.snd != 0)
     (.bi (f_u104q x2 x3 x4 x5 x0) (fun y1 =>
      .bi (br (y1.fst == 0) (some (y1.snd == y0.snd)) (some false)) (fun y2 =>
       .bi (br y2 (br (sm f_u106q) (some (gv f_u106q)) none) (some false)) (fun y3 =>
        .at (.done 0))
        (.no))
       (.no))
      (.no))
     (.at (.next ((.inr (x0, IntKind.i64.wrap (x1 + 1), x2, x3, x4, x5, [AV.int IntKind.i64 y0.fst]))))))
    (.no))
   (.no))
  (.at (.done 1))
noncomputable def st_u15q_1 (x0 : List AV) (x1 : Int) (x2 : Int) (x3 : Int) (x4 : List UInt8) (x5 : List AV) (x6 : List AV) : DT (Rd TT_u15q) :=
 .br (decide (x1 < (↑x5.length : Int)))
  (.br (okAt [CS.int IntKind.i64, CS.int IntKind.i64, CS.str, CS.slice 4] x5 x1)
   (.bi (f_u104q (intOf (cellAt x5 x1 0)) (intOf (cellAt x5 x1 1)) (strOf (cellAt x5 x1 2)) (viewOf (cellAt x5 x1 3)) x0) (fun y0 =>
    .br (y0.snd != 0)
     (.bi (f_u104q x2 x3 x4 x5 x0) (fun y1 =>
      .bi (br (y1.fst == 0) (some (y1.snd == y0.snd)) (some false)) (fun y2 =>
       .bi (br y2 (br (sm f_u106q) (some (gv f_u106q)) none) (some false)) (fun y3 =>
        .at (.done 2))
        (.no))
       (.no))
      (.no))
     (.br (room (x6.length + 1) 8) (.at (.next ((.inr (x0, IntKind.i64.wrap (x1 + 1), x2, x3, x4, x5, x6 ++ [AV.int IntKind.i64 y0.fst]))))) (.no)))
    (.no))
   (.no))
  (.at (.done 3))
noncomputable def st_u15q : TT_u15q → DT (Rd TT_u15q) := (Sum.elim (fun v => st_u15q_0 v.1 v.2.1 v.2.2.1 v.2.2.2.1 v.2.2.2.2.1 v.2.2.2.2.2) (fun v => st_u15q_1 v.1 v.2.1 v.2.2.1 v.2.2.2.1 v.2.2.2.2.1 v.2.2.2.2.2.1 v.2.2.2.2.2.2))
noncomputable def l_u15q (v : TT_u15q) : Option (Nat × TT_u15q) := lock (iterO (fun v => (st_u15q v).ev) v)
theorem l_u15q_eq (v : TT_u15q) : l_u15q v = iterO (fun v => (st_u15q v).ev) v := lock_eq _
noncomputable def ll_u15q : LEnt := LE (τ := TT_u15q) (hD hs_u15q) (l_u15q) x_u15q
theorem t_u15q : Go.Eng.Told IP (loopAt F4 0).1 (loopAt F4 0).2 (ll_u15q) := loop_LE (inferInstance : Inhabited TT_u15q) (hs := hs_u15q) (st := st_u15q) (L := []) T80_ok (LOk_of (l := []) (by kernel_rfl) trivial) (l_u15q_eq) (fun v => match v with | (.inl v) => by kernel_rfl | (.inr v) => by kernel_rfl) (fun v => match v with | (.inl v) => by kernel_rfl | (.inr v) => by kernel_rfl)
end Go.Proofs.H11

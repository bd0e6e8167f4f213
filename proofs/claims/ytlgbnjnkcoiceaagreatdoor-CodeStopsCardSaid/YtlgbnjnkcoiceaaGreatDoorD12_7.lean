/- Functions over plain data. Printed by a program of mine. -/
import Derived.Test.YtlgbnjnkcoiceaaGreatDoorD12_6
import Derived.KernelRfl
set_option linter.unusedVariables false
set_option linter.unusedSimpArgs false
set_option linter.unnecessarySimpa false
namespace Go.Proofs.H12
open Go Go.Eng
set_option maxRecDepth 100000
noncomputable section
abbrev TT_u106q : Type := List AV × List UInt8 × Int
def hs_u106q : List PSt := [⟨[(1005100, .junk), (0, .view 2), (1, .str), (5, .int .i64)], [], 0, 0⟩]
def x_u106q_0 (x0 : List AV) (x1 : List UInt8) (x2 : Int) : X × St := (X.ret, { tm := [(4, AV.int IntKind.i64 x2)], hp := [], nx := 0, k := 0 })
def x_u106q_1 (x0 : List AV) (x1 : List UInt8) (x2 : Int) : X × St := (X.exit 0, { tm := [(4, AV.junk)], hp := [], nx := 0, k := 0 })
def x_u106q : List (TT_u106q → X × St) := [(k3 x_u106q_0), (k3 x_u106q_1)]
def st_u106q_0 (x0 : List AV) (x1 : List UInt8) (x2 : Int) : DT (Rd TT_u106q) :=
 .br (decide (x2 < (↑x0.length : Int)))
  (.br (okAt [CS.str, CS.int IntKind.i64] x0 x2)
   (.br (strOf (cellAt x0 x2 0) == x1) (.at (.done 0)) (.at (.next ((x0, x1, IntKind.i64.wrap (x2 + 1))))))
   (.no))
  (.at (.done 1))
def st_u106q : TT_u106q → DT (Rd TT_u106q) := (fun v => st_u106q_0 v.1 v.2.1 v.2.2)
def l_u106q (v : TT_u106q) : Option (Nat × TT_u106q) := lock (iterO (fun v => (st_u106q v).ev) v)
theorem l_u106q_eq (v : TT_u106q) : l_u106q v = iterO (fun v => (st_u106q v).ev) v := lock_eq _
def ll_u106q : LEnt := LE (τ := TT_u106q) (hD hs_u106q) (l_u106q) x_u106q
theorem t_u106q : Go.Eng.Told IP (loopAt F51 0).1 (loopAt F51 0).2 (ll_u106q) := loop_LE (inferInstance : Inhabited TT_u106q) (hs := hs_u106q) (st := st_u106q) (L := []) T102_ok (LOk_of (l := []) (by kernel_rfl) trivial) (l_u106q_eq) (fun v => by kernel_rfl) (fun v => by kernel_rfl)
abbrev B_u154q : Type := Int
def p_u154q : PArgs := ⟨[.view 2, .str], []⟩
def r_u154q : List PRes := [⟨false, .int .i64, []⟩]
def tr_u154q (x0 : List AV) (x1 : List UInt8) : DT B_u154q :=
 .bi (pj 0 (l_u106q (x0, x1, 0))) (fun y0 =>
  .at (y0.2.2))
  (.bi (pj 1 (l_u106q (x0, x1, 0))) (fun y0 =>
   .at (-1))
   (.no))
def f_u154q (x0 : List AV) (x1 : List UInt8) : Option B_u154q := lock (tr_u154q x0 x1).ev
theorem c_u154q : FH IP 51 p_u154q r_u154q (k2 f_u154q) := fun_FH (F := F51) (L := [(1005100, ll_u106q)]) (t := (k2 tr_u154q)) T102_ok (LOk_of (l := [loopAt F51 0]) (by kernel_rfl) ⟨sel_one (by kernel_rfl) t_u106q, trivial⟩) (by kernel_rfl) (fun v => by kernel_rfl) (fun _ => lock_eq _)
def T103 : Tab := (51, FE p_u154q r_u154q (k2 f_u154q)) :: T102
theorem T103_ok : TabOk IP T103 := ⟨FE_ok c_u154q, T102_ok⟩
abbrev B_u153q : Type := List AV
def p_u153q : PArgs := ⟨[.own 0 0, .agg [.int .i64, .int .i64, .str, .view 4], .view 2], [(0, .arr 3 false)]⟩
def r_u153q : List PRes := [⟨false, .own 1 0, [(1, .arr 3 false)]⟩]
abbrev GT_u153q : Type := Int → Int → (List UInt8) → (List AV) → (List AV) → (List AV) → Option B_u153q
def GH_u153q (G_u153q : GT_u153q) : Prop := FH IP 33 p_u153q r_u153q (k6 G_u153q)
def TG_u153q (G_u153q : GT_u153q) : Tab := (33, FE p_u153q r_u153q (k6 G_u153q)) :: T103
theorem TG_u153q_ok (G_u153q : GT_u153q) (hG : GH_u153q G_u153q) : TabOk IP (TG_u153q G_u153q) := ⟨FE_ok (hG), T103_ok⟩
abbrev TT_u105q : Type := (List AV × Int × List AV × Int × Int × List UInt8 × List AV) ⊕ (List AV × Int × List AV × Int × Int × List UInt8 × List AV)
def hs_u105q : List PSt := [⟨[(1003300, .junk), (0, .own 0 0), (2, .view 2), (4, .ref 1 0 0), (8, .int .i64)], [(0, .arr 3 false), (1, .box [.int .i64, .int .i64, .str, .view 4] false)], 2, 1⟩, ⟨[(1003300, .junk), (0, .own 1 0), (2, .view 2), (4, .ref 2 0 0), (8, .int .i64)], [(1, .arr 3 false), (2, .box [.int .i64, .int .i64, .str, .view 4] false)], 3, 1⟩]
def x_u105q_0 (x0 : List AV) (x1 : Int) (x2 : List AV) (x3 x4 : Int) (x5 : List UInt8) (x6 : List AV) : X × St := (X.exit 0,
  { tm := [(0, AV.own 0 0 none), (4, AV.ref 1 0 0)], hp := [(0, Blk.arr 3 x2 false), (1, Blk.box [AV.int IntKind.i64 x3, AV.int IntKind.i64 x4, AV.str x5, AV.view 4 x6] false)],
    nx := 2, k := 1 })
def x_u105q_1 (x0 : List AV) (x1 : Int) (x2 : List AV) (x3 x4 : Int) (x5 : List UInt8) (x6 : List AV) : X × St := (X.exit 0,
  { tm := [(0, AV.own 1 0 none), (4, AV.ref 2 0 0)], hp := [(1, Blk.arr 3 x2 false), (2, Blk.box [AV.int IntKind.i64 x3, AV.int IntKind.i64 x4, AV.str x5, AV.view 4 x6] false)],
    nx := 3, k := 1 })
def x_u105q : List (TT_u105q → X × St) := [fun w => (k7 x_u105q_0) ((sl w)), fun w => (k7 x_u105q_1) ((sr w))]
def st_u105q_0 (G_u153q : GT_u153q) (x0 : List AV) (x1 : Int) (x2 : List AV) (x3 x4 : Int) (x5 : List UInt8) (x6 : List AV) : DT (Rd TT_u105q) :=
 .br (decide (x1 < (↑x6.length : Int)))
  (.br (okAt [CS.int IntKind.i64, CS.int IntKind.i64, CS.str, CS.slice 4] x6 x1)
   (.bi (G_u153q (intOf (cellAt x6 x1 0)) (intOf (cellAt x6 x1 1)) (strOf (cellAt x6 x1 2)) (viewOf (cellAt x6 x1 3)) x0 x2) (fun y0 =>
    .at (.next ((.inr (x0, IntKind.i64.wrap (x1 + 1), y0, x3, x4, x5, x6)))))
    (.no))
   (.no))
  (.at (.done 0))
def st_u105q_1 (G_u153q : GT_u153q) (x0 : List AV) (x1 : Int) (x2 : List AV) (x3 x4 : Int) (x5 : List UInt8) (x6 : List AV) : DT (Rd TT_u105q) :=
 .br (decide (x1 < (↑x6.length : Int)))
  (.br (okAt [CS.int IntKind.i64, CS.int IntKind.i64, CS.str, CS.slice 4] x6 x1)
   (.bi (G_u153q (intOf (cellAt x6 x1 0)) (intOf (cellAt x6 x1 1)) (strOf (cellAt x6 x1 2)) (viewOf (cellAt x6 x1 3)) x0 x2) (fun y0 =>
    .at (.next ((.inr (x0, IntKind.i64.wrap (x1 + 1), y0, x3, x4, x5, x6)))))
    (.no))
   (.no))
  (.at (.done 1))
def st_u105q (G_u153q : GT_u153q) : TT_u105q → DT (Rd TT_u105q) := (Sum.elim (fun v => st_u105q_0 G_u153q v.1 v.2.1 v.2.2.1 v.2.2.2.1 v.2.2.2.2.1 v.2.2.2.2.2.1 v.2.2.2.2.2.2) (fun v => st_u105q_1 G_u153q v.1 v.2.1 v.2.2.1 v.2.2.2.1 v.2.2.2.2.1 v.2.2.2.2.2.1 v.2.2.2.2.2.2))
def l_u105q (G_u153q : GT_u153q) (v : TT_u105q) : Option (Nat × TT_u105q) := lock (iterO (fun v => (st_u105q G_u153q v).ev) v)
theorem l_u105q_eq (G_u153q : GT_u153q) (v : TT_u105q) : l_u105q G_u153q v = iterO (fun v => (st_u105q G_u153q v).ev) v := lock_eq _
def ll_u105q (G_u153q : GT_u153q) : LEnt := LE (τ := TT_u105q) (hD hs_u105q) (l_u105q G_u153q) x_u105q
theorem t_u105q (G_u153q : GT_u153q) (hG : GH_u153q G_u153q) : Go.Eng.Told IP (loopAt F33 0).1 (loopAt F33 0).2 (ll_u105q G_u153q) := loop_LE (inferInstance : Inhabited TT_u105q) (hs := hs_u105q) (st := st_u105q G_u153q) (L := []) (TG_u153q_ok G_u153q hG) (LOk_of (l := []) (by kernel_rfl) trivial) (l_u105q_eq G_u153q) (fun v => match v with | (.inl v) => by kernel_rfl | (.inr v) => by kernel_rfl) (fun v => match v with | (.inl v) => by kernel_rfl | (.inr v) => by kernel_rfl)
def tr_u153q (G_u153q : GT_u153q) (x0 x1 : Int) (x2 : List UInt8) (x3 x4 x5 : List AV) : DT B_u153q :=
 .bi (f_u78q x0) (fun y0 =>
  .br (y0 != 0)
   (.br (room (x5.length + 1) 24) (.at (x5 ++ [AV.agg [AV.int IntKind.i64 1, AV.int IntKind.i64 y0, AV.int IntKind.i64 x1]])) (.no))
   (.br (x0 == 4)
    (.bi (f_u154q x4 x2) (fun y1 =>
     .br (room (x5.length + 1) 24) (.at (x5 ++ [AV.agg [AV.int IntKind.i64 2, AV.int IntKind.i64 y1, AV.int IntKind.i64 0]])) (.no))
     (.no))
    (.br (x0 != 19)
     (.bi (pj 0 (l_u105q G_u153q (Sum.inl (x4, 0, x5, x0, x1, x2, x3)))) (fun y1 =>
      .br (room ((sl y1).2.2.1.length + 1) 24)
       (.at ((sl y1).2.2.1 ++ [AV.agg [AV.int IntKind.i64 3, AV.int IntKind.i64 (sl y1).2.2.2.1, AV.int IntKind.i64 0]]))
       (.no))
      (.bi (pj 1 (l_u105q G_u153q (Sum.inl (x4, 0, x5, x0, x1, x2, x3)))) (fun y1 =>
       .br (room ((sr y1).2.2.1.length + 1) 24)
        (.at ((sr y1).2.2.1 ++ [AV.agg [AV.int IntKind.i64 3, AV.int IntKind.i64 (sr y1).2.2.2.1, AV.int IntKind.i64 0]]))
        (.no))
       (.no)))
     (.br (okAt [CS.int IntKind.i64, CS.int IntKind.i64, CS.str, CS.slice 4] x3 0)
      (.bi (G_u153q (intOf (cellAt x3 0 0)) (intOf (cellAt x3 0 1)) (strOf (cellAt x3 0 2)) (viewOf (cellAt x3 0 3)) x4 x5) (fun y1 =>
       .br (room (y1.length + 1) 24)
        (.br (okAt [CS.int IntKind.i64, CS.int IntKind.i64, CS.str, CS.slice 4] x3 1)
         (.bi (G_u153q (intOf (cellAt x3 1 0)) (intOf (cellAt x3 1 1)) (strOf (cellAt x3 1 2)) (viewOf (cellAt x3 1 3)) x4
             (y1 ++ [AV.agg [AV.int IntKind.i64 5, AV.int IntKind.i64 0, AV.int IntKind.i64 0]])) (fun y2 =>
          .br (room (y2.length + 1) 24)
           (.br (inB (y2 ++ [AV.agg [AV.int IntKind.i64 4, AV.int IntKind.i64 0, AV.int IntKind.i64 0]]).length (↑y1.length : Int))
            (.br (okS (y2 ++ [AV.agg [AV.int IntKind.i64 4, AV.int IntKind.i64 0, AV.int IntKind.i64 0]]) (↑y1.length : Int).toNat 1 1)
             (.br (okAt [CS.int IntKind.i64, CS.int IntKind.i64, CS.str, CS.slice 4] x3 2)
              (.bi (G_u153q (intOf (cellAt x3 2 0)) (intOf (cellAt x3 2 1)) (strOf (cellAt x3 2 2)) (viewOf (cellAt x3 2 3)) x4
                  (setE (y2 ++ [AV.agg [AV.int IntKind.i64 4, AV.int IntKind.i64 0, AV.int IntKind.i64 0]]) (↑y1.length : Int).toNat 1
                    [AV.int IntKind.i64 (↑(y2 ++ [AV.agg [AV.int IntKind.i64 4, AV.int IntKind.i64 0, AV.int IntKind.i64 0]]).length : Int)])) (fun y3 =>
               .br (inB y3.length (↑y2.length : Int))
                (.br (okS y3 (↑y2.length : Int).toNat 1 1) (.at (setE y3 (↑y2.length : Int).toNat 1 [AV.int IntKind.i64 (↑y3.length : Int)])) (.no))
                (.no))
               (.no))
              (.no))
             (.no))
            (.no))
           (.no))
          (.no))
         (.no))
        (.no))
       (.no))
      (.no)))))
  (.no)
def N_u153q : Nat → GT_u153q
  | 0 => fun _ _ _ _ _ _ => none
  | n + 1 => fun x0 x1 x2 x3 x4 x5 => (tr_u153q ((N_u153q n)) x0 x1 x2 x3 x4 x5).ev
def f_u153q (x0 x1 : Int) (x2 : List UInt8) (x3 x4 x5 : List AV) : Option B_u153q := limO fun n => (N_u153q n) x0 x1 x2 x3 x4 x5
theorem N_u153q_ok : ∀ n, GH_u153q ((N_u153q n))
  | 0 => (fun v y h => nomatch h)
  | n + 1 => have hG := N_u153q_ok n
    fun_FH (F := F33) (L := [(1003300, ll_u105q ((N_u153q n)))]) (t := (k6 (tr_u153q ((N_u153q n))))) (TG_u153q_ok ((N_u153q n)) hG) (LOk_of (l := [loopAt F33 0]) (by kernel_rfl) ⟨sel_one (by kernel_rfl) (t_u105q ((N_u153q n)) hG), trivial⟩) (by kernel_rfl) (fun v => by kernel_rfl) (fun v => rfl)
theorem c_u153q : FH IP 33 p_u153q r_u153q (k6 f_u153q) := lim_FH (p := p_u153q) (rs := r_u153q) (s := fun n => (k6 ((N_u153q n)))) fun n => (N_u153q_ok n)
def T104 : Tab := (33, FE p_u153q r_u153q (k6 f_u153q)) :: T103
theorem T104_ok : TabOk IP T104 := ⟨FE_ok c_u153q, T103_ok⟩
abbrev B_u169q : Type := List AV
def p_u169q : PArgs := ⟨[.nils 3, .agg [.int .i64, .int .i64, .str, .view 4], .view 2], []⟩
def r_u169q : List PRes := [⟨false, .own 0 0, [(0, .arr 3 false)]⟩]
abbrev GT_u169q : Type := Int → Int → (List UInt8) → (List AV) → (List AV) → Option B_u169q
def GH_u169q (G_u169q : GT_u169q) : Prop := FH IP 33 p_u169q r_u169q (k5 G_u169q)
def TG_u169q (G_u169q : GT_u169q) : Tab := (33, FE p_u169q r_u169q (k5 G_u169q)) :: T104
theorem TG_u169q_ok (G_u169q : GT_u169q) (hG : GH_u169q G_u169q) : TabOk IP (TG_u169q G_u169q) := ⟨FE_ok (hG), T104_ok⟩
abbrev TT_u128q : Type := (List AV × Int × Int × Int × List UInt8 × List AV) ⊕ (List AV × Int × List AV × Int × Int × List UInt8 × List AV)
def hs_u128q : List PSt := [⟨[(1003300, .junk), (0, .nils 3), (2, .view 2), (4, .ref 0 0 0), (8, .int .i64)], [(0, .box [.int .i64, .int .i64, .str, .view 4] false)], 1, 0⟩, ⟨[(1003300, .junk), (0, .own 0 0), (2, .view 2), (4, .ref 1 0 0), (8, .int .i64)], [(0, .arr 3 false), (1, .box [.int .i64, .int .i64, .str, .view 4] false)], 2, 0⟩]
def x_u128q_0 (x0 : List AV) (x1 x2 x3 : Int) (x4 : List UInt8) (x5 : List AV) : X × St := (X.exit 0,
  { tm := [(0, AV.nils { sz := 3, kd := NKd.nil }), (4, AV.ref 0 0 0)], hp := [(0, Blk.box [AV.int IntKind.i64 x2, AV.int IntKind.i64 x3, AV.str x4, AV.view 4 x5] false)], nx := 1,
    k := 0 })
def x_u128q_1 (x0 : List AV) (x1 : Int) (x2 : List AV) (x3 x4 : Int) (x5 : List UInt8) (x6 : List AV) : X × St := (X.exit 0,
  { tm := [(0, AV.own 0 0 none), (4, AV.ref 1 0 0)], hp := [(0, Blk.arr 3 x2 false), (1, Blk.box [AV.int IntKind.i64 x3, AV.int IntKind.i64 x4, AV.str x5, AV.view 4 x6] false)],
    nx := 2, k := 0 })
def x_u128q : List (TT_u128q → X × St) := [fun w => (k6 x_u128q_0) ((sl w)), fun w => (k7 x_u128q_1) ((sr w))]
def st_u128q_0 (G_u169q : GT_u169q) (x0 : List AV) (x1 x2 x3 : Int) (x4 : List UInt8) (x5 : List AV) : DT (Rd TT_u128q) :=
 .br (decide (x1 < (↑x5.length : Int)))
  (.br (okAt [CS.int IntKind.i64, CS.int IntKind.i64, CS.str, CS.slice 4] x5 x1)
   (.bi (G_u169q (intOf (cellAt x5 x1 0)) (intOf (cellAt x5 x1 1)) (strOf (cellAt x5 x1 2)) (viewOf (cellAt x5 x1 3)) x0) (fun y0 =>
    .at (.next ((.inr (x0, IntKind.i64.wrap (x1 + 1), y0, x2, x3, x4, x5)))))
    (.no))
   (.no))
  (.at (.done 0))
def st_u128q_1 (G_u169q : GT_u169q) (x0 : List AV) (x1 : Int) (x2 : List AV) (x3 x4 : Int) (x5 : List UInt8) (x6 : List AV) : DT (Rd TT_u128q) :=
 .br (decide (x1 < (↑x6.length : Int)))
  (.br (okAt [CS.int IntKind.i64, CS.int IntKind.i64, CS.str, CS.slice 4] x6 x1)
   (.bi (f_u153q (intOf (cellAt x6 x1 0)) (intOf (cellAt x6 x1 1)) (strOf (cellAt x6 x1 2)) (viewOf (cellAt x6 x1 3)) x0 x2) (fun y0 =>
    .at (.next ((.inr (x0, IntKind.i64.wrap (x1 + 1), y0, x3, x4, x5, x6)))))
    (.no))
   (.no))
  (.at (.done 1))
def st_u128q (G_u169q : GT_u169q) : TT_u128q → DT (Rd TT_u128q) := (Sum.elim (fun v => st_u128q_0 G_u169q v.1 v.2.1 v.2.2.1 v.2.2.2.1 v.2.2.2.2.1 v.2.2.2.2.2) (fun v => st_u128q_1 G_u169q v.1 v.2.1 v.2.2.1 v.2.2.2.1 v.2.2.2.2.1 v.2.2.2.2.2.1 v.2.2.2.2.2.2))
def l_u128q (G_u169q : GT_u169q) (v : TT_u128q) : Option (Nat × TT_u128q) := lock (iterO (fun v => (st_u128q G_u169q v).ev) v)
theorem l_u128q_eq (G_u169q : GT_u169q) (v : TT_u128q) : l_u128q G_u169q v = iterO (fun v => (st_u128q G_u169q v).ev) v := lock_eq _
def ll_u128q (G_u169q : GT_u169q) : LEnt := LE (τ := TT_u128q) (hD hs_u128q) (l_u128q G_u169q) x_u128q
theorem t_u128q (G_u169q : GT_u169q) (hG : GH_u169q G_u169q) : Go.Eng.Told IP (loopAt F33 0).1 (loopAt F33 0).2 (ll_u128q G_u169q) := loop_LE (inferInstance : Inhabited TT_u128q) (hs := hs_u128q) (st := st_u128q G_u169q) (L := []) (TG_u169q_ok G_u169q hG) (LOk_of (l := []) (by kernel_rfl) trivial) (l_u128q_eq G_u169q) (fun v => match v with | (.inl v) => by kernel_rfl | (.inr v) => by kernel_rfl) (fun v => match v with | (.inl v) => by kernel_rfl | (.inr v) => by kernel_rfl)
def tr_u169q (G_u169q : GT_u169q) (x0 x1 : Int) (x2 : List UInt8) (x3 x4 : List AV) : DT B_u169q :=
 .bi (f_u78q x0) (fun y0 =>
  .br (y0 != 0)
   (.at ([AV.agg [AV.int IntKind.i64 1, AV.int IntKind.i64 y0, AV.int IntKind.i64 x1]]))
   (.br (x0 == 4)
    (.bi (f_u154q x4 x2) (fun y1 =>
     .at ([AV.agg [AV.int IntKind.i64 2, AV.int IntKind.i64 y1, AV.int IntKind.i64 0]]))
     (.no))
    (.br (x0 != 19)
     (.bi (pj 0 (l_u128q G_u169q (Sum.inl (x4, 0, x0, x1, x2, x3)))) (fun y1 =>
      .at ([AV.agg [AV.int IntKind.i64 3, AV.int IntKind.i64 (sl y1).2.2.1, AV.int IntKind.i64 0]]))
      (.bi (pj 1 (l_u128q G_u169q (Sum.inl (x4, 0, x0, x1, x2, x3)))) (fun y1 =>
       .br (room ((sr y1).2.2.1.length + 1) 24)
        (.at ((sr y1).2.2.1 ++ [AV.agg [AV.int IntKind.i64 3, AV.int IntKind.i64 (sr y1).2.2.2.1, AV.int IntKind.i64 0]]))
        (.no))
       (.no)))
     (.br (okAt [CS.int IntKind.i64, CS.int IntKind.i64, CS.str, CS.slice 4] x3 0)
      (.bi (G_u169q (intOf (cellAt x3 0 0)) (intOf (cellAt x3 0 1)) (strOf (cellAt x3 0 2)) (viewOf (cellAt x3 0 3)) x4) (fun y1 =>
       .br (room (y1.length + 1) 24)
        (.br (okAt [CS.int IntKind.i64, CS.int IntKind.i64, CS.str, CS.slice 4] x3 1)
         (.bi (f_u153q (intOf (cellAt x3 1 0)) (intOf (cellAt x3 1 1)) (strOf (cellAt x3 1 2)) (viewOf (cellAt x3 1 3)) x4
             (y1 ++ [AV.agg [AV.int IntKind.i64 5, AV.int IntKind.i64 0, AV.int IntKind.i64 0]])) (fun y2 =>
          .br (room (y2.length + 1) 24)
           (.br (inB (y2 ++ [AV.agg [AV.int IntKind.i64 4, AV.int IntKind.i64 0, AV.int IntKind.i64 0]]).length (↑y1.length : Int))
            (.br (okS (y2 ++ [AV.agg [AV.int IntKind.i64 4, AV.int IntKind.i64 0, AV.int IntKind.i64 0]]) (↑y1.length : Int).toNat 1 1)
             (.br (okAt [CS.int IntKind.i64, CS.int IntKind.i64, CS.str, CS.slice 4] x3 2)
              (.bi (f_u153q (intOf (cellAt x3 2 0)) (intOf (cellAt x3 2 1)) (strOf (cellAt x3 2 2)) (viewOf (cellAt x3 2 3)) x4
                  (setE (y2 ++ [AV.agg [AV.int IntKind.i64 4, AV.int IntKind.i64 0, AV.int IntKind.i64 0]]) (↑y1.length : Int).toNat 1
                    [AV.int IntKind.i64 (↑(y2 ++ [AV.agg [AV.int IntKind.i64 4, AV.int IntKind.i64 0, AV.int IntKind.i64 0]]).length : Int)])) (fun y3 =>
               .br (inB y3.length (↑y2.length : Int))
                (.br (okS y3 (↑y2.length : Int).toNat 1 1) (.at (setE y3 (↑y2.length : Int).toNat 1 [AV.int IntKind.i64 (↑y3.length : Int)])) (.no))
                (.no))
               (.no))
              (.no))
             (.no))
            (.no))
           (.no))
          (.no))
         (.no))
        (.no))
       (.no))
      (.no)))))
  (.no)
def N_u169q : Nat → GT_u169q
  | 0 => fun _ _ _ _ _ => none
  | n + 1 => fun x0 x1 x2 x3 x4 => (tr_u169q ((N_u169q n)) x0 x1 x2 x3 x4).ev
def f_u169q (x0 x1 : Int) (x2 : List UInt8) (x3 x4 : List AV) : Option B_u169q := limO fun n => (N_u169q n) x0 x1 x2 x3 x4
theorem N_u169q_ok : ∀ n, GH_u169q ((N_u169q n))
  | 0 => (fun v y h => nomatch h)
  | n + 1 => have hG := N_u169q_ok n
    fun_FH (F := F33) (L := [(1003300, ll_u128q ((N_u169q n)))]) (t := (k5 (tr_u169q ((N_u169q n))))) (TG_u169q_ok ((N_u169q n)) hG) (LOk_of (l := [loopAt F33 0]) (by kernel_rfl) ⟨sel_one (by kernel_rfl) (t_u128q ((N_u169q n)) hG), trivial⟩) (by kernel_rfl) (fun v => by kernel_rfl) (fun v => rfl)
theorem c_u169q : FH IP 33 p_u169q r_u169q (k5 f_u169q) := lim_FH (p := p_u169q) (rs := r_u169q) (s := fun n => (k5 ((N_u169q n)))) fun n => (N_u169q_ok n)
def T105 : Tab := (33, FE p_u169q r_u169q (k5 f_u169q)) :: T104
theorem T105_ok : TabOk IP T105 := ⟨FE_ok c_u169q, T104_ok⟩
abbrev B_u103q : Type := Int × List AV × List AV × Int
def p_u103q : PArgs := ⟨[.agg [.int .i64, .int .i64, .str, .view 4], .view 2], []⟩
def r_u103q : List PRes := [⟨false, .tup [.agg [.int .i64, .view 2, .view 3], .int .i64], []⟩]
def tr_u103q (x0 x1 : Int) (x2 : List UInt8) (x3 x4 : List AV) : DT B_u103q :=
 .bi (f_u165q x4) (fun y0 =>
  .br (y0 != 0)
   (.at ((0, [], [], y0)))
   (.bi (f_u175q x0 x1 x2 x3 x4) (fun y1 =>
    .br (y1.2 != 0)
     (.at ((0, [], [], y1.2)))
     (.br (decide (x4.length = 0) && decide (2 = 2))
      (.bi (f_u169q x0 x1 x2 x3 x4) (fun y2 =>
       .at ((y1.1, [], y2, 0)))
       (.no))
      (.br (decide (x4.length ≠ 0) && room x4.length 24)
       (.bi (f_u169q x0 x1 x2 x3 x4) (fun y2 =>
        .at ((y1.1, x4, y2, 0)))
        (.no))
       (.no))))
    (.no)))
  (.no)
def f_u103q (x0 x1 : Int) (x2 : List UInt8) (x3 x4 : List AV) : Option B_u103q := lock (tr_u103q x0 x1 x2 x3 x4).ev
theorem c_u103q : FH IP 13 p_u103q r_u103q (k5 f_u103q) := fun_FH (F := F13) (L := []) (t := (k5 tr_u103q)) T105_ok (LOk_of (l := []) (by kernel_rfl) trivial) (by kernel_rfl) (fun v => by kernel_rfl) (fun _ => lock_eq _)
def T106 : Tab := (13, FE p_u103q r_u103q (k5 f_u103q)) :: T105
theorem T106_ok : TabOk IP T106 := ⟨FE_ok c_u103q, T105_ok⟩
abbrev TT_u126q : Type := Int × Int × List AV × List AV × Int × List AV × List AV
def hs_u126q : List PSt := [⟨[(1001400, .junk), (2, .ref 0 0 0), (3, .ref 1 0 0), (5, .int .i64)], [(0, .box [.int .i64, .view 2, .view 3] false), (1, .box [.int .i64, .view 2, .view 3] false)], 2, 0⟩]
def x_u126q_0 (x0 x1 : Int) (x2 x3 : List AV) (x4 : Int) (x5 x6 : List AV) : X × St := (X.ret,
  { tm := [(2, AV.ref 0 0 0), (3, AV.ref 1 0 0), (4, AV.bool false)],
    hp := [(0, Blk.box [AV.int IntKind.i64 x1, AV.view 2 x2, AV.view 3 x3] false), (1, Blk.box [AV.int IntKind.i64 x4, AV.view 2 x5, AV.view 3 x6] false)], nx := 2, k := 0 })
def x_u126q_1 (x0 x1 : Int) (x2 x3 : List AV) (x4 : Int) (x5 x6 : List AV) : X × St := (X.exit 0,
  { tm := [(2, AV.ref 0 0 0), (3, AV.ref 1 0 0), (4, AV.junk)],
    hp := [(0, Blk.box [AV.int IntKind.i64 x1, AV.view 2 x2, AV.view 3 x3] false), (1, Blk.box [AV.int IntKind.i64 x4, AV.view 2 x5, AV.view 3 x6] false)], nx := 2, k := 0 })
def x_u126q : List (TT_u126q → X × St) := [(k7 x_u126q_0), (k7 x_u126q_1)]
def st_u126q_0 (x0 x1 : Int) (x2 x3 : List AV) (x4 : Int) (x5 x6 : List AV) : DT (Rd TT_u126q) :=
 .br (decide (x0 < (↑x2.length : Int)))
  (.br (okAt [CS.str, CS.int IntKind.i64] x2 x0)
   (.br (okAt [CS.str, CS.int IntKind.i64] x5 x0)
    (.br (if true = true then !(strOf (cellAt x2 x0 0) == strOf (cellAt x5 x0 0) && (intOf (cellAt x2 x0 1) == intOf (cellAt x5 x0 1) && true))
      else strOf (cellAt x2 x0 0) == strOf (cellAt x5 x0 0) && (intOf (cellAt x2 x0 1) == intOf (cellAt x5 x0 1) && true))
     (.at (.done 0))
     (.at (.next ((IntKind.i64.wrap (x0 + 1), x1, x2, x3, x4, x5, x6)))))
    (.no))
   (.no))
  (.at (.done 1))
def st_u126q : TT_u126q → DT (Rd TT_u126q) := (fun v => st_u126q_0 v.1 v.2.1 v.2.2.1 v.2.2.2.1 v.2.2.2.2.1 v.2.2.2.2.2.1 v.2.2.2.2.2.2)
def l_u126q (v : TT_u126q) : Option (Nat × TT_u126q) := lock (iterO (fun v => (st_u126q v).ev) v)
theorem l_u126q_eq (v : TT_u126q) : l_u126q v = iterO (fun v => (st_u126q v).ev) v := lock_eq _
def ll_u126q : LEnt := LE (τ := TT_u126q) (hD hs_u126q) (l_u126q) x_u126q
theorem t_u126q : Go.Eng.Told IP (loopAt F14 0).1 (loopAt F14 0).2 (ll_u126q) := loop_LE (inferInstance : Inhabited TT_u126q) (hs := hs_u126q) (st := st_u126q) (L := []) T106_ok (LOk_of (l := []) (by kernel_rfl) trivial) (l_u126q_eq) (fun v => by kernel_rfl) (fun v => by kernel_rfl)
abbrev TT_u127q : Type := Int × Int × List AV × List AV × Int × List AV × List AV
def hs_u127q : List PSt := [⟨[(1001401, .junk), (2, .ref 0 0 0), (3, .ref 1 0 0), (6, .int .i64)], [(0, .box [.int .i64, .view 2, .view 3] false), (1, .box [.int .i64, .view 2, .view 3] false)], 2, 0⟩]
def x_u127q_0 (x0 x1 : Int) (x2 x3 : List AV) (x4 : Int) (x5 x6 : List AV) : X × St := (X.ret, { tm := [(4, AV.bool false)], hp := [], nx := 0, k := 0 })
def x_u127q_1 (x0 x1 : Int) (x2 x3 : List AV) (x4 : Int) (x5 x6 : List AV) : X × St := (X.exit 2, { tm := [(4, AV.junk)], hp := [], nx := 0, k := 0 })
def x_u127q : List (TT_u127q → X × St) := [(k7 x_u127q_0), (k7 x_u127q_1)]
def st_u127q_0 (x0 x1 : Int) (x2 x3 : List AV) (x4 : Int) (x5 x6 : List AV) : DT (Rd TT_u127q) :=
 .br (decide (x0 < (↑x3.length : Int)))
  (.br (okAt [CS.int IntKind.i64, CS.int IntKind.i64, CS.int IntKind.i64] x3 x0)
   (.br (okAt [CS.int IntKind.i64, CS.int IntKind.i64, CS.int IntKind.i64] x6 x0)
    (.br (if true = true then
        !(intOf (cellAt x3 x0 0) == intOf (cellAt x6 x0 0) && (intOf (cellAt x3 x0 1) == intOf (cellAt x6 x0 1) && (intOf (cellAt x3 x0 2) == intOf (cellAt x6 x0 2) && true)))
      else intOf (cellAt x3 x0 0) == intOf (cellAt x6 x0 0) && (intOf (cellAt x3 x0 1) == intOf (cellAt x6 x0 1) && (intOf (cellAt x3 x0 2) == intOf (cellAt x6 x0 2) && true)))
     (.at (.done 0))
     (.at (.next ((IntKind.i64.wrap (x0 + 1), x1, x2, x3, x4, x5, x6)))))
    (.no))
   (.no))
  (.at (.done 1))
def st_u127q : TT_u127q → DT (Rd TT_u127q) := (fun v => st_u127q_0 v.1 v.2.1 v.2.2.1 v.2.2.2.1 v.2.2.2.2.1 v.2.2.2.2.2.1 v.2.2.2.2.2.2)
def l_u127q (v : TT_u127q) : Option (Nat × TT_u127q) := lock (iterO (fun v => (st_u127q v).ev) v)
theorem l_u127q_eq (v : TT_u127q) : l_u127q v = iterO (fun v => (st_u127q v).ev) v := lock_eq _
def ll_u127q : LEnt := LE (τ := TT_u127q) (hD hs_u127q) (l_u127q) x_u127q
theorem t_u127q : Go.Eng.Told IP (loopAt F14 1).1 (loopAt F14 1).2 (ll_u127q) := loop_LE (inferInstance : Inhabited TT_u127q) (hs := hs_u127q) (st := st_u127q) (L := []) T106_ok (LOk_of (l := []) (by kernel_rfl) trivial) (l_u127q_eq) (fun v => by kernel_rfl) (fun v => by kernel_rfl)
abbrev B_u168q : Type := Bool
def p_u168q : PArgs := ⟨[.agg [.int .i64, .view 2, .view 3], .agg [.int .i64, .view 2, .view 3]], []⟩
def r_u168q : List PRes := [⟨false, .bool, []⟩]
def tr_u168q (x0 : Int) (x1 x2 : List AV) (x3 : Int) (x4 x5 : List AV) : DT B_u168q :=
 .bi (br (x0 != x3) (some true) (some ((↑x1.length : Int) != (↑x4.length : Int)))) (fun y0 =>
  .bi (br y0 (some true) (some ((↑x2.length : Int) != (↑x5.length : Int)))) (fun y1 =>
   .br (y1)
    (.at (false))
    (.bi (pj 0 (l_u126q (0, x0, x1, x2, x3, x4, x5))) (fun y2 =>
     .at (false))
     (.bi (pj 1 (l_u126q (0, x0, x1, x2, x3, x4, x5))) (fun y2 =>
      .bi (pj 0 (l_u127q (0, y2.2.1, y2.2.2.1, y2.2.2.2.1, y2.2.2.2.2.1, y2.2.2.2.2.2.1, y2.2.2.2.2.2.2))) (fun y3 =>
       .at (false))
       (.bi (pj 1 (l_u127q (0, y2.2.1, y2.2.2.1, y2.2.2.2.1, y2.2.2.2.2.1, y2.2.2.2.2.2.1, y2.2.2.2.2.2.2))) (fun y3 =>
        .at (true))
        (.no)))
      (.no))))
   (.no))
  (.no)
def f_u168q (x0 : Int) (x1 x2 : List AV) (x3 : Int) (x4 x5 : List AV) : Option B_u168q := lock (tr_u168q x0 x1 x2 x3 x4 x5).ev
theorem c_u168q : FH IP 14 p_u168q r_u168q (k6 f_u168q) := fun_FH (F := F14) (L := [(1001400, ll_u126q), (1001401, ll_u127q)]) (t := (k6 tr_u168q)) T106_ok (LOk_of (l := [loopAt F14 0, loopAt F14 1]) (by kernel_rfl) ⟨sel_one (by kernel_rfl) t_u126q, sel_one (by kernel_rfl) t_u127q, trivial⟩) (by kernel_rfl) (fun v => by kernel_rfl) (fun _ => lock_eq _)
def T107 : Tab := (14, FE p_u168q r_u168q (k6 f_u168q)) :: T106
theorem T107_ok : TabOk IP T107 := ⟨FE_ok c_u168q, T106_ok⟩
abbrev B_u36q : Type := Bool
def p_u36q : PArgs := ⟨[.agg [.int .i64, .int .i64, .str, .view 4], .view 2], []⟩
def r_u36q : List PRes := [⟨false, .bool, []⟩]
def tr_u36q (x0 x1 : Int) (x2 : List UInt8) (x3 x4 : List AV) : DT B_u36q :=
 .bi (f_u142q x0 x1 x2 x3) (fun y0 =>
  .bi (br (!y0) (some true) (some (decide ((↑x4.length : Int) > 100)))) (fun y1 =>
   .br (y1)
    (.bi (f_u141q) (fun y2 =>
     .at (y2))
     (.no))
    (.bi (f_u80q x0 x1 x2 x3 x4) (fun y2 =>
     .bi (f_u103q x0 x1 x2 x3 x4) (fun y3 =>
      .bi (f_u168q y2.1 y2.2.1 y2.2.2.1 y3.1 y3.2.1 y3.2.2.1) (fun y4 =>
       .bi (br y4 (some (y2.2.2.2 == y3.2.2.2)) (some false)) (fun y5 =>
        .bi (br y5 (br (sm f_u141q) (some (gv f_u141q)) none) (some false)) (fun y6 =>
         .at (y6))
         (.no))
        (.no))
       (.no))
      (.no))
     (.no)))
   (.no))
  (.no)
def f_u36q (x0 x1 : Int) (x2 : List UInt8) (x3 x4 : List AV) : Option B_u36q := lock (tr_u36q x0 x1 x2 x3 x4).ev
theorem c_u36q : FH IP 3 p_u36q r_u36q (k5 f_u36q) := fun_FH (F := F3) (L := []) (t := (k5 tr_u36q)) T107_ok (LOk_of (l := []) (by kernel_rfl) trivial) (by kernel_rfl) (fun v => by kernel_rfl) (fun _ => lock_eq _)
def T108 : Tab := (3, FE p_u36q r_u36q (k5 f_u36q)) :: T107
theorem T108_ok : TabOk IP T108 := ⟨FE_ok c_u36q, T107_ok⟩
abbrev B_u172q : Type := Bool
def p_u172q : PArgs := ⟨[.agg [.int .i64, .view 2, .view 3]], []⟩
def r_u172q : List PRes := [⟨false, .bool, []⟩]
def tr_u172q (x0 : Int) (x1 x2 : List AV) : DT B_u172q :=
 .bi (br (decide ((↑x2.length : Int) ≤ 200)) (some (decide ((↑x1.length : Int) ≤ 100))) (some false)) (fun y0 =>
  .at (y0))
  (.no)
def f_u172q (x0 : Int) (x1 x2 : List AV) : Option B_u172q := lock (tr_u172q x0 x1 x2).ev
theorem c_u172q : FH IP 15 p_u172q r_u172q (k3 f_u172q) := fun_FH (F := F15) (L := []) (t := (k3 tr_u172q)) T108_ok (LOk_of (l := []) (by kernel_rfl) trivial) (by kernel_rfl) (fun v => by kernel_rfl) (fun _ => lock_eq _)
def T109 : Tab := (15, FE p_u172q r_u172q (k3 f_u172q)) :: T108
theorem T109_ok : TabOk IP T109 := ⟨FE_ok c_u172q, T108_ok⟩
abbrev B_u171q : Type := Bool
def p_u171q : PArgs := ⟨[.agg [.int .i64, .int .i64, .int .i64]], []⟩
def r_u171q : List PRes := [⟨false, .bool, []⟩]
def tr_u171q (x0 x1 x2 : Int) : DT B_u171q :=
 .br (x1 == 1)
  (.at (decide (x2 ≥ 0)))
  (.br (x1 == 2)
   (.bi (br (decide (x2 ≥ 0)) (some (decide (x2 ≤ 1000000000000))) (some false)) (fun y0 =>
    .at (y0))
    (.no))
   (.br (x1 == 3)
    (.bi (br (decide (x2 ≥ 0)) (some (decide (x2 ≤ 1000000))) (some false)) (fun y0 =>
     .at (y0))
     (.no))
    (.at (false))))
def f_u171q (x0 x1 x2 : Int) : Option B_u171q := lock (tr_u171q x0 x1 x2).ev
theorem c_u171q : FH IP 74 p_u171q r_u171q (k3 f_u171q) := fun_FH (F := F74) (L := []) (t := (k3 tr_u171q)) T109_ok (LOk_of (l := []) (by kernel_rfl) trivial) (by kernel_rfl) (fun v => by kernel_rfl) (fun _ => lock_eq _)
def T110 : Tab := (74, FE p_u171q r_u171q (k3 f_u171q)) :: T109
theorem T110_ok : TabOk IP T110 := ⟨FE_ok c_u171q, T109_ok⟩
abbrev B_u152q : Type := List AV × Bool
def p_u152q : PArgs := ⟨[.agg [.int .i64, .view 2, .view 3], .int .i64, .view 1], []⟩
def r_u152q : List PRes := [⟨false, .tup [.view 1, .bool], []⟩]
def tr_u152q (x0 : Int) (x1 x2 : List AV) (x3 : Int) (x4 : List AV) : DT B_u152q :=
 .br (okAt [CS.int IntKind.i64, CS.int IntKind.i64, CS.int IntKind.i64] x2 x3)
  (.br (decide (x4.length = 0) && decide (1 = 1))
   (.br (intOf (cellAt x2 x3 0) == 1)
    (.bi (f_u171q (intOf (cellAt x2 x3 0)) (intOf (cellAt x2 x3 1)) (intOf (cellAt x2 x3 2))) (fun y0 =>
     .at (([AV.int IntKind.i64 (intOf (cellAt x2 x3 1))], y0)))
     (.no))
    (.br (intOf (cellAt x2 x3 2) != 0)
     (.at (([], false)))
     (.br (intOf (cellAt x2 x3 0) == 2)
      (.bi (br (decide (intOf (cellAt x2 x3 1) < 0)) (some true) (some (decide (intOf (cellAt x2 x3 1) ≥ (↑x1.length : Int))))) (fun y0 =>
       .br (y0)
        (.at (([], false)))
        (.br (okAt [CS.str, CS.int IntKind.i64] x1 (intOf (cellAt x2 x3 1))) (.at (([AV.int IntKind.i64 (intOf (cellAt x1 (intOf (cellAt x2 x3 1)) 1))], true))) (.no)))
       (.no))
      (.br (intOf (cellAt x2 x3 0) == 3)
       (.bi (br (decide (intOf (cellAt x2 x3 1) < 5)) (some true) (some (decide (intOf (cellAt x2 x3 1) > 18)))) (fun y0 =>
        .br (y0)
         (.at (([], false)))
         (.bi (br (intOf (cellAt x2 x3 1) == 9) (some true) (some (intOf (cellAt x2 x3 1) == 16))) (fun y1 =>
          .br (y1) (.at (([], false))) (.at (([], false))))
          (.no)))
        (.no))
       (.br (intOf (cellAt x2 x3 0) == 4)
        (.br (decide (intOf (cellAt x2 x3 1) > x3)) (.at (([], decide (intOf (cellAt x2 x3 1) ≤ (↑x2.length : Int))))) (.at (([], false))))
        (.br (intOf (cellAt x2 x3 0) == 5) (.at (([], false))) (.at (([], false)))))))))
   (.br (decide (x4.length ≠ 0) && room x4.length 8)
    (.br (intOf (cellAt x2 x3 0) == 1)
     (.br (room (x4.length + 1) 8)
      (.bi (f_u171q (intOf (cellAt x2 x3 0)) (intOf (cellAt x2 x3 1)) (intOf (cellAt x2 x3 2))) (fun y0 =>
       .at ((x4 ++ [AV.int IntKind.i64 (intOf (cellAt x2 x3 1))], y0)))
       (.no))
      (.no))
     (.br (intOf (cellAt x2 x3 2) != 0)
      (.at (([], false)))
      (.br (intOf (cellAt x2 x3 0) == 2)
       (.bi (br (decide (intOf (cellAt x2 x3 1) < 0)) (some true) (some (decide (intOf (cellAt x2 x3 1) ≥ (↑x1.length : Int))))) (fun y0 =>
        .br (y0)
         (.at (([], false)))
         (.br (okAt [CS.str, CS.int IntKind.i64] x1 (intOf (cellAt x2 x3 1)))
          (.br (room (x4.length + 1) 8) (.at ((x4 ++ [AV.int IntKind.i64 (intOf (cellAt x1 (intOf (cellAt x2 x3 1)) 1))], true))) (.no))
          (.no)))
        (.no))
       (.br (intOf (cellAt x2 x3 0) == 3)
        (.bi (br (decide (intOf (cellAt x2 x3 1) < 5)) (some true) (some (decide (intOf (cellAt x2 x3 1) > 18)))) (fun y0 =>
         .br (y0)
          (.at (([], false)))
          (.bi (br (intOf (cellAt x2 x3 1) == 9) (some true) (some (intOf (cellAt x2 x3 1) == 16))) (fun y1 =>
           .br (y1)
            (.br (decide ((↑x4.length : Int) < 1))
             (.at (([], false)))
             (.br (leB (IntKind.i64.wrap ((↑x4.length : Int) - 1)) x4.length && true)
              (.bi (f_u120q (intOf (cellAt x2 x3 1)) (dropO x4 (0 + (IntKind.i64.wrap ((↑x4.length : Int) - 1)).toNat))) (fun y2 =>
               .br (leB (IntKind.i64.wrap ((↑x4.length : Int) - 1)) x4.length && true && decide (0 + (IntKind.i64.wrap ((↑x4.length : Int) - 1)).toNat ≤ x4.length))
                (.br (decide (0 + ((IntKind.i64.wrap ((↑x4.length : Int) - 1)).toNat - 0) + 1 ≤ x4.length) && decide (1 = 1))
                 (.br (snapB
                     [(192,
                         Blk.arr 1
                           (List.take (0 + ((IntKind.i64.wrap ((↑x4.length : Int) - 1)).toNat - 0)) x4 ++ [AV.int IntKind.i64 y2.1] ++
                             List.drop (0 + ((IntKind.i64.wrap ((↑x4.length : Int) - 1)).toNat - 0) + 1) x4)
                           false),
                       (1104, Blk.arr 1 [AV.int IntKind.i64 y2.1] false),
                       (128, Blk.box [AV.int IntKind.i64 (intOf (cellAt x2 x3 0)), AV.int IntKind.i64 (intOf (cellAt x2 x3 1)), AV.int IntKind.i64 (intOf (cellAt x2 x3 2))] false),
                       (0, Blk.box [AV.int IntKind.i64 x0, AV.view 2 x1, AV.view 3 x2] false)]
                     purse (AV.tup [AV.own 192 0 (some ((IntKind.i64.wrap ((↑x4.length : Int) - 1)).toNat - 0 + 1)), AV.bool y2.2]))
                  (.at ((List.take ((IntKind.i64.wrap ((↑x4.length : Int) - 1)).toNat - 0 + 1)
  (List.take (0 + ((IntKind.i64.wrap ((↑x4.length : Int) - 1)).toNat - 0)) x4 ++ [AV.int IntKind.i64 y2.1] ++
    List.drop (0 + ((IntKind.i64.wrap ((↑x4.length : Int) - 1)).toNat - 0) + 1) x4), y2.2)))
                  (.no))
                 (.br (decide (x4.length < 0 + ((IntKind.i64.wrap ((↑x4.length : Int) - 1)).toNat - 0) + 1) &&
                     (decide (0 + ((IntKind.i64.wrap ((↑x4.length : Int) - 1)).toNat - 0) ≤ x4.length) && room ((IntKind.i64.wrap ((↑x4.length : Int) - 1)).toNat - 0 + 1) 8))
                  (.at ((List.take ((IntKind.i64.wrap ((↑x4.length : Int) - 1)).toNat - 0) x4 ++ [AV.int IntKind.i64 y2.1], y2.2)))
                  (.no)))
                (.no))
               (.no))
              (.no)))
            (.br (decide ((↑x4.length : Int) < 2))
             (.at (([], false)))
             (.br (leB (IntKind.i64.wrap ((↑x4.length : Int) - 2)) x4.length && true)
              (.bi (f_u120q (intOf (cellAt x2 x3 1)) (dropO x4 (0 + (IntKind.i64.wrap ((↑x4.length : Int) - 2)).toNat))) (fun y2 =>
               .br (leB (IntKind.i64.wrap ((↑x4.length : Int) - 2)) x4.length && true && decide (0 + (IntKind.i64.wrap ((↑x4.length : Int) - 2)).toNat ≤ x4.length))
                (.br (decide (0 + ((IntKind.i64.wrap ((↑x4.length : Int) - 2)).toNat - 0) + 1 ≤ x4.length) && decide (1 = 1))
                 (.br (snapB
                     [(192,
                         Blk.arr 1
                           (List.take (0 + ((IntKind.i64.wrap ((↑x4.length : Int) - 2)).toNat - 0)) x4 ++ [AV.int IntKind.i64 y2.1] ++
                             List.drop (0 + ((IntKind.i64.wrap ((↑x4.length : Int) - 2)).toNat - 0) + 1) x4)
                           false),
                       (1088, Blk.arr 1 [AV.int IntKind.i64 y2.1] false),
                       (128, Blk.box [AV.int IntKind.i64 (intOf (cellAt x2 x3 0)), AV.int IntKind.i64 (intOf (cellAt x2 x3 1)), AV.int IntKind.i64 (intOf (cellAt x2 x3 2))] false),
                       (0, Blk.box [AV.int IntKind.i64 x0, AV.view 2 x1, AV.view 3 x2] false)]
                     purse (AV.tup [AV.own 192 0 (some ((IntKind.i64.wrap ((↑x4.length : Int) - 2)).toNat - 0 + 1)), AV.bool y2.2]))
                  (.at ((List.take ((IntKind.i64.wrap ((↑x4.length : Int) - 2)).toNat - 0 + 1)
  (List.take (0 + ((IntKind.i64.wrap ((↑x4.length : Int) - 2)).toNat - 0)) x4 ++ [AV.int IntKind.i64 y2.1] ++
    List.drop (0 + ((IntKind.i64.wrap ((↑x4.length : Int) - 2)).toNat - 0) + 1) x4), y2.2)))
                  (.no))
                 (.br (decide (x4.length < 0 + ((IntKind.i64.wrap ((↑x4.length : Int) - 2)).toNat - 0) + 1) &&
                     (decide (0 + ((IntKind.i64.wrap ((↑x4.length : Int) - 2)).toNat - 0) ≤ x4.length) && room ((IntKind.i64.wrap ((↑x4.length : Int) - 2)).toNat - 0 + 1) 8))
                  (.at ((List.take ((IntKind.i64.wrap ((↑x4.length : Int) - 2)).toNat - 0) x4 ++ [AV.int IntKind.i64 y2.1], y2.2)))
                  (.no)))
                (.no))
               (.no))
              (.no))))
           (.no)))
         (.no))
        (.br (intOf (cellAt x2 x3 0) == 4)
         (.br (decide (intOf (cellAt x2 x3 1) > x3)) (.at ((x4, decide (intOf (cellAt x2 x3 1) ≤ (↑x2.length : Int))))) (.at ((x4, false))))
         (.br (intOf (cellAt x2 x3 0) == 5)
          (.bi (br ((↑x4.length : Int) == 0) (some true)
              (br (inB x4.length (IntKind.i64.wrap ((↑x4.length : Int) - 1)))
                (br (okP [CS.int IntKind.i64] x4 (IntKind.i64.wrap ((↑x4.length : Int) - 1)).toNat 0) (some (intOf (cellN x4 (IntKind.i64.wrap ((↑x4.length : Int) - 1)).toNat 0) != 5)) none)
                none)) (fun y0 =>
           .br (y0)
            (.at (([], false)))
            (.br (leB (IntKind.i64.wrap ((↑x4.length : Int) - 1)) x4.length && true && decide (0 + (IntKind.i64.wrap ((↑x4.length : Int) - 1)).toNat ≤ x4.length))
             (.br (decide (intOf (cellAt x2 x3 1) > x3))
              (.br (snapB
                  [(192, Blk.arr 1 x4 false),
                    (128, Blk.box [AV.int IntKind.i64 (intOf (cellAt x2 x3 0)), AV.int IntKind.i64 (intOf (cellAt x2 x3 1)), AV.int IntKind.i64 (intOf (cellAt x2 x3 2))] false),
                    (0, Blk.box [AV.int IntKind.i64 x0, AV.view 2 x1, AV.view 3 x2] false)]
                  purse (AV.tup [AV.own 192 0 (some ((IntKind.i64.wrap ((↑x4.length : Int) - 1)).toNat - 0)), AV.bool (decide (intOf (cellAt x2 x3 1) ≤ (↑x2.length : Int)))]))
               (.at ((List.take ((IntKind.i64.wrap ((↑x4.length : Int) - 1)).toNat - 0) x4, decide (intOf (cellAt x2 x3 1) ≤ (↑x2.length : Int)))))
               (.no))
              (.br (snapB
                  [(192, Blk.arr 1 x4 false),
                    (128, Blk.box [AV.int IntKind.i64 (intOf (cellAt x2 x3 0)), AV.int IntKind.i64 (intOf (cellAt x2 x3 1)), AV.int IntKind.i64 (intOf (cellAt x2 x3 2))] false),
                    (0, Blk.box [AV.int IntKind.i64 x0, AV.view 2 x1, AV.view 3 x2] false)]
                  purse (AV.tup [AV.own 192 0 (some ((IntKind.i64.wrap ((↑x4.length : Int) - 1)).toNat - 0)), AV.bool false]))
               (.at ((List.take ((IntKind.i64.wrap ((↑x4.length : Int) - 1)).toNat - 0) x4, false)))
               (.no)))
             (.no)))
           (.no))
          (.at (([], false)))))))))
    (.no)))
  (.no)
def f_u152q (x0 : Int) (x1 x2 : List AV) (x3 : Int) (x4 : List AV) : Option B_u152q := lock (tr_u152q x0 x1 x2 x3 x4).ev
theorem c_u152q : FH IP 53 p_u152q r_u152q (k5 f_u152q) := fun_FH (F := F53) (L := []) (t := (k5 tr_u152q)) T110_ok (LOk_of (l := []) (by kernel_rfl) trivial) (by kernel_rfl) (fun v => by kernel_rfl) (fun _ => lock_eq _)
def T111 : Tab := (53, FE p_u152q r_u152q (k5 f_u152q)) :: T110
theorem T111_ok : TabOk IP T111 := ⟨FE_ok c_u152q, T110_ok⟩
abbrev TT_u50q : Type := List AV × List AV × Int
def hs_u50q : List PSt := [⟨[(1005500, .junk), (0, .view 1), (1, .view 1), (5, .int .i64)], [], 0, 0⟩]
def x_u50q_0 (x0 x1 : List AV) (x2 : Int) : X × St := (X.ret, { tm := [(4, AV.bool false)], hp := [], nx := 0, k := 0 })
def x_u50q_1 (x0 x1 : List AV) (x2 : Int) : X × St := (X.exit 0, { tm := [(4, AV.junk)], hp := [], nx := 0, k := 0 })
def x_u50q : List (TT_u50q → X × St) := [(k3 x_u50q_0), (k3 x_u50q_1)]
def st_u50q_0 (x0 x1 : List AV) (x2 : Int) : DT (Rd TT_u50q) :=
 .br (decide (x2 < (↑x0.length : Int)))
  (.br (okAt [CS.int IntKind.i64] x0 x2)
   (.br (okAt [CS.int IntKind.i64] x1 x2)
    (.br (intOf (cellAt x0 x2 0) != intOf (cellAt x1 x2 0)) (.at (.done 0)) (.at (.next ((x0, x1, IntKind.i64.wrap (x2 + 1))))))
    (.no))
   (.no))
  (.at (.done 1))
def st_u50q : TT_u50q → DT (Rd TT_u50q) := (fun v => st_u50q_0 v.1 v.2.1 v.2.2)
def l_u50q (v : TT_u50q) : Option (Nat × TT_u50q) := lock (iterO (fun v => (st_u50q v).ev) v)
theorem l_u50q_eq (v : TT_u50q) : l_u50q v = iterO (fun v => (st_u50q v).ev) v := lock_eq _
def ll_u50q : LEnt := LE (τ := TT_u50q) (hD hs_u50q) (l_u50q) x_u50q
theorem t_u50q : Go.Eng.Told IP (loopAt F55 0).1 (loopAt F55 0).2 (ll_u50q) := loop_LE (inferInstance : Inhabited TT_u50q) (hs := hs_u50q) (st := st_u50q) (L := []) T111_ok (LOk_of (l := []) (by kernel_rfl) trivial) (l_u50q_eq) (fun v => by kernel_rfl) (fun v => by kernel_rfl)
abbrev B_u79q : Type := Bool
def p_u79q : PArgs := ⟨[.view 1, .view 1], []⟩
def r_u79q : List PRes := [⟨false, .bool, []⟩]
def tr_u79q (x0 x1 : List AV) : DT B_u79q :=
 .br ((↑x0.length : Int) != (↑x1.length : Int))
  (.at (false))
  (.bi (pj 0 (l_u50q (x0, x1, 0))) (fun y0 =>
   .at (false))
   (.bi (pj 1 (l_u50q (x0, x1, 0))) (fun y0 =>
    .at (true))
    (.no)))
def f_u79q (x0 x1 : List AV) : Option B_u79q := lock (tr_u79q x0 x1).ev
theorem c_u79q : FH IP 55 p_u79q r_u79q (k2 f_u79q) := fun_FH (F := F55) (L := [(1005500, ll_u50q)]) (t := (k2 tr_u79q)) T111_ok (LOk_of (l := [loopAt F55 0]) (by kernel_rfl) ⟨sel_one (by kernel_rfl) t_u50q, trivial⟩) (by kernel_rfl) (fun v => by kernel_rfl) (fun _ => lock_eq _)
def T112 : Tab := (55, FE p_u79q r_u79q (k2 f_u79q)) :: T111
theorem T112_ok : TabOk IP T112 := ⟨FE_ok c_u79q, T111_ok⟩
abbrev B_u170q : Type := Bool × Bool × List AV
def p_u170q : PArgs := ⟨[.agg [.bool, .bool, .view 1], .view 1], []⟩
def r_u170q : List PRes := [⟨false, .agg [.bool, .bool, .view 1], []⟩]
def tr_u170q (x0 x1 : Bool) (x2 x3 : List AV) : DT B_u170q :=
 .bi (br x0 (br (sm (f_u79q x2 x3)) (some !gv (f_u79q x2 x3)) none) (some false)) (fun y0 =>
  .br (y0)
   (.br (!x0)
    (.br (decide (x3.length = 0) && decide (1 = 1))
     (.at ((true, true, [])))
     (.br (decide (x3.length ≠ 0) && room x3.length 8) (.at ((true, true, x3))) (.no)))
    (.at ((true, true, x2))))
   (.br (!x0)
    (.br (decide (x3.length = 0) && decide (1 = 1))
     (.at ((true, x1, [])))
     (.br (decide (x3.length ≠ 0) && room x3.length 8) (.at ((true, x1, x3))) (.no)))
    (.at ((true, x1, x2)))))
  (.no)
def f_u170q (x0 x1 : Bool) (x2 x3 : List AV) : Option B_u170q := lock (tr_u170q x0 x1 x2 x3).ev
theorem c_u170q : FH IP 54 p_u170q r_u170q (k4 f_u170q) := fun_FH (F := F54) (L := []) (t := (k4 tr_u170q)) T112_ok (LOk_of (l := []) (by kernel_rfl) trivial) (by kernel_rfl) (fun v => by kernel_rfl) (fun _ => lock_eq _)
def T113 : Tab := (54, FE p_u170q r_u170q (k4 f_u170q)) :: T112
theorem T113_ok : TabOk IP T113 := ⟨FE_ok c_u170q, T112_ok⟩
abbrev TT_u155q : Type := Int × Int × Int × Int × List AV × List AV × List AV
def hs_u155q : List PSt := [⟨[(1003500, .junk), (1, .ref 0 0 0), (5, .int .i64), (6, .own 1 0), (7, .int .i64), (8, .int .i64)], [(0, .box [.int .i64, .view 2, .view 3] false), (1, .arr 3 false)], 2, 0⟩]
def x_u155q_0 (x0 x1 : Int) (x2 x3 : Int) (x4 x5 x6 : List AV) : X × St := (X.ret,
  { tm := [(1, AV.ref 0 0 0), (2, AV.int IntKind.i64 0), (3, AV.int IntKind.i64 9), (5, AV.int IntKind.i64 x0), (6, AV.own 1 0 none), (7, AV.int IntKind.i64 x1)],
    hp := [(0, Blk.box [AV.int IntKind.i64 x3, AV.view 2 x4, AV.view 3 x5] false), (1, Blk.arr 3 x6 false)], nx := 2, k := 0 })
def x_u155q_1 (x0 x1 : Int) (x2 x3 : Int) (x4 x5 x6 : List AV) : X × St := (X.exit 0,
  {
    tm :=
      [(1, AV.ref 0 0 0), (2, AV.junk), (3, AV.junk), (5, AV.int IntKind.i64 x0), (6, AV.own 1 0 none),
        (7, AV.int IntKind.i64 (if (↑(viewOf (cellN x6 x2.toNat 2)).length : Int) > x1 then (↑(viewOf (cellN x6 x2.toNat 2)).length : Int) else x1))],
    hp := [(0, Blk.box [AV.int IntKind.i64 x3, AV.view 2 x4, AV.view 3 x5] false), (1, Blk.arr 3 x6 false)], nx := 2, k := 0 })
def x_u155q_2 (x0 x1 : Int) (x2 x3 : Int) (x4 x5 x6 : List AV) : X × St := (X.ret,
  {
    tm :=
      [(1, AV.ref 0 0 0), (2, AV.int IntKind.i64 0), (3, AV.int IntKind.i64 9), (5, AV.int IntKind.i64 x0), (6, AV.own 1 0 none),
        (7, AV.int IntKind.i64 (if (↑(viewOf (cellN x6 x2.toNat 2)).length : Int) > x1 then (↑(viewOf (cellN x6 x2.toNat 2)).length : Int) else x1))],
    hp := [(0, Blk.box [AV.int IntKind.i64 x3, AV.view 2 x4, AV.view 3 x5] false), (1, Blk.arr 3 x6 false)], nx := 2, k := 0 })
def x_u155q_3 (x0 x1 : Int) (x2 x3 : Int) (x4 x5 x6 : List AV) : X × St := (X.ret,
  {
    tm :=
      [(1, AV.ref 0 0 0), (2, AV.int IntKind.i64 0), (3, AV.int IntKind.i64 5), (5, AV.int IntKind.i64 x0), (6, AV.own 1 0 none),
        (7, AV.int IntKind.i64 (if (↑(viewOf (cellN x6 x2.toNat 2)).length : Int) > x1 then (↑(viewOf (cellN x6 x2.toNat 2)).length : Int) else x1))],
    hp := [(0, Blk.box [AV.int IntKind.i64 x3, AV.view 2 x4, AV.view 3 x5] false), (1, Blk.arr 3 x6 false)], nx := 2, k := 0 })
def x_u155q_4 (x0 x1 : Int) (x2 x3 : Int) (x4 x5 x6 : List AV) : X × St := (X.exit 0,
  { tm := [(1, AV.ref 0 0 0), (2, AV.junk), (3, AV.junk), (5, AV.int IntKind.i64 x0), (6, AV.own 1 0 none), (7, AV.int IntKind.i64 x1)],
    hp := [(0, Blk.box [AV.int IntKind.i64 x3, AV.view 2 x4, AV.view 3 x5] false), (1, Blk.arr 3 x6 false)], nx := 2, k := 0 })
def x_u155q : List (TT_u155q → X × St) := [(k7 x_u155q_0), (k7 x_u155q_1), (k7 x_u155q_2), (k7 x_u155q_3), (k7 x_u155q_4)]
def st_u155q_0 (x0 x1 : Int) (x2 x3 : Int) (x4 x5 x6 : List AV) : DT (Rd TT_u155q) :=
 .br (decide (x2 ≤ x0))
  (.br (inB x6.length x2)
   (.br (okP [CS.bool, CS.bool, CS.slice 1] x6 x2.toNat 0)
    (.bi (br (!boolOf (cellN x6 x2.toNat 0)) (some true) (some (boolOf (cellN x6 x2.toNat 1)))) (fun y0 =>
     .br (y0)
      (.at (.done 0))
      (.br (x2 == x0)
       (.at (.done 1))
       (.bi (f_u152q x3 x4 x5 x2 (viewOf (cellN x6 x2.toNat 2))) (fun y1 =>
        .br (!y1.2)
         (.at (.done 2))
         (.br (decide ((↑y1.1.length : Int) > 16))
          (.at (.done 3))
          (.br (okAt [CS.int IntKind.i64, CS.int IntKind.i64, CS.int IntKind.i64] x5 x2)
           (.bi (br (intOf (cellAt x5 x2 0) == 4) (some true) (some (intOf (cellAt x5 x2 0) == 5))) (fun y2 =>
            .br (y2)
             (.br (okAt [CS.int IntKind.i64, CS.int IntKind.i64, CS.int IntKind.i64] x5 x2)
              (.br (okAt [CS.int IntKind.i64, CS.int IntKind.i64, CS.int IntKind.i64] x5 x2)
               (.br (inB x6.length (intOf (cellAt x5 x2 1)))
                (.br (okP [CS.bool, CS.bool, CS.slice 1] x6 (intOf (cellAt x5 x2 1)).toNat 0)
                 (.bi (f_u170q (boolOf (cellN x6 (intOf (cellAt x5 x2 1)).toNat 0)) (boolOf (cellN x6 (intOf (cellAt x5 x2 1)).toNat 1)) (viewOf (cellN x6 (intOf (cellAt x5 x2 1)).toNat 2)) y1.1) (fun y3 =>
                  .br (inB x6.length (intOf (cellAt x5 x2 1)))
                   (.br (okS x6 (intOf (cellAt x5 x2 1)).toNat 0 3)
                    (.br (intOf (cellAt x5 x2 0) != 4)
                     (.br (inB (setE x6 (intOf (cellAt x5 x2 1)).toNat 0 [AV.bool y3.1, AV.bool y3.2.1, AV.view 1 y3.2.2]).length (IntKind.i64.wrap (x2 + 1)))
                      (.br (okP [CS.bool, CS.bool, CS.slice 1] (setE x6 (intOf (cellAt x5 x2 1)).toNat 0 [AV.bool y3.1, AV.bool y3.2.1, AV.view 1 y3.2.2]) (IntKind.i64.wrap (x2 + 1)).toNat 0)
                       (.bi (f_u170q (boolOf (cellN (setE x6 (intOf (cellAt x5 x2 1)).toNat 0 [AV.bool y3.1, AV.bool y3.2.1, AV.view 1 y3.2.2]) (IntKind.i64.wrap (x2 + 1)).toNat 0))
                           (boolOf (cellN (setE x6 (intOf (cellAt x5 x2 1)).toNat 0 [AV.bool y3.1, AV.bool y3.2.1, AV.view 1 y3.2.2]) (IntKind.i64.wrap (x2 + 1)).toNat 1))
                           (viewOf (cellN (setE x6 (intOf (cellAt x5 x2 1)).toNat 0 [AV.bool y3.1, AV.bool y3.2.1, AV.view 1 y3.2.2]) (IntKind.i64.wrap (x2 + 1)).toNat 2)) y1.1) (fun y4 =>
                        .br (inB (setE x6 (intOf (cellAt x5 x2 1)).toNat 0 [AV.bool y3.1, AV.bool y3.2.1, AV.view 1 y3.2.2]).length (IntKind.i64.wrap (x2 + 1)))
                         (.br (okS (setE x6 (intOf (cellAt x5 x2 1)).toNat 0 [AV.bool y3.1, AV.bool y3.2.1, AV.view 1 y3.2.2]) (IntKind.i64.wrap (x2 + 1)).toNat 0 3)
                          (.at (.next ((x0, if (↑(viewOf (cellN x6 x2.toNat 2)).length : Int) > x1 then (↑(viewOf (cellN x6 x2.toNat 2)).length : Int) else x1, IntKind.i64.wrap (x2 + 1), x3, x4, x5, setE (setE x6 (intOf (cellAt x5 x2 1)).toNat 0 [AV.bool y3.1, AV.bool y3.2.1, AV.view 1 y3.2.2]) (IntKind.i64.wrap (x2 + 1)).toNat 0
  [AV.bool y4.1, AV.bool y4.2.1, AV.view 1 y4.2.2]))))
                          (.no))
                         (.no))
                        (.no))
                       (.no))
                      (.no))
                     (.at (.next ((x0, if (↑(viewOf (cellN x6 x2.toNat 2)).length : Int) > x1 then (↑(viewOf (cellN x6 x2.toNat 2)).length : Int) else x1, IntKind.i64.wrap (x2 + 1), x3, x4, x5, setE x6 (intOf (cellAt x5 x2 1)).toNat 0 [AV.bool y3.1, AV.bool y3.2.1, AV.view 1 y3.2.2])))))
                    (.no))
                   (.no))
                  (.no))
                 (.no))
                (.no))
               (.no))
              (.no))
             (.br (intOf (cellAt x5 x2 0) != 4)
              (.br (inB x6.length (IntKind.i64.wrap (x2 + 1)))
               (.br (okP [CS.bool, CS.bool, CS.slice 1] x6 (IntKind.i64.wrap (x2 + 1)).toNat 0)
                (.bi (f_u170q (boolOf (cellN x6 (IntKind.i64.wrap (x2 + 1)).toNat 0)) (boolOf (cellN x6 (IntKind.i64.wrap (x2 + 1)).toNat 1)) (viewOf (cellN x6 (IntKind.i64.wrap (x2 + 1)).toNat 2))
                    y1.1) (fun y3 =>
                 .br (inB x6.length (IntKind.i64.wrap (x2 + 1)))
                  (.br (okS x6 (IntKind.i64.wrap (x2 + 1)).toNat 0 3)
                   (.at (.next ((x0, if (↑(viewOf (cellN x6 x2.toNat 2)).length : Int) > x1 then (↑(viewOf (cellN x6 x2.toNat 2)).length : Int) else x1, IntKind.i64.wrap (x2 + 1), x3, x4, x5, setE x6 (IntKind.i64.wrap (x2 + 1)).toNat 0 [AV.bool y3.1, AV.bool y3.2.1, AV.view 1 y3.2.2]))))
                   (.no))
                  (.no))
                 (.no))
                (.no))
               (.no))
              (.at (.next ((x0, if (↑(viewOf (cellN x6 x2.toNat 2)).length : Int) > x1 then (↑(viewOf (cellN x6 x2.toNat 2)).length : Int) else x1, IntKind.i64.wrap (x2 + 1), x3, x4, x5, x6))))))
            (.no))
           (.no))))
        (.no))))
     (.no))
    (.no))
   (.no))
  (.at (.done 4))
def st_u155q : TT_u155q → DT (Rd TT_u155q) := (fun v => st_u155q_0 v.1 v.2.1 v.2.2.1 v.2.2.2.1 v.2.2.2.2.1 v.2.2.2.2.2.1 v.2.2.2.2.2.2)
def l_u155q (v : TT_u155q) : Option (Nat × TT_u155q) := lock (iterO (fun v => (st_u155q v).ev) v)
theorem l_u155q_eq (v : TT_u155q) : l_u155q v = iterO (fun v => (st_u155q v).ev) v := lock_eq _
def ll_u155q : LEnt := LE (τ := TT_u155q) (hD hs_u155q) (l_u155q) x_u155q
theorem t_u155q : Go.Eng.Told IP (loopAt F35 0).1 (loopAt F35 0).2 (ll_u155q) := loop_LE (inferInstance : Inhabited TT_u155q) (hs := hs_u155q) (st := st_u155q) (L := []) T113_ok (LOk_of (l := []) (by kernel_rfl) trivial) (l_u155q_eq) (fun v => by kernel_rfl) (fun v => by kernel_rfl)
end
end Go.Proofs.H12

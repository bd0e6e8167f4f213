/- Functions over plain data. Printed by a program of mine. -/
import Derived.Test.YtlgbnjnkcoiceaaGreatDoorD12_6
import Derived.KernelRfl
set_option linter.unusedVariables false
set_option linter.unusedSimpArgs false
set_option linter.unnecessarySimpa false
namespace Go.Proofs.H12
open Go Go.Eng
set_option maxRecDepth 100000
noncomputable section
abbrev TT_u106q : Type := List AV × List UInt8 × Int
def hs_u106q : List PSt := [⟨[(1005100, .junk), (0, .view 2), (1, .str), (5, .int .i64)], [], 0, 0⟩]
def x_u106q_0 (x0 : List AV) (x1 : List UInt8) (x2 : Int) : X × St := (X.ret, { tm := [(4, AV.int IntKind.i64 x2)], hp := [], nx := 0, k := 0 })
def x_u106q_1 (x0 : List AV) (x1 : List UInt8) (x2 : Int) : X × St := (X.exit 0, { tm := [(4, AV.junk)], hp := [], nx := 0, k := 0 })
def x_u106q : List (TT_u106q → X × St) := [(k3 x_u106q_0), (k3 x_u106q_1)]
def st_u106q_0 (x0 : List AV) (x1 : List UInt8) (x2 : Int) : DT (Rd TT_u106q) :=
 .br (decide (x2 < (↑x0.length : Int)))
  (.br (okAt [CS.str, CS.int IntKind.i64] x0 x2)
   (.br (strOf (cellAt x0 x2 0) == x1) (.at (.done 0)) (.at (.next ((x0, x1, IntKind.i64.wrap (x2 + 1))))))
   (.no))
  (.at (.done 1))
def st_u106q : TT_u106q → DT (Rd TT_u106q) := (fun v => st_u106q_0 v.1 v.2.1 v.2.2)
def l_u106q (v : TT_u106q) : Option (Nat × TT_u106q) := lock (iterO (fun v => (st_u106q v).ev) v)
theorem l_u106q_eq (v : TT_u106q) : l_u106q v = iterO (fun v => (st_u106q v).ev) v := lock_eq _
def ll_u106q : LEnt := LE (τ := TT_u106q) (hD hs_u106q) (l_u106q) x_u106q
theorem t_u106q : Go.Eng.Told IP (loopAt F51 0).1 (loopAt F51 0).2 (ll_u106q) := loop_LE (inferInstance : Inhabited TT_u106q) (hs := hs_u106q) (st := st_u106q) (L := []) T102_ok (LOk_of (l := []) (by kernel_rfl) trivial) (l_u106q_eq) (fun v => by kernel_rfl) (fun v => by kernel_rfl)
abbrev B_u154q : Type := Int
def p_u154q : PArgs := ⟨[.view 2, .str], []⟩
def r_u154q : List PRes := [⟨false, .int .i64, []⟩]
def tr_u154q (x0 : List AV) (x1 : List UInt8) : DT B_u154q :=
 .bi (pj 0 (l_u106q (x0, x1, 0))) (fun y0 =>
  .at (y0.2.2))
  (.bi (pj 1 (l_u106q (x0, x1, 0))) (fun y0 =>
   .at (-1))
   (.no))
def f_u154q (x0 : List AV) (x1 : List UInt8) : Option B_u154q := lock (tr_u154q x0 x1).ev
theorem f_u154q_eq (x0 : List AV) (x1 : List UInt8) : f_u154q x0 x1 = (tr_u154q x0 x1).ev := lock_eq _
theorem c_u154q : FH IP 51 p_u154q r_u154q (k2 f_u154q) := fun_FH (F := F51) (L := [(1005100, ll_u106q)]) (t := (k2 tr_u154q)) T102_ok (LOk_of (l := [loopAt F51 0]) (by kernel_rfl) ⟨sel_one (by kernel_rfl) t_u106q, trivial⟩) (by kernel_rfl) (fun v => by kernel_rfl) (fun _ => lock_eq _)
def T103 : Tab := (51, FE p_u154q r_u154q (k2 f_u154q)) :: T102
theorem T103_ok : TabOk IP T103 := ⟨FE_ok c_u154q, T102_ok⟩
abbrev B_u153q : Type := List AV
def p_u153q : PArgs := ⟨[.own 0 0, .agg [.int .i64, .int .i64, .str, .view 4], .view 2], [(0, .arr 3 false)]⟩
def r_u153q : List PRes := [⟨false, .own 1 0, [(1, .arr 3 false)]⟩]
abbrev GT_u153q : Type := Int → Int → (List UInt8) → (List AV) → (List AV) → (List AV) → Option B_u153q
def GH_u153q (G_u153q : GT_u153q) : Prop := FH IP 33 p_u153q r_u153q (k6 G_u153q)
def TG_u153q (G_u153q : GT_u153q) : Tab := (33, FE p_u153q r_u153q (k6 G_u153q)) :: T103
theorem TG_u153q_ok (G_u153q : GT_u153q) (hG : GH_u153q G_u153q) : TabOk IP (TG_u153q G_u153q) := ⟨FE_ok (hG), T103_ok⟩
abbrev TT_u105q : Type := (List AV × Int × List AV × Int × Int × List UInt8 × List AV) ⊕ (List AV × Int × List AV × Int × Int × List UInt8 × List AV)
def hs_u105q : List PSt := [⟨[(1003300, .junk), (0, .own 0 0), (2, .view 2), (4, .ref 1 0 0), (8, .int .i64)], [(0, .arr 3 false), (1, .box [.int .i64, .int .i64, .str, .view 4] false)], 2, 1⟩, ⟨[(1003300, .junk), (0, .own 1 0), (2, .view 2), (4, .ref 2 0 0), (8, .int .i64)], [(1, .arr 3 false), (2, .box [.int .i64, .int .i64, .str, .view 4] false)], 3, 1⟩]
def x_u105q_0 (x0 : List AV) (x1 : Int) (x2 : List AV) (x3 x4 : Int) (x5 : List UInt8) (x6 : List AV) : X × St := (X.exit 0,
  { tm := [(0, AV.own 0 0 none), (4, AV.ref 1 0 0)], hp := [(0, Blk.arr 3 x2 false), (1, Blk.box [AV.int IntKind.i64 x3, AV.int IntKind.i64 x4, AV.str x5, AV.view 4 x6] false)],
    nx := 2, k := 1 })
def x_u105q_1 (x0 : List AV) (x1 : Int) (x2 : List AV) (x3 x4 : Int) (x5 : List UInt8) (x6 : List AV) : X × St := (X.exit 0,
  { tm := [(0, AV.own 1 0 none), (4, AV.ref 2 0 0)], hp := [(1, Blk.arr 3 x2 false), (2, Blk.box [AV.int IntKind.i64 x3, AV.int IntKind.i64 x4, AV.str x5, AV.view 4 x6] false)],
    nx := 3, k := 1 })
def x_u105q : List (TT_u105q → X × St) := [fun w => (k7 x_u105q_0) ((sl w)), fun w => (k7 x_u105q_1) ((sr w))]
def st_u105q_0 (G_u153q : GT_u153q) (x0 : List AV) (x1 : Int) (x2 : List AV) (x3 x4 : Int) (x5 : List UInt8) (x6 : List AV) : DT (Rd TT_u105q) :=
 .br (decide (x1 < (↑x6.length : Int)))
  (.br (okAt [CS.int IntKind.i64, CS.int IntKind.i64, CS.str, CS.slice 4] x6 x1)
   (.bi (G_u153q (intOf (cellAt x6 x1 0)) (intOf (cellAt x6 x1 1)) (strOf (cellAt x6 x1 2)) (viewOf (cellAt x6 x1 3)) x0 x2) (fun y0 =>
    .at (.next ((.inr (x0, IntKind.i64.wrap (x1 + 1), y0, x3, x4, x5, x6)))))
    (.no))
   (.no))
  (.at (.done 0))
def st_u105q_1 (G_u153q : GT_u153q) (x0 : List AV) (x1 : Int) (x2 : List AV) (x3 x4 : Int) (x5 : List UInt8) (x6 : List AV) : DT (Rd TT_u105q) :=
 .br (decide (x1 < (↑x6.length : Int)))
  (.br (okAt [CS.int IntKind.i64, CS.int IntKind.i64, CS.str, CS.slice 4] x6 x1)
   (.bi (G_u153q (intOf (cellAt x6 x1 0)) (intOf (cellAt x6 x1 1)) (strOf (cellAt x6 x1 2)) (viewOf (cellAt x6 x1 3)) x0 x2) (fun y0 =>
    .at (.next ((.inr (x0, IntKind.i64.wrap (x1 + 1), y0, x3, x4, x5, x6)))))
    (.no))
   (.no))
  (.at (.done 1))
def st_u105q (G_u153q : GT_u153q) : TT_u105q → DT (Rd TT_u105q) := (Sum.elim (fun v => st_u105q_0 G_u153q v.1 v.2.1 v.2.2.1 v.2.2.2.1 v.2.2.2.2.1 v.2.2.2.2.2.1 v.2.2.2.2.2.2) (fun v => st_u105q_1 G_u153q v.1 v.2.1 v.2.2.1 v.2.2.2.1 v.2.2.2.2.1 v.2.2.2.2.2.1 v.2.2.2.2.2.2))
def l_u105q (G_u153q : GT_u153q) (v : TT_u105q) : Option (Nat × TT_u105q) := lock (iterO (fun v => (st_u105q G_u153q v).ev) v)
theorem l_u105q_eq (G_u153q : GT_u153q) (v : TT_u105q) : l_u105q G_u153q v = iterO (fun v => (st_u105q G_u153q v).ev) v := lock_eq _
def ll_u105q (G_u153q : GT_u153q) : LEnt := LE (τ := TT_u105q) (hD hs_u105q) (l_u105q G_u153q) x_u105q
theorem t_u105q (G_u153q : GT_u153q) (hG : GH_u153q G_u153q) : Go.Eng.Told IP (loopAt F33 0).1 (loopAt F33 0).2 (ll_u105q G_u153q) := loop_LE (inferInstance : Inhabited TT_u105q) (hs := hs_u105q) (st := st_u105q G_u153q) (L := []) (TG_u153q_ok G_u153q hG) (LOk_of (l := []) (by kernel_rfl) trivial) (l_u105q_eq G_u153q) (fun v => match v with | (.inl v) => by kernel_rfl | (.inr v) => by kernel_rfl) (fun v => match v with | (.inl v) => by kernel_rfl | (.inr v) => by kernel_rfl)
def tr_u153q (G_u153q : GT_u153q) (x0 x1 : Int) (x2 : List UInt8) (x3 x4 x5 : List AV) : DT B_u153q :=
 .bi (f_u78q x0) (fun y0 =>
  .br (y0 != 0)
   (.br (room (x5.length + 1) 24) (.at (x5 ++ [AV.agg [AV.int IntKind.i64 1, AV.int IntKind.i64 y0, AV.int IntKind.i64 x1]])) (.no))
   (.br (x0 == 4)
    (.bi (f_u154q x4 x2) (fun y1 =>
     .br (room (x5.length + 1) 24) (.at (x5 ++ [AV.agg [AV.int IntKind.i64 2, AV.int IntKind.i64 y1, AV.int IntKind.i64 0]])) (.no))
     (.no))
    (.br (x0 != 19)
     (.bi (pj 0 (l_u105q G_u153q (Sum.inl (x4, 0, x5, x0, x1, x2, x3)))) (fun y1 =>
      .br (room ((sl y1).2.2.1.length + 1) 24)
       (.at ((sl y1).2.2.1 ++ [AV.agg [AV.int IntKind.i64 3, AV.int IntKind.i64 (sl y1).2.2.2.1, AV.int IntKind.i64 0]]))
       (.no))
      (.bi (pj 1 (l_u105q G_u153q (Sum.inl (x4, 0, x5, x0, x1, x2, x3)))) (fun y1 =>
       .br (room ((sr y1).2.2.1.length + 1) 24)
        (.at ((sr y1).2.2.1 ++ [AV.agg [AV.int IntKind.i64 3, AV.int IntKind.i64 (sr y1).2.2.2.1, AV.int IntKind.i64 0]]))
        (.no))
       (.no)))
     (.br (okAt [CS.int IntKind.i64, CS.int IntKind.i64, CS.str, CS.slice 4] x3 0)
      (.bi (G_u153q (intOf (cellAt x3 0 0)) (intOf (cellAt x3 0 1)) (strOf (cellAt x3 0 2)) (viewOf (cellAt x3 0 3)) x4 x5) (fun y1 =>
       .br (room (y1.length + 1) 24)
        (.br (okAt [CS.int IntKind.i64, CS.int IntKind.i64, CS.str, CS.slice 4] x3 1)
         (.bi (G_u153q (intOf (cellAt x3 1 0)) (intOf (cellAt x3 1 1)) (strOf (cellAt x3 1 2)) (viewOf (cellAt x3 1 3)) x4
             (y1 ++ [AV.agg [AV.int IntKind.i64 5, AV.int IntKind.i64 0, AV.int IntKind.i64 0]])) (fun y2 =>
          .br (room (y2.length + 1) 24)
           (.br (inB (y2 ++ [AV.agg [AV.int IntKind.i64 4, AV.int IntKind.i64 0, AV.int IntKind.i64 0]]).length (↑y1.length : Int))
            (.br (okS (y2 ++ [AV.agg [AV.int IntKind.i64 4, AV.int IntKind.i64 0, AV.int IntKind.i64 0]]) (↑y1.length : Int).toNat 1 1)
             (.br (okAt [CS.int IntKind.i64, CS.int IntKind.i64, CS.str, CS.slice 4] x3 2)
              (.bi (G_u153q (intOf (cellAt x3 2 0)) (intOf (cellAt x3 2 1)) (strOf (cellAt x3 2 2)) (viewOf (cellAt x3 2 3)) x4
                  (setE (y2 ++ [AV.agg [AV.int IntKind.i64 4, AV.int IntKind.i64 0, AV.int IntKind.i64 0]]) (↑y1.length : Int).toNat 1
                    [AV.int IntKind.i64 (↑(y2 ++ [AV.agg [AV.int IntKind.i64 4, AV.int IntKind.i64 0, AV.int IntKind.i64 0]]).length : Int)])) (fun y3 =>
               .br (inB y3.length (↑y2.length : Int))
                (.br (okS y3 (↑y2.length : Int).toNat 1 1) (.at (setE y3 (↑y2.length : Int).toNat 1 [AV.int IntKind.i64 (↑y3.length : Int)])) (.no))
                (.no))
               (.no))
              (.no))
             (.no))
            (.no))
           (.no))
          (.no))
         (.no))
        (.no))
       (.no))
      (.no)))))
  (.no)
def N_u153q : Nat → GT_u153q
  | 0 => fun _ _ _ _ _ _ => none
  | n + 1 => fun x0 x1 x2 x3 x4 x5 => (tr_u153q ((N_u153q n)) x0 x1 x2 x3 x4 x5).ev
def f_u153q (x0 x1 : Int) (x2 : List UInt8) (x3 x4 x5 : List AV) : Option B_u153q := limO fun n => (N_u153q n) x0 x1 x2 x3 x4 x5
theorem N_u153q_ok : ∀ n, GH_u153q ((N_u153q n))
  | 0 => (fun v y h => nomatch h)
  | n + 1 => have hG := N_u153q_ok n
    fun_FH (F := F33) (L := [(1003300, ll_u105q ((N_u153q n)))]) (t := (k6 (tr_u153q ((N_u153q n))))) (TG_u153q_ok ((N_u153q n)) hG) (LOk_of (l := [loopAt F33 0]) (by kernel_rfl) ⟨sel_one (by kernel_rfl) (t_u105q ((N_u153q n)) hG), trivial⟩) (by kernel_rfl) (fun v => by kernel_rfl) (fun v => rfl)
theorem c_u153q : FH IP 33 p_u153q r_u153q (k6 f_u153q) := lim_FH (p := p_u153q) (rs := r_u153q) (s := fun n => (k6 ((N_u153q n)))) fun n => (N_u153q_ok n)
def T104 : Tab := (33, FE p_u153q r_u153q (k6 f_u153q)) :: T103
theorem T104_ok : TabOk IP T104 := ⟨FE_ok c_u153q, T103_ok⟩
abbrev B_u169q : Type := List AV
def p_u169q : PArgs := ⟨[.nils 3, .agg [.int .i64, .int .i64, .str, .view 4], .view 2], []⟩
def r_u169q : List PRes := [⟨false, .own 0 0, [(0, .arr 3 false)]⟩]
abbrev GT_u169q : Type := Int → Int → (List UInt8) → (List AV) → (List AV) → Option B_u169q
def GH_u169q (G_u169q : GT_u169q) : Prop := FH IP 33 p_u169q r_u169q (k5 G_u169q)
def TG_u169q (G_u169q : GT_u169q) : Tab := (33, FE p_u169q r_u169q (k5 G_u169q)) :: T104
theorem TG_u169q_ok (G_u169q : GT_u169q) (hG : GH_u169q G_u169q) : TabOk IP (TG_u169q G_u169q) := ⟨FE_ok (hG), T104_ok⟩
abbrev TT_u128q : Type := (List AV × Int × Int × Int × List UInt8 × List AV) ⊕ (List AV × Int × List AV × Int × Int × List UInt8 × List AV)
def hs_u128q : List PSt := [⟨[(1003300, .junk), (0, .nils 3), (2, .view 2), (4, .ref 0 0 0), (8, .int .i64)], [(0, .box [.int .i64, .int .i64, .str, .view 4] false)], 1, 0⟩, ⟨[(1003300, .junk), (0, .own 0 0), (2, .view 2), (4, .ref 1 0 0), (8, .int .i64)], [(0, .arr 3 false), (1, .box [.int .i64, .int .i64, .str, .view 4] false)], 2, 0⟩]
def x_u128q_0 (x0 : List AV) (x1 x2 x3 : Int) (x4 : List UInt8) (x5 : List AV) : X × St := (X.exit 0,
  { tm := [(0, AV.nils { sz := 3, kd := NKd.nil }), (4, AV.ref 0 0 0)], hp := [(0, Blk.box [AV.int IntKind.i64 x2, AV.int IntKind.i64 x3, AV.str x4, AV.view 4 x5] false)], nx := 1,
    k := 0 })
def x_u128q_1 (x0 : List AV) (x1 : Int) (x2 : List AV) (x3 x4 : Int) (x5 : List UInt8) (x6 : List AV) : X × St := (X.exit 0,
  { tm := [(0, AV.own 0 0 none), (4, AV.ref 1 0 0)], hp := [(0, Blk.arr 3 x2 false), (1, Blk.box [AV.int IntKind.i64 x3, AV.int IntKind.i64 x4, AV.str x5, AV.view 4 x6] false)],
    nx := 2, k := 0 })
def x_u128q : List (TT_u128q → X × St) := [fun w => (k6 x_u128q_0) ((sl w)), fun w => (k7 x_u128q_1) ((sr w))]
def st_u128q_0 (G_u169q : GT_u169q) (x0 : List AV) (x1 x2 x3 : Int) (x4 : List UInt8) (x5 : List AV) : DT (Rd TT_u128q) :=
 .br (decide (x1 < (↑x5.length : Int)))
  (.br (okAt [CS.int IntKind.i64, CS.int IntKind.i64, CS.str, CS.slice 4] x5 x1)
   (.bi (G_u169q (intOf (cellAt x5 x1 0)) (intOf (cellAt x5 x1 1)) (strOf (cellAt x5 x1 2)) (viewOf (cellAt x5 x1 3)) x0) (fun y0 =>
    .at (.next ((.inr (x0, IntKind.i64.wrap (x1 + 1), y0, x2, x3, x4, x5)))))
    (.no))
   (.no))
  (.at (.done 0))
def st_u128q_1 (G_u169q : GT_u169q) (x0 : List AV) (x1 : Int) (x2 : List AV) (x3 x4 : Int) (x5 : List UInt8) (x6 : List AV) : DT (Rd TT_u128q) :=
 .br (decide (x1 < (↑x6.length : Int)))
  (.br (okAt [CS.int IntKind.i64, CS.int IntKind.i64, CS.str, CS.slice 4] x6 x1)
   (.bi (f_u153q (intOf (cellAt x6 x1 0)) (intOf (cellAt x6 x1 1)) (strOf (cellAt x6 x1 2)) (viewOf (cellAt x6 x1 3)) x0 x2) (fun y0 =>
    .at (.next ((.inr (x0, IntKind.i64.wrap (x1 + 1), y0, x3, x4, x5, x6)))))
    (.no))
   (.no))
  (.at (.done 1))
def st_u128q (G_u169q : GT_u169q) : TT_u128q → DT (Rd TT_u128q) := (Sum.elim (fun v => st_u128q_0 G_u169q v.1 v.2.1 v.2.2.1 v.2.2.2.1 v.2.2.2.2.1 v.2.2.2.2.2) (fun v => st_u128q_1 G_u169q v.1 v.2.1 v.2.2.1 v.2.2.2.1 v.2.2.2.2.1 v.2.2.2.2.2.1 v.2.2.2.2.2.2))
def l_u128q (G_u169q : GT_u169q) (v : TT_u128q) : Option (Nat × TT_u128q) := lock (iterO (fun v => (st_u128q G_u169q v).ev) v)
theorem l_u128q_eq (G_u169q : GT_u169q) (v : TT_u128q) : l_u128q G_u169q v = iterO (fun v => (st_u128q G_u169q v).ev) v := lock_eq _
def ll_u128q (G_u169q : GT_u169q) : LEnt := LE (τ := TT_u128q) (hD hs_u128q) (l_u128q G_u169q) x_u128q
theorem t_u128q (G_u169q : GT_u169q) (hG : GH_u169q G_u169q) : Go.Eng.Told IP (loopAt F33 0).1 (loopAt F33 0).2 (ll_u128q G_u169q) := loop_LE (inferInstance : Inhabited TT_u128q) (hs := hs_u128q) (st := st_u128q G_u169q) (L := []) (TG_u169q_ok G_u169q hG) (LOk_of (l := []) (by kernel_rfl) trivial) (l_u128q_eq G_u169q) (fun v => match v with | (.inl v) => by kernel_rfl | (.inr v) => by kernel_rfl) (fun v => match v with | (.inl v) => by kernel_rfl | (.inr v) => by kernel_rfl)
def tr_u169q (G_u169q : GT_u169q) (x0 x1 : Int) (x2 : List UInt8) (x3 x4 : List AV) : DT B_u169q :=
 .bi (f_u78q x0) (fun y0 =>
  .br (y0 != 0)
   (.at ([AV.agg [AV.int IntKind.i64 1, AV.int IntKind.i64 y0, AV.int IntKind.i64 x1]]))
   (.br (x0 == 4)
    (.bi (f_u154q x4 x2) (fun y1 =>
     .at ([AV.agg [AV.int IntKind.i64 2, AV.int IntKind.i64 y1, AV.int IntKind.i64 0]]))
     (.no))
    (.br (x0 != 19)
     (.bi (pj 0 (l_u128q G_u169q (Sum.inl (x4, 0, x0, x1, x2, x3)))) (fun y1 =>
      .at ([AV.agg [AV.int IntKind.i64 3, AV.int IntKind.i64 (sl y1).2.2.1, AV.int IntKind.i64 0]]))
      (.bi (pj 1 (l_u128q G_u169q (Sum.inl (x4, 0, x0, x1, x2, x3)))) (fun y1 =>
       .br (room ((sr y1).2.2.1.length + 1) 24)
        (.at ((sr y1).2.2.1 ++ [AV.agg [AV.int IntKind.i64 3, AV.int IntKind.i64 (sr y1).2.2.2.1, AV.int IntKind.i64 0]]))
        (.no))
       (.no)))
     (.br (okAt [CS.int IntKind.i64, CS.int IntKind.i64, CS.str, CS.slice 4] x3 0)
      (.bi (G_u169q (intOf (cellAt x3 0 0)) (intOf (cellAt x3 0 1)) (strOf (cellAt x3 0 2)) (viewOf (cellAt x3 0 3)) x4) (fun y1 =>
       .br (room (y1.length + 1) 24)
        (.br (okAt [CS.int IntKind.i64, CS.int IntKind.i64, CS.str, CS.slice 4] x3 1)
         (.bi (f_u153q (intOf (cellAt x3 1 0)) (intOf (cellAt x3 1 1)) (strOf (cellAt x3 1 2)) (viewOf (cellAt x3 1 3)) x4
             (y1 ++ [AV.agg [AV.int IntKind.i64 5, AV.int IntKind.i64 0, AV.int IntKind.i64 0]])) (fun y2 =>
          .br (room (y2.length + 1) 24)
           (.br (inB (y2 ++ [AV.agg [AV.int IntKind.i64 4, AV.int IntKind.i64 0, AV.int IntKind.i64 0]]).length (↑y1.length : Int))
            (.br (okS (y2 ++ [AV.agg [AV.int IntKind.i64 4, AV.int IntKind.i64 0, AV.int IntKind.i64 0]]) (↑y1.length : Int).toNat 1 1)
             (.br (okAt [CS.int IntKind.i64, CS.int IntKind.i64, CS.str, CS.slice 4] x3 2)
              (.bi (f_u153q (intOf (cellAt x3 2 0)) (intOf (cellAt x3 2 1)) (strOf (cellAt x3 2 2)) (viewOf (cellAt x3 2 3)) x4
                  (setE (y2 ++ [AV.agg [AV.int IntKind.i64 4, AV.int IntKind.i64 0, AV.int IntKind.i64 0]]) (↑y1.length : Int).toNat 1
                    [AV.int IntKind.i64 (↑(y2 ++ [AV.agg [AV.int IntKind.i64 4, AV.int IntKind.i64 0, AV.int IntKind.i64 0]]).length : Int)])) (fun y3 =>
               .br (inB y3.length (↑y2.length : Int))
                (.br (okS y3 (↑y2.length : Int).toNat 1 1) (.at (setE y3 (↑y2.length : Int).toNat 1 [AV.int IntKind.i64 (↑y3.length : Int)])) (.no))
                (.no))
               (.no))
              (.no))
             (.no))
            (.no))
           (.no))
          (.no))
         (.no))
        (.no))
       (.no))
      (.no)))))
  (.no)
def N_u169q : Nat → GT_u169q
  | 0 => fun _ _ _ _ _ => none
  | n + 1 => fun x0 x1 x2 x3 x4 => (tr_u169q ((N_u169q n)) x0 x1 x2 x3 x4).ev
def f_u169q (x0 x1 : Int) (x2 : List UInt8) (x3 x4 : List AV) : Option B_u169q := limO fun n => (N_u169q n) x0 x1 x2 x3 x4
theorem N_u169q_ok : ∀ n, GH_u169q ((N_u169q n))
  | 0 => (fun v y h => nomatch h)
  | n + 1 => have hG := N_u169q_ok n
    fun_FH (F := F33) (L := [(1003300, ll_u128q ((N_u169q n)))]) (t := (k5 (tr_u169q ((N_u169q n))))) (TG_u169q_ok ((N_u169q n)) hG) (LOk_of (l := [loopAt F33 0]) (by kernel_rfl) ⟨sel_one (by kernel_rfl) (t_u128q ((N_u169q n)) hG), trivial⟩) (by kernel_rfl) (fun v => by kernel_rfl) (fun v => rfl)
theorem c_u169q : FH IP 33 p_u169q r_u169q (k5 f_u169q) := lim_FH (p := p_u169q) (rs := r_u169q) (s := fun n => (k5 ((N_u169q n)))) fun n => (N_u169q_ok n)
def T105 : Tab := (33, FE p_u169q r_u169q (k5 f_u169q)) :: T104
theorem T105_ok : TabOk IP T105 := ⟨FE_ok c_u169q, T104_ok⟩
abbrev B_u103q : Type := Int × List AV × List AV × Int
def p_u103q : PArgs := ⟨[.agg [.int .i64, .int .i64, .str, .view 4], .view 2], []⟩
def r_u103q : List PRes := [⟨false, .tup [.agg [.int .i64, .view 2, .view 3], .int .i64], []⟩]
def tr_u103q (x0 x1 : Int) (x2 : List UInt8) (x3 x4 : List AV) : DT B_u103q :=
 .bi (f_u165q x4) (fun y0 =>
  .br (y0 != 0)
   (.at ((0, [], [], y0)))
   (.bi (f_u175q x0 x1 x2 x3 x4) (fun y1 =>
    .br (y1.2 != 0)
     (.at ((0, [], [], y1.2)))
     (.br (decide (x4.length = 0) && decide (2 = 2))
      (.bi (f_u169q x0 x1 x2 x3 x4) (fun y2 =>
       .at ((y1.1, [], y2, 0)))
       (.no))
      (.br (decide (x4.length ≠ 0) && room x4.length 24)
       (.bi (f_u169q x0 x1 x2 x3 x4) (fun y2 =>
        .at ((y1.1, x4, y2, 0)))
        (.no))
       (.no))))
    (.no)))
  (.no)
def f_u103q (x0 x1 : Int) (x2 : List UInt8) (x3 x4 : List AV) : Option B_u103q := lock (tr_u103q x0 x1 x2 x3 x4).ev
theorem f_u103q_eq (x0 x1 : Int) (x2 : List UInt8) (x3 x4 : List AV) : f_u103q x0 x1 x2 x3 x4 = (tr_u103q x0 x1 x2 x3 x4).ev := lock_eq _
theorem c_u103q : FH IP 13 p_u103q r_u103q (k5 f_u103q) := fun_FH (F := F13) (L := []) (t := (k5 tr_u103q)) T105_ok (LOk_of (l := []) (by kernel_rfl) trivial) (by kernel_rfl) (fun v => by kernel_rfl) (fun _ => lock_eq _)
def T106 : Tab := (13, FE p_u103q r_u103q (k5 f_u103q)) :: T105
theorem T106_ok : TabOk IP T106 := ⟨FE_ok c_u103q, T105_ok⟩
abbrev TT_u126q : Type := Int × Int × List AV × List AV × Int × List AV × List AV
def hs_u126q : List PSt := [⟨[(1001400, .junk), (2, .ref 0 0 0), (3, .ref 1 0 0), (5, .int .i64)], [(0, .box [.int .i64, .view 2, .view 3] false), (1, .box [.int .i64, .view 2, .view 3] false)], 2, 0⟩]
def x_u126q_0 (x0 x1 : Int) (x2 x3 : List AV) (x4 : Int) (x5 x6 : List AV) : X × St := (X.ret,
  { tm := [(2, AV.ref 0 0 0), (3, AV.ref 1 0 0), (4, AV.bool false)],
    hp := [(0, Blk.box [AV.int IntKind.i64 x1, AV.view 2 x2, AV.view 3 x3] false), (1, Blk.box [AV.int IntKind.i64 x4, AV.view 2 x5, AV.view 3 x6] false)], nx := 2, k := 0 })
def x_u126q_1 (x0 x1 : Int) (x2 x3 : List AV) (x4 : Int) (x5 x6 : List AV) : X × St := (X.exit 0,
  { tm := [(2, AV.ref 0 0 0), (3, AV.ref 1 0 0), (4, AV.junk)],
    hp := [(0, Blk.box [AV.int IntKind.i64 x1, AV.view 2 x2, AV.view 3 x3] false), (1, Blk.box [AV.int IntKind.i64 x4, AV.view 2 x5, AV.view 3 x6] false)], nx := 2, k := 0 })
def x_u126q : List (TT_u126q → X × St) := [(k7 x_u126q_0), (k7 x_u126q_1)]
def st_u126q_0 (x0 x1 : Int) (x2 x3 : List AV) (x4 : Int) (x5 x6 : List AV) : DT (Rd TT_u126q) :=
 .br (decide (x0 < (↑x2.length : Int)))
  (.br (okAt [CS.str, CS.int IntKind.i64] x2 x0)
   (.br (okAt [CS.str, CS.int IntKind.i64] x5 x0)
    (.br (if true = true then !(strOf (cellAt x2 x0 0) == strOf (cellAt x5 x0 0) && (intOf (cellAt x2 x0 1) == intOf (cellAt x5 x0 1) && true))
      else strOf (cellAt x2 x0 0) == strOf (cellAt x5 x0 0) && (intOf (cellAt x2 x0 1) == intOf (cellAt x5 x0 1) && true))
     (.at (.done 0))
     (.at (.next ((IntKind.i64.wrap (x0 + 1), x1, x2, x3, x4, x5, x6)))))
    (.no))
   (.no))
  (.at (.done 1))
def st_u126q : TT_u126q → DT (Rd TT_u126q) := (fun v => st_u126q_0 v.1 v.2.1 v.2.2.1 v.2.2.2.1 v.2.2.2.2.1 v.2.2.2.2.2.1 v.2.2.2.2.2.2)
def l_u126q (v : TT_u126q) : Option (Nat × TT_u126q) := lock (iterO (fun v => (st_u126q v).ev) v)
theorem l_u126q_eq (v : TT_u126q) : l_u126q v = iterO (fun v => (st_u126q v).ev) v := lock_eq _
def ll_u126q : LEnt := LE (τ := TT_u126q) (hD hs_u126q) (l_u126q) x_u126q
theorem t_u126q : Go.Eng.Told IP (loopAt F14 0).1 (loopAt F14 0).2 (ll_u126q) := loop_LE (inferInstance : Inhabited TT_u126q) (hs := hs_u126q) (st := st_u126q) (L := []) T106_ok (LOk_of (l := []) (by kernel_rfl) trivial) (l_u126q_eq) (fun v => by kernel_rfl) (fun v => by kernel_rfl)
abbrev TT_u127q : Type := Int × Int × List AV × List AV × Int × List AV × List AV
def hs_u127q : List PSt := [⟨[(1001401, .junk), (2, .ref 0 0 0), (3, .ref 1 0 0), (6, .int .i64)], [(0, .box [.int .i64, .view 2, .view 3] false), (1, .box [.int .i64, .view 2, .view 3] false)], 2, 0⟩]
def x_u127q_0 (x0 x1 : Int) (x2 x3 : List AV) (x4 : Int) (x5 x6 : List AV) : X × St := (X.ret, { tm := [(4, AV.bool false)], hp := [], nx := 0, k := 0 })
def x_u127q_1 (x0 x1 : Int) (x2 x3 : List AV) (x4 : Int) (x5 x6 : List AV) : X × St := (X.exit 2, { tm := [(4, AV.junk)], hp := [], nx := 0, k := 0 })
def x_u127q : List (TT_u127q → X × St) := [(k7 x_u127q_0), (k7 x_u127q_1)]
def st_u127q_0 (x0 x1 : Int) (x2 x3 : List AV) (x4 : Int) (x5 x6 : List AV) : DT (Rd TT_u127q) :=
 .br (decide (x0 < (↑x3.length : Int)))
  (.br (okAt [CS.int IntKind.i64, CS.int IntKind.i64, CS.int IntKind.i64] x3 x0)
   (.br (okAt [CS.int IntKind.i64, CS.int IntKind.i64, CS.int IntKind.i64] x6 x0)
    (.br (if true = true then
        !(intOf (cellAt x3 x0 0) == intOf (cellAt x6 x0 0) && (intOf (cellAt x3 x0 1) == intOf (cellAt x6 x0 1) && (intOf (cellAt x3 x0 2) == intOf (cellAt x6 x0 2) && true)))
      else intOf (cellAt x3 x0 0) == intOf (cellAt x6 x0 0) && (intOf (cellAt x3 x0 1) == intOf (cellAt x6 x0 1) && (intOf (cellAt x3 x0 2) == intOf (cellAt x6 x0 2) && true)))
     (.at (.done 0))
     (.at (.next ((IntKind.i64.wrap (x0 + 1), x1, x2, x3, x4, x5, x6)))))
    (.no))
   (.no))
  (.at (.done 1))
def st_u127q : TT_u127q → DT (Rd TT_u127q) := (fun v => st_u127q_0 v.1 v.2.1 v.2.2.1 v.2.2.2.1 v.2.2.2.2.1 v.2.2.2.2.2.1 v.2.2.2.2.2.2)
def l_u127q (v : TT_u127q) : Option (Nat × TT_u127q) := lock (iterO (fun v => (st_u127q v).ev) v)
theorem l_u127q_eq (v : TT_u127q) : l_u127q v = iterO (fun v => (st_u127q v).ev) v := lock_eq _
def ll_u127q : LEnt := LE (τ := TT_u127q) (hD hs_u127q) (l_u127q) x_u127q
theorem t_u127q : Go.Eng.Told IP (loopAt F14 1).1 (loopAt F14 1).2 (ll_u127q) := loop_LE (inferInstance : Inhabited TT_u127q) (hs := hs_u127q) (st := st_u127q) (L := []) T106_ok (LOk_of (l := []) (by kernel_rfl) trivial) (l_u127q_eq) (fun v => by kernel_rfl) (fun v => by kernel_rfl)
abbrev B_u168q : Type := Bool
def p_u168q : PArgs := ⟨[.agg [.int .i64, .view 2, .view 3], .agg [.int .i64, .view 2, .view 3]], []⟩
def r_u168q : List PRes := [⟨false, .bool, []⟩]
def tr_u168q (x0 : Int) (x1 x2 : List AV) (x3 : Int) (x4 x5 : List AV) : DT B_u168q :=
 .bi (br (x0 != x3) (some true) (some ((↑x1.length : Int) != (↑x4.length : Int)))) (fun y0 =>
  .bi (br y0 (some true) (some ((↑x2.length : Int) != (↑x5.length : Int)))) (fun y1 =>
   .br (y1)
    (.at (false))
    (.bi (pj 0 (l_u126q (0, x0, x1, x2, x3, x4, x5))) (fun y2 =>
     .at (false))
     (.bi (pj 1 (l_u126q (0, x0, x1, x2, x3, x4, x5))) (fun y2 =>
      .bi (pj 0 (l_u127q (0, y2.2.1, y2.2.2.1, y2.2.2.2.1, y2.2.2.2.2.1, y2.2.2.2.2.2.1, y2.2.2.2.2.2.2))) (fun y3 =>
       .at (false))
       (.bi (pj 1 (l_u127q (0, y2.2.1, y2.2.2.1, y2.2.2.2.1, y2.2.2.2.2.1, y2.2.2.2.2.2.1, y2.2.2.2.2.2.2))) (fun y3 =>
        .at (true))
        (.no)))
      (.no))))
   (.no))
  (.no)
def f_u168q (x0 : Int) (x1 x2 : List AV) (x3 : Int) (x4 x5 : List AV) : Option B_u168q := lock (tr_u168q x0 x1 x2 x3 x4 x5).ev
theorem f_u168q_eq (x0 : Int) (x1 x2 : List AV) (x3 : Int) (x4 x5 : List AV) : f_u168q x0 x1 x2 x3 x4 x5 = (tr_u168q x0 x1 x2 x3 x4 x5).ev := lock_eq _
theorem c_u168q : FH IP 14 p_u168q r_u168q (k6 f_u168q) := fun_FH (F := F14) (L := [(1001400, ll_u126q), (1001401, ll_u127q)]) (t := (k6 tr_u168q)) T106_ok (LOk_of (l := [loopAt F14 0, loopAt F14 1]) (by kernel_rfl) ⟨sel_one (by kernel_rfl) t_u126q, sel_one (by kernel_rfl) t_u127q, trivial⟩) (by kernel_rfl) (fun v => by kernel_rfl) (fun _ => lock_eq _)
def T107 : Tab := (14, FE p_u168q r_u168q (k6 f_u168q)) :: T106
theorem T107_ok : TabOk IP T107 := ⟨FE_ok c_u168q, T106_ok⟩
abbrev B_u36q : Type := Bool
def p_u36q : PArgs := ⟨[.agg [.int .i64, .int .i64, .str, .view 4], .view 2], []⟩
def r_u36q : List PRes := [⟨false, .bool, []⟩]
def tr_u36q (x0 x1 : Int) (x2 : List UInt8) (x3 x4 : List AV) : DT B_u36q :=
 .bi (f_u142q x0 x1 x2 x3) (fun y0 =>
  .bi (br (!y0) (some true) (some (decide ((↑x4.length : Int) > 100)))) (fun y1 =>
   .br (y1)
    (.bi (f_u141q) (fun y2 =>
     .at (y2))
     (.no))
    (.bi (f_u80q x0 x1 x2 x3 x4) (fun y2 =>
     .bi (f_u103q x0 x1 x2 x3 x4) (fun y3 =>
      .bi (f_u168q y2.1 y2.2.1 y2.2.2.1 y3.1 y3.2.1 y3.2.2.1) (fun y4 =>
       .bi (br y4 (some (y2.2.2.2 == y3.2.2.2)) (some false)) (fun y5 =>
        .bi (br y5 (br (sm f_u141q) (some (gv f_u141q)) none) (some false)) (fun y6 =>
         .at (y6))
         (.no))
        (.no))
       (.no))
      (.no))
     (.no)))
   (.no))
  (.no)
def f_u36q (x0 x1 : Int) (x2 : List UInt8) (x3 x4 : List AV) : Option B_u36q := lock (tr_u36q x0 x1 x2 x3 x4).ev
theorem f_u36q_eq (x0 x1 : Int) (x2 : List UInt8) (x3 x4 : List AV) : f_u36q x0 x1 x2 x3 x4 = (tr_u36q x0 x1 x2 x3 x4).ev := lock_eq _
theorem c_u36q : FH IP 3 p_u36q r_u36q (k5 f_u36q) := fun_FH (F := F3) (L := []) (t := (k5 tr_u36q)) T107_ok (LOk_of (l := []) (by kernel_rfl) trivial) (by kernel_rfl) (fun v => by kernel_rfl) (fun _ => lock_eq _)
end
end Go.Proofs.H12

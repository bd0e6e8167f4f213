/- Functions over plain data. Printed by a program of mine. -/
import Derived.Test.YtlgbnjnkcoiceaaGreatDoorD12_3
import Derived.KernelRfl
set_option linter.unusedVariables false
set_option linter.unusedSimpArgs false
set_option linter.unnecessarySimpa false
namespace Go.Proofs.H12
open Go Go.Eng
set_option maxRecDepth 100000
noncomputable section
abbrev TT_u7q : Type := List AV × Int × Int × List UInt8 × List AV × Int × Int
def hs_u7q : List PSt := [⟨[(1004800, .junk), (0, .view 2), (1, .fn (.func 49) [.ptr [.int .i64, .int .i64, .str, .view 4]]), (7, .int .i64), (8, .int .i64)], [], 0, 0⟩]
def x_u7q_0 (x0 : List AV) (x1 x2 : Int) (x3 : List UInt8) (x4 : List AV) (x5 x6 : Int) : X × St := (X.ret, { tm := [(4, AV.int IntKind.i64 x6)], hp := [], nx := 0, k := 0 })
def x_u7q_1 (x0 : List AV) (x1 x2 : Int) (x3 : List UInt8) (x4 : List AV) (x5 x6 : Int) : X × St := (X.exit 0, { tm := [(4, AV.junk)], hp := [], nx := 0, k := 0 })
def x_u7q : List (TT_u7q → X × St) := [(k7 x_u7q_0), (k7 x_u7q_1)]
def st_u7q_0 (x0 : List AV) (x1 x2 : Int) (x3 : List UInt8) (x4 : List AV) (x5 x6 : Int) : DT (Rd TT_u7q) :=
 .br (decide (x6 < x5))
  (.br (okAt [CS.str, CS.int IntKind.i64] x0 x6)
   (.bi (f_u23q (strOf (cellAt x0 x6 0)) (intOf (cellAt x0 x6 1)) x1 x2 x3 x4) (fun y0 =>
    .br (y0) (.at (.done 0)) (.at (.next ((x0, x1, x2, x3, x4, x5, IntKind.i64.wrap (x6 + 1))))))
    (.no))
   (.no))
  (.at (.done 1))
def st_u7q : TT_u7q → DT (Rd TT_u7q) := (fun v => st_u7q_0 v.1 v.2.1 v.2.2.1 v.2.2.2.1 v.2.2.2.2.1 v.2.2.2.2.2.1 v.2.2.2.2.2.2)
def l_u7q (v : TT_u7q) : Option (Nat × TT_u7q) := lock (iterO (fun v => (st_u7q v).ev) v)
theorem l_u7q_eq (v : TT_u7q) : l_u7q v = iterO (fun v => (st_u7q v).ev) v := lock_eq _
def ll_u7q : LEnt := LE (τ := TT_u7q) (hD hs_u7q) (l_u7q) x_u7q
theorem t_u7q : Go.Eng.Told IP (loopAt F48 0).1 (loopAt F48 0).2 (ll_u7q) := loop_LE (inferInstance : Inhabited TT_u7q) (hs := hs_u7q) (st := st_u7q) (L := []) T58_ok (LOk_of (l := []) (by kernel_rfl) trivial) (l_u7q_eq) (fun v => by kernel_rfl) (fun v => by kernel_rfl)
abbrev B_u9q : Type := Int
def p_u9q : PArgs := ⟨[.view 2, .fn (.func 49) [.ptr [.int .i64, .int .i64, .str, .view 4]]], []⟩
def r_u9q : List PRes := [⟨false, .int .i64, []⟩]
def tr_u9q (x0 : List AV) (x1 x2 : Int) (x3 : List UInt8) (x4 : List AV) : DT B_u9q :=
 .bi (pj 0 (l_u7q (x0, x1, x2, x3, x4, (↑x0.length : Int), 0))) (fun y0 =>
  .at (y0.2.2.2.2.2.2))
  (.bi (pj 1 (l_u7q (x0, x1, x2, x3, x4, (↑x0.length : Int), 0))) (fun y0 =>
   .at (-1))
   (.no))
def f_u9q (x0 : List AV) (x1 x2 : Int) (x3 : List UInt8) (x4 : List AV) : Option B_u9q := lock (tr_u9q x0 x1 x2 x3 x4).ev
theorem f_u9q_eq (x0 : List AV) (x1 x2 : Int) (x3 : List UInt8) (x4 : List AV) : f_u9q x0 x1 x2 x3 x4 = (tr_u9q x0 x1 x2 x3 x4).ev := lock_eq _
theorem c_u9q : FH IP 48 p_u9q r_u9q (k5 f_u9q) := fun_FH (F := F48) (L := [(1004800, ll_u7q)]) (t := (k5 tr_u9q)) T58_ok (LOk_of (l := [loopAt F48 0]) (by kernel_rfl) ⟨sel_one (by kernel_rfl) t_u7q, trivial⟩) (by kernel_rfl) (fun v => by kernel_rfl) (fun _ => lock_eq _)
def T59 : Tab := (48, FE p_u9q r_u9q (k5 f_u9q)) :: T58
theorem T59_ok : TabOk IP T59 := ⟨FE_ok c_u9q, T58_ok⟩
abbrev B_u25q : Type := Int × List AV × List AV
def p_u25q : PArgs := ⟨[.ref 0 0 0, .int .i64, .int .i64, .int .i64], [(0, .box [.view 2, .own 1 0] false), (1, .arr 3 false)]⟩
def r_u25q : List PRes := [⟨false, .int .i64, [(0, .box [.view 2, .own 2 0] false), (2, .arr 3 false)]⟩]
def tr_u25q (x0 x1 x2 : Int) (x3 x4 : List AV) : DT B_u25q :=
 .br (room (x4.length + 1) 24)
  (.at ((IntKind.i64.wrap ((↑(x4 ++ [AV.agg [AV.int IntKind.i64 x0, AV.int IntKind.i64 x1, AV.int IntKind.i64 x2]]).length : Int) - 1), x3, x4 ++ [AV.agg [AV.int IntKind.i64 x0, AV.int IntKind.i64 x1, AV.int IntKind.i64 x2]])))
  (.no)
def f_u25q (x0 x1 x2 : Int) (x3 x4 : List AV) : Option B_u25q := lock (tr_u25q x0 x1 x2 x3 x4).ev
theorem f_u25q_eq (x0 x1 x2 : Int) (x3 x4 : List AV) : f_u25q x0 x1 x2 x3 x4 = (tr_u25q x0 x1 x2 x3 x4).ev := lock_eq _
theorem c_u25q : FH IP 47 p_u25q r_u25q (k5 f_u25q) := fun_FH (F := F47) (L := []) (t := (k5 tr_u25q)) T59_ok (LOk_of (l := []) (by kernel_rfl) trivial) (by kernel_rfl) (fun v => by kernel_rfl) (fun _ => lock_eq _)
def T60 : Tab := (47, FE p_u25q r_u25q (k5 f_u25q)) :: T59
theorem T60_ok : TabOk IP T60 := ⟨FE_ok c_u25q, T59_ok⟩
abbrev B_u26q : Type := List AV × List AV
def p_u26q : PArgs := ⟨[.ref 0 0 0, .agg [.int .i64, .int .i64, .str, .view 4]], [(0, .box [.view 2, .own 1 0] false), (1, .arr 3 false)]⟩
def r_u26q : List PRes := [⟨false, .tup [], [(0, .box [.view 2, .own 2 0] false), (2, .arr 3 false)]⟩]
abbrev GT_u26q : Type := Int → Int → (List UInt8) → (List AV) → (List AV) → (List AV) → Option B_u26q
def GH_u26q (G_u26q : GT_u26q) : Prop := FH IP 31 p_u26q r_u26q (k6 G_u26q)
def TG_u26q (G_u26q : GT_u26q) : Tab := (31, FE p_u26q r_u26q (k6 G_u26q)) :: T60
theorem TG_u26q_ok (G_u26q : GT_u26q) (hG : GH_u26q G_u26q) : TabOk IP (TG_u26q G_u26q) := ⟨FE_ok (hG), T60_ok⟩
abbrev TT_u21q : Type := (List AV × Int × Int × List AV × List AV × Int × Int × List UInt8 × List AV) ⊕ (List AV × Int × Int × List AV × Int × Int × List UInt8 × List AV × List AV)
def hs_u21q : List PSt := [⟨[(1003100, .junk), (0, .ref 0 0 0), (3, .ref 2 0 0), (11, .view 4), (12, .int .i64), (13, .int .i64)], [(0, .box [.view 2, .own 1 0] false), (1, .arr 3 false), (2, .box [.int .i64, .int .i64, .str, .view 4] false)], 3, 2⟩, ⟨[(1003100, .junk), (0, .ref 0 0 0), (3, .ref 2 0 0), (11, .view 4), (12, .int .i64), (13, .int .i64)], [(0, .box [.view 2, .own 3 0] false), (2, .box [.int .i64, .int .i64, .str, .view 4] false), (3, .arr 3 false)], 4, 2⟩]
def x_u21q_0 (x0 : List AV) (x1 x2 : Int) (x3 x4 : List AV) (x5 x6 : Int) (x7 : List UInt8) (x8 : List AV) : X × St := (X.exit 1,
  { tm := [(0, AV.ref 0 0 0), (3, AV.ref 2 0 0)],
    hp := [(0, Blk.box [AV.view 2 x3, AV.own 1 0 none] false), (1, Blk.arr 3 x4 false), (2, Blk.box [AV.int IntKind.i64 x5, AV.int IntKind.i64 x6, AV.str x7, AV.view 4 x8] false)],
    nx := 3, k := 2 })
def x_u21q_1 (x0 : List AV) (x1 x2 : Int) (x3 : List AV) (x4 x5 : Int) (x6 : List UInt8) (x7 x8 : List AV) : X × St := (X.exit 1,
  { tm := [(0, AV.ref 0 0 0), (3, AV.ref 2 0 0)],
    hp := [(0, Blk.box [AV.view 2 x3, AV.own 3 0 none] false), (2, Blk.box [AV.int IntKind.i64 x4, AV.int IntKind.i64 x5, AV.str x6, AV.view 4 x7] false), (3, Blk.arr 3 x8 false)],
    nx := 4, k := 2 })
def x_u21q : List (TT_u21q → X × St) := [fun w => (k9 x_u21q_0) ((sl w)), fun w => (k9 x_u21q_1) ((sr w))]
def st_u21q_0 (G_u26q : GT_u26q) (x0 : List AV) (x1 x2 : Int) (x3 x4 : List AV) (x5 x6 : Int) (x7 : List UInt8) (x8 : List AV) : DT (Rd TT_u21q) :=
 .br (decide (x2 < x1))
  (.br (okAt [CS.int IntKind.i64, CS.int IntKind.i64, CS.str, CS.slice 4] x0 x2)
   (.bi (G_u26q (intOf (cellAt x0 x2 0)) (intOf (cellAt x0 x2 1)) (strOf (cellAt x0 x2 2)) (viewOf (cellAt x0 x2 3)) x3 x4) (fun y0 =>
    .at (.next ((.inr (x0, x1, IntKind.i64.wrap (x2 + 1), y0.1, x5, x6, x7, x8, y0.2)))))
    (.no))
   (.no))
  (.at (.done 0))
def st_u21q_1 (G_u26q : GT_u26q) (x0 : List AV) (x1 x2 : Int) (x3 : List AV) (x4 x5 : Int) (x6 : List UInt8) (x7 x8 : List AV) : DT (Rd TT_u21q) :=
 .br (decide (x2 < x1))
  (.br (okAt [CS.int IntKind.i64, CS.int IntKind.i64, CS.str, CS.slice 4] x0 x2)
   (.bi (G_u26q (intOf (cellAt x0 x2 0)) (intOf (cellAt x0 x2 1)) (strOf (cellAt x0 x2 2)) (viewOf (cellAt x0 x2 3)) x3 x8) (fun y0 =>
    .at (.next ((.inr (x0, x1, IntKind.i64.wrap (x2 + 1), y0.1, x4, x5, x6, x7, y0.2)))))
    (.no))
   (.no))
  (.at (.done 1))
def st_u21q (G_u26q : GT_u26q) : TT_u21q → DT (Rd TT_u21q) := (Sum.elim (fun v => st_u21q_0 G_u26q v.1 v.2.1 v.2.2.1 v.2.2.2.1 v.2.2.2.2.1 v.2.2.2.2.2.1 v.2.2.2.2.2.2.1 v.2.2.2.2.2.2.2.1 v.2.2.2.2.2.2.2.2) (fun v => st_u21q_1 G_u26q v.1 v.2.1 v.2.2.1 v.2.2.2.1 v.2.2.2.2.1 v.2.2.2.2.2.1 v.2.2.2.2.2.2.1 v.2.2.2.2.2.2.2.1 v.2.2.2.2.2.2.2.2))
def l_u21q (G_u26q : GT_u26q) (v : TT_u21q) : Option (Nat × TT_u21q) := lock (iterO (fun v => (st_u21q G_u26q v).ev) v)
theorem l_u21q_eq (G_u26q : GT_u26q) (v : TT_u21q) : l_u21q G_u26q v = iterO (fun v => (st_u21q G_u26q v).ev) v := lock_eq _
def ll_u21q (G_u26q : GT_u26q) : LEnt := LE (τ := TT_u21q) (hD hs_u21q) (l_u21q G_u26q) x_u21q
theorem t_u21q (G_u26q : GT_u26q) (hG : GH_u26q G_u26q) : Go.Eng.Told IP (loopAt F31 0).1 (loopAt F31 0).2 (ll_u21q G_u26q) := loop_LE (inferInstance : Inhabited TT_u21q) (hs := hs_u21q) (st := st_u21q G_u26q) (L := []) (TG_u26q_ok G_u26q hG) (LOk_of (l := []) (by kernel_rfl) trivial) (l_u21q_eq G_u26q) (fun v => match v with | (.inl v) => by kernel_rfl | (.inr v) => by kernel_rfl) (fun v => match v with | (.inl v) => by kernel_rfl | (.inr v) => by kernel_rfl)
def tr_u26q (G_u26q : GT_u26q) (x0 x1 : Int) (x2 : List UInt8) (x3 x4 x5 : List AV) : DT B_u26q :=
 .br (x0 == 1)
  (.bi (f_u25q 1 1 x1 x4 x5) (fun y0 =>
   .at ((y0.2.1, y0.2.2)))
   (.no))
  (.br (x0 == 2)
   (.bi (f_u25q 1 2 x1 x4 x5) (fun y0 =>
    .at ((y0.2.1, y0.2.2)))
    (.no))
   (.br (x0 == 3)
    (.bi (f_u25q 1 3 x1 x4 x5) (fun y0 =>
     .at ((y0.2.1, y0.2.2)))
     (.no))
    (.br (x0 == 4)
     (.bi (f_u9q x4 x0 x1 x2 x3) (fun y0 =>
      .bi (f_u25q 2 y0 0 x4 x5) (fun y1 =>
       .at ((y1.2.1, y1.2.2)))
       (.no))
      (.no))
     (.br (x0 == 19)
      (.br (okAt [CS.int IntKind.i64, CS.int IntKind.i64, CS.str, CS.slice 4] x3 0)
       (.bi (G_u26q (intOf (cellAt x3 0 0)) (intOf (cellAt x3 0 1)) (strOf (cellAt x3 0 2)) (viewOf (cellAt x3 0 3)) x4 x5) (fun y0 =>
        .bi (f_u25q 5 0 0 y0.1 y0.2) (fun y1 =>
         .br (okAt [CS.int IntKind.i64, CS.int IntKind.i64, CS.str, CS.slice 4] x3 1)
          (.bi (G_u26q (intOf (cellAt x3 1 0)) (intOf (cellAt x3 1 1)) (strOf (cellAt x3 1 2)) (viewOf (cellAt x3 1 3)) y1.2.1 y1.2.2) (fun y2 =>
           .bi (f_u25q 4 0 0 y2.1 y2.2) (fun y3 =>
            .br (inB y3.2.2.length y1.1)
             (.br (okS y3.2.2 y1.1.toNat 1 1)
              (.br (okAt [CS.int IntKind.i64, CS.int IntKind.i64, CS.str, CS.slice 4] x3 2)
               (.bi (G_u26q (intOf (cellAt x3 2 0)) (intOf (cellAt x3 2 1)) (strOf (cellAt x3 2 2)) (viewOf (cellAt x3 2 3)) y3.2.1
                   (setE y3.2.2 y1.1.toNat 1 [AV.int IntKind.i64 (↑y3.2.2.length : Int)])) (fun y4 =>
                .br (inB y4.2.length y3.1)
                 (.br (okS y4.2 y3.1.toNat 1 1) (.at ((y4.1, setE y4.2 y3.1.toNat 1 [AV.int IntKind.i64 (↑y4.2.length : Int)]))) (.no))
                 (.no))
                (.no))
               (.no))
              (.no))
             (.no))
            (.no))
           (.no))
          (.no))
         (.no))
        (.no))
       (.no))
      (.bi (pj 0 (l_u21q G_u26q (Sum.inl (x3, (↑x3.length : Int), 0, x4, x5, x0, x1, x2, x3)))) (fun y0 =>
       .bi (f_u25q 3 (sl y0).2.2.2.2.2.1 0 (sl y0).2.2.2.1 (sl y0).2.2.2.2.1) (fun y1 =>
        .at ((y1.2.1, y1.2.2)))
        (.no))
       (.bi (pj 1 (l_u21q G_u26q (Sum.inl (x3, (↑x3.length : Int), 0, x4, x5, x0, x1, x2, x3)))) (fun y0 =>
        .bi (f_u25q 3 (sr y0).2.2.2.2.1 0 (sr y0).2.2.2.1 (sr y0).2.2.2.2.2.2.2.2) (fun y1 =>
         .at ((y1.2.1, y1.2.2)))
         (.no))
        (.no)))))))
def N_u26q : Nat → GT_u26q
  | 0 => fun _ _ _ _ _ _ => none
  | n + 1 => fun x0 x1 x2 x3 x4 x5 => (tr_u26q ((N_u26q n)) x0 x1 x2 x3 x4 x5).ev
def f_u26q (x0 x1 : Int) (x2 : List UInt8) (x3 x4 x5 : List AV) : Option B_u26q := limO fun n => (N_u26q n) x0 x1 x2 x3 x4 x5
theorem N_u26q_ok : ∀ n, GH_u26q ((N_u26q n))
  | 0 => (fun v y h => nomatch h)
  | n + 1 => have hG := N_u26q_ok n
    fun_FH (F := F31) (L := [(1003100, ll_u21q ((N_u26q n)))]) (t := (k6 (tr_u26q ((N_u26q n))))) (TG_u26q_ok ((N_u26q n)) hG) (LOk_of (l := [loopAt F31 0]) (by kernel_rfl) ⟨sel_one (by kernel_rfl) (t_u21q ((N_u26q n)) hG), trivial⟩) (by kernel_rfl) (fun v => by kernel_rfl) (fun v => rfl)
theorem c_u26q : FH IP 31 p_u26q r_u26q (k6 f_u26q) := lim_FH (p := p_u26q) (rs := r_u26q) (s := fun n => (k6 ((N_u26q n)))) fun n => (N_u26q_ok n)
def T61 : Tab := (31, FE p_u26q r_u26q (k6 f_u26q)) :: T60
theorem T61_ok : TabOk IP T61 := ⟨FE_ok c_u26q, T60_ok⟩
abbrev B_u28q : Type := List AV × List AV
def p_u28q : PArgs := ⟨[.ref 0 0 0, .agg [.int .i64, .int .i64, .str, .view 4]], [(0, .box [.view 2, .nils 3] false)]⟩
def r_u28q : List PRes := [⟨false, .tup [], [(0, .box [.view 2, .own 1 0] false), (1, .arr 3 false)]⟩]
abbrev GT_u28q : Type := Int → Int → (List UInt8) → (List AV) → (List AV) → Option B_u28q
def GH_u28q (G_u28q : GT_u28q) : Prop := FH IP 31 p_u28q r_u28q (k5 G_u28q)
def TG_u28q (G_u28q : GT_u28q) : Tab := (31, FE p_u28q r_u28q (k5 G_u28q)) :: T61
theorem TG_u28q_ok (G_u28q : GT_u28q) (hG : GH_u28q G_u28q) : TabOk IP (TG_u28q G_u28q) := ⟨FE_ok (hG), T61_ok⟩
abbrev TT_u22q : Type := (List AV × Int × Int × List AV × Int × Int × List UInt8 × List AV) ⊕ (List AV × Int × Int × List AV × Int × Int × List UInt8 × List AV × List AV)
def hs_u22q : List PSt := [⟨[(1003100, .junk), (0, .ref 0 0 0), (3, .ref 1 0 0), (11, .view 4), (12, .int .i64), (13, .int .i64)], [(0, .box [.view 2, .nils 3] false), (1, .box [.int .i64, .int .i64, .str, .view 4] false)], 2, 1⟩, ⟨[(1003100, .junk), (0, .ref 0 0 0), (3, .ref 1 0 0), (11, .view 4), (12, .int .i64), (13, .int .i64)], [(0, .box [.view 2, .own 2 0] false), (1, .box [.int .i64, .int .i64, .str, .view 4] false), (2, .arr 3 false)], 3, 1⟩]
def x_u22q_0 (x0 : List AV) (x1 x2 : Int) (x3 : List AV) (x4 x5 : Int) (x6 : List UInt8) (x7 : List AV) : X × St := (X.exit 1,
  { tm := [(0, AV.ref 0 0 0), (3, AV.ref 1 0 0)],
    hp := [(0, Blk.box [AV.view 2 x3, AV.nils { sz := 3, kd := NKd.nil }] false), (1, Blk.box [AV.int IntKind.i64 x4, AV.int IntKind.i64 x5, AV.str x6, AV.view 4 x7] false)],
    nx := 2, k := 1 })
def x_u22q_1 (x0 : List AV) (x1 x2 : Int) (x3 : List AV) (x4 x5 : Int) (x6 : List UInt8) (x7 x8 : List AV) : X × St := (X.exit 1,
  { tm := [(0, AV.ref 0 0 0), (3, AV.ref 1 0 0)],
    hp := [(0, Blk.box [AV.view 2 x3, AV.own 2 0 none] false), (1, Blk.box [AV.int IntKind.i64 x4, AV.int IntKind.i64 x5, AV.str x6, AV.view 4 x7] false), (2, Blk.arr 3 x8 false)],
    nx := 3, k := 1 })
def x_u22q : List (TT_u22q → X × St) := [fun w => (k8 x_u22q_0) ((sl w)), fun w => (k9 x_u22q_1) ((sr w))]
def st_u22q_0 (G_u28q : GT_u28q) (x0 : List AV) (x1 x2 : Int) (x3 : List AV) (x4 x5 : Int) (x6 : List UInt8) (x7 : List AV) : DT (Rd TT_u22q) :=
 .br (decide (x2 < x1))
  (.br (okAt [CS.int IntKind.i64, CS.int IntKind.i64, CS.str, CS.slice 4] x0 x2)
   (.bi (G_u28q (intOf (cellAt x0 x2 0)) (intOf (cellAt x0 x2 1)) (strOf (cellAt x0 x2 2)) (viewOf (cellAt x0 x2 3)) x3) (fun y0 =>
    .at (.next ((.inr (x0, x1, IntKind.i64.wrap (x2 + 1), y0.1, x4, x5, x6, x7, y0.2)))))
    (.no))
   (.no))
  (.at (.done 0))
def st_u22q_1 (G_u28q : GT_u28q) (x0 : List AV) (x1 x2 : Int) (x3 : List AV) (x4 x5 : Int) (x6 : List UInt8) (x7 x8 : List AV) : DT (Rd TT_u22q) :=
 .br (decide (x2 < x1))
  (.br (okAt [CS.int IntKind.i64, CS.int IntKind.i64, CS.str, CS.slice 4] x0 x2)
   (.bi (f_u26q (intOf (cellAt x0 x2 0)) (intOf (cellAt x0 x2 1)) (strOf (cellAt x0 x2 2)) (viewOf (cellAt x0 x2 3)) x3 x8) (fun y0 =>
    .at (.next ((.inr (x0, x1, IntKind.i64.wrap (x2 + 1), y0.1, x4, x5, x6, x7, y0.2)))))
    (.no))
   (.no))
  (.at (.done 1))
def st_u22q (G_u28q : GT_u28q) : TT_u22q → DT (Rd TT_u22q) := (Sum.elim (fun v => st_u22q_0 G_u28q v.1 v.2.1 v.2.2.1 v.2.2.2.1 v.2.2.2.2.1 v.2.2.2.2.2.1 v.2.2.2.2.2.2.1 v.2.2.2.2.2.2.2) (fun v => st_u22q_1 G_u28q v.1 v.2.1 v.2.2.1 v.2.2.2.1 v.2.2.2.2.1 v.2.2.2.2.2.1 v.2.2.2.2.2.2.1 v.2.2.2.2.2.2.2.1 v.2.2.2.2.2.2.2.2))
def l_u22q (G_u28q : GT_u28q) (v : TT_u22q) : Option (Nat × TT_u22q) := lock (iterO (fun v => (st_u22q G_u28q v).ev) v)
theorem l_u22q_eq (G_u28q : GT_u28q) (v : TT_u22q) : l_u22q G_u28q v = iterO (fun v => (st_u22q G_u28q v).ev) v := lock_eq _
def ll_u22q (G_u28q : GT_u28q) : LEnt := LE (τ := TT_u22q) (hD hs_u22q) (l_u22q G_u28q) x_u22q
theorem t_u22q (G_u28q : GT_u28q) (hG : GH_u28q G_u28q) : Go.Eng.Told IP (loopAt F31 0).1 (loopAt F31 0).2 (ll_u22q G_u28q) := loop_LE (inferInstance : Inhabited TT_u22q) (hs := hs_u22q) (st := st_u22q G_u28q) (L := []) (TG_u28q_ok G_u28q hG) (LOk_of (l := []) (by kernel_rfl) trivial) (l_u22q_eq G_u28q) (fun v => match v with | (.inl v) => by kernel_rfl | (.inr v) => by kernel_rfl) (fun v => match v with | (.inl v) => by kernel_rfl | (.inr v) => by kernel_rfl)
def tr_u28q (G_u28q : GT_u28q) (x0 x1 : Int) (x2 : List UInt8) (x3 x4 : List AV) : DT B_u28q :=
 .br (x0 == 1)
  (.bi (f_u27q 1 1 x1 x4) (fun y0 =>
   .at ((y0.2.1, y0.2.2)))
   (.no))
  (.br (x0 == 2)
   (.bi (f_u27q 1 2 x1 x4) (fun y0 =>
    .at ((y0.2.1, y0.2.2)))
    (.no))
   (.br (x0 == 3)
    (.bi (f_u27q 1 3 x1 x4) (fun y0 =>
     .at ((y0.2.1, y0.2.2)))
     (.no))
    (.br (x0 == 4)
     (.bi (f_u9q x4 x0 x1 x2 x3) (fun y0 =>
      .bi (f_u27q 2 y0 0 x4) (fun y1 =>
       .at ((y1.2.1, y1.2.2)))
       (.no))
      (.no))
     (.br (x0 == 19)
      (.br (okAt [CS.int IntKind.i64, CS.int IntKind.i64, CS.str, CS.slice 4] x3 0)
       (.bi (G_u28q (intOf (cellAt x3 0 0)) (intOf (cellAt x3 0 1)) (strOf (cellAt x3 0 2)) (viewOf (cellAt x3 0 3)) x4) (fun y0 =>
        .bi (f_u25q 5 0 0 y0.1 y0.2) (fun y1 =>
         .br (okAt [CS.int IntKind.i64, CS.int IntKind.i64, CS.str, CS.slice 4] x3 1)
          (.bi (f_u26q (intOf (cellAt x3 1 0)) (intOf (cellAt x3 1 1)) (strOf (cellAt x3 1 2)) (viewOf (cellAt x3 1 3)) y1.2.1 y1.2.2) (fun y2 =>
           .bi (f_u25q 4 0 0 y2.1 y2.2) (fun y3 =>
            .br (inB y3.2.2.length y1.1)
             (.br (okS y3.2.2 y1.1.toNat 1 1)
              (.br (okAt [CS.int IntKind.i64, CS.int IntKind.i64, CS.str, CS.slice 4] x3 2)
               (.bi (f_u26q (intOf (cellAt x3 2 0)) (intOf (cellAt x3 2 1)) (strOf (cellAt x3 2 2)) (viewOf (cellAt x3 2 3)) y3.2.1
                   (setE y3.2.2 y1.1.toNat 1 [AV.int IntKind.i64 (↑y3.2.2.length : Int)])) (fun y4 =>
                .br (inB y4.2.length y3.1)
                 (.br (okS y4.2 y3.1.toNat 1 1) (.at ((y4.1, setE y4.2 y3.1.toNat 1 [AV.int IntKind.i64 (↑y4.2.length : Int)]))) (.no))
                 (.no))
                (.no))
               (.no))
              (.no))
             (.no))
            (.no))
           (.no))
          (.no))
         (.no))
        (.no))
       (.no))
      (.bi (pj 0 (l_u22q G_u28q (Sum.inl (x3, (↑x3.length : Int), 0, x4, x0, x1, x2, x3)))) (fun y0 =>
       .bi (f_u27q 3 (sl y0).2.2.2.2.1 0 (sl y0).2.2.2.1) (fun y1 =>
        .at ((y1.2.1, y1.2.2)))
        (.no))
       (.bi (pj 1 (l_u22q G_u28q (Sum.inl (x3, (↑x3.length : Int), 0, x4, x0, x1, x2, x3)))) (fun y0 =>
        .bi (f_u25q 3 (sr y0).2.2.2.2.1 0 (sr y0).2.2.2.1 (sr y0).2.2.2.2.2.2.2.2) (fun y1 =>
         .at ((y1.2.1, y1.2.2)))
         (.no))
        (.no)))))))
def N_u28q : Nat → GT_u28q
  | 0 => fun _ _ _ _ _ => none
  | n + 1 => fun x0 x1 x2 x3 x4 => (tr_u28q ((N_u28q n)) x0 x1 x2 x3 x4).ev
def f_u28q (x0 x1 : Int) (x2 : List UInt8) (x3 x4 : List AV) : Option B_u28q := limO fun n => (N_u28q n) x0 x1 x2 x3 x4
theorem N_u28q_ok : ∀ n, GH_u28q ((N_u28q n))
  | 0 => (fun v y h => nomatch h)
  | n + 1 => have hG := N_u28q_ok n
    fun_FH (F := F31) (L := [(1003100, ll_u22q ((N_u28q n)))]) (t := (k5 (tr_u28q ((N_u28q n))))) (TG_u28q_ok ((N_u28q n)) hG) (LOk_of (l := [loopAt F31 0]) (by kernel_rfl) ⟨sel_one (by kernel_rfl) (t_u22q ((N_u28q n)) hG), trivial⟩) (by kernel_rfl) (fun v => by kernel_rfl) (fun v => rfl)
theorem c_u28q : FH IP 31 p_u28q r_u28q (k5 f_u28q) := lim_FH (p := p_u28q) (rs := r_u28q) (s := fun n => (k5 ((N_u28q n)))) fun n => (N_u28q_ok n)
def T62 : Tab := (31, FE p_u28q r_u28q (k5 f_u28q)) :: T61
theorem T62_ok : TabOk IP T62 := ⟨FE_ok c_u28q, T61_ok⟩
abbrev B_u80q : Type := Int × List AV × List AV × Int
def p_u80q : PArgs := ⟨[.agg [.int .i64, .int .i64, .str, .view 4], .view 2], []⟩
def r_u80q : List PRes := [⟨false, .tup [.agg [.int .i64, .view 2, .view 3], .int .i64], []⟩]
def tr_u80q (x0 x1 : Int) (x2 : List UInt8) (x3 x4 : List AV) : DT B_u80q :=
 .bi (f_u113q x4) (fun y0 =>
  .br (y0 != 0)
   (.at ((0, [], [], y0)))
   (.bi (f_u158q x0 x1 x2 x3 x4) (fun y1 =>
    .br (y1.2 != 0)
     (.at ((0, [], [], y1.2)))
     (.bi (f_u28q x0 x1 x2 x3 x4) (fun y2 =>
      .br (decide (x4.length = 0))
       (.at ((y1.1, [], y2.2, 0)))
       (.br (decide (x4.length ≠ 0) && decide (x4.length * 24 ≤ lim)) (.at ((y1.1, x4, y2.2, 0))) (.no)))
      (.no)))
    (.no)))
  (.no)
def f_u80q (x0 x1 : Int) (x2 : List UInt8) (x3 x4 : List AV) : Option B_u80q := lock (tr_u80q x0 x1 x2 x3 x4).ev
theorem f_u80q_eq (x0 x1 : Int) (x2 : List UInt8) (x3 x4 : List AV) : f_u80q x0 x1 x2 x3 x4 = (tr_u80q x0 x1 x2 x3 x4).ev := lock_eq _
theorem c_u80q : FH IP 12 p_u80q r_u80q (k5 f_u80q) := fun_FH (F := F12) (L := []) (t := (k5 tr_u80q)) T62_ok (LOk_of (l := []) (by kernel_rfl) trivial) (by kernel_rfl) (fun v => by kernel_rfl) (fun _ => lock_eq _)
def T63 : Tab := (12, FE p_u80q r_u80q (k5 f_u80q)) :: T62
theorem T63_ok : TabOk IP T63 := ⟨FE_ok c_u80q, T62_ok⟩
abbrev TT_u20q : Type := List AV × List AV × Int × Int
def hs_u20q : List PSt := [⟨[(1008800, .junk), (0, .view 1), (1, .view 1), (12, .int .i64), (13, .int .i64)], [], 0, 0⟩]
def x_u20q_0 (x0 x1 : List AV) (x2 x3 : Int) : X × St := (X.ret, { tm := [(4, AV.bool false)], hp := [], nx := 0, k := 0 })
def x_u20q_1 (x0 x1 : List AV) (x2 x3 : Int) : X × St := (X.exit 0, { tm := [(4, AV.junk)], hp := [], nx := 0, k := 0 })
def x_u20q : List (TT_u20q → X × St) := [(k4 x_u20q_0), (k4 x_u20q_1)]
def st_u20q_0 (x0 x1 : List AV) (x2 x3 : Int) : DT (Rd TT_u20q) :=
 .br (decide (x3 < x2))
  (.br (okAt [CS.int IntKind.i64] x0 x3)
   (.br (okAt [CS.int IntKind.i64] x1 x3)
    (.br (intOf (cellAt x0 x3 0) != intOf (cellAt x1 x3 0)) (.at (.done 0)) (.at (.next ((x0, x1, x2, IntKind.i64.wrap (x3 + 1))))))
    (.no))
   (.no))
  (.at (.done 1))
def st_u20q : TT_u20q → DT (Rd TT_u20q) := (fun v => st_u20q_0 v.1 v.2.1 v.2.2.1 v.2.2.2)
def l_u20q (v : TT_u20q) : Option (Nat × TT_u20q) := lock (iterO (fun v => (st_u20q v).ev) v)
theorem l_u20q_eq (v : TT_u20q) : l_u20q v = iterO (fun v => (st_u20q v).ev) v := lock_eq _
def ll_u20q : LEnt := LE (τ := TT_u20q) (hD hs_u20q) (l_u20q) x_u20q
theorem t_u20q : Go.Eng.Told IP (loopAt F88 0).1 (loopAt F88 0).2 (ll_u20q) := loop_LE (inferInstance : Inhabited TT_u20q) (hs := hs_u20q) (st := st_u20q) (L := []) T63_ok (LOk_of (l := []) (by kernel_rfl) trivial) (l_u20q_eq) (fun v => by kernel_rfl) (fun v => by kernel_rfl)
abbrev B_u24q : Type := Bool
def p_u24q : PArgs := ⟨[.view 1, .view 1], []⟩
def r_u24q : List PRes := [⟨false, .bool, []⟩]
def tr_u24q (x0 x1 : List AV) : DT B_u24q :=
 .br ((↑x0.length : Int) != (↑x1.length : Int))
  (.at (false))
  (.bi (pj 0 (l_u20q (x0, x1, (↑x0.length : Int), 0))) (fun y0 =>
   .at (false))
   (.bi (pj 1 (l_u20q (x0, x1, (↑x0.length : Int), 0))) (fun y0 =>
    .at (true))
    (.no)))
def f_u24q (x0 x1 : List AV) : Option B_u24q := lock (tr_u24q x0 x1).ev
theorem f_u24q_eq (x0 x1 : List AV) : f_u24q x0 x1 = (tr_u24q x0 x1).ev := lock_eq _
theorem c_u24q : FH IP 88 p_u24q r_u24q (k2 f_u24q) := fun_FH (F := F88) (L := [(1008800, ll_u20q)]) (t := (k2 tr_u24q)) T63_ok (LOk_of (l := [loopAt F88 0]) (by kernel_rfl) ⟨sel_one (by kernel_rfl) t_u20q, trivial⟩) (by kernel_rfl) (fun v => by kernel_rfl) (fun _ => lock_eq _)
def T64 : Tab := (88, FE p_u24q r_u24q (k2 f_u24q)) :: T63
theorem T64_ok : TabOk IP T64 := ⟨FE_ok c_u24q, T63_ok⟩
abbrev B_u37q : Type := Int × List AV × List AV × Int × List AV × List AV
def p_u37q : PArgs := ⟨[.ref 0 0 0, .int .i64, .view 1], [(0, .box [.int .i64, .view 2, .view 3, .own 1 0, .int .i64, .own 2 0] false), (1, .arr 2 false), (2, .arr 1 false)]⟩
def r_u37q : List PRes := [⟨false, .tup [], [(0, .box [.int .i64, .view 2, .view 3, .own 1 0, .int .i64, .own 2 0] false), (1, .arr 2 false), (2, .arr 1 false)]⟩]
def tr_u37q (x0 : Int) (x1 : List AV) (x2 : Int) (x3 x4 : List AV) (x5 : Int) (x6 x7 : List AV) : DT B_u37q :=
 .br (inB x6.length x0)
  (.br (okP [CS.bool] x6 x0.toNat 0)
   (.bi (br (boolOf (cellN x6 x0.toNat 0))
       (br (okP [CS.slice 1] x6 x0.toNat 1)
         (br (sm (f_u24q (viewOf (cellN x6 x0.toNat 1)) x1)) (some !gv (f_u24q (viewOf (cellN x6 x0.toNat 1)) x1)) none) none)
       (some false)) (fun y0 =>
    .br (y0)
     (.br (inB x7.length x0)
      (.br (okS x7 x0.toNat 0 1)
       (.br (okP [CS.bool] x6 x0.toNat 0)
        (.br (!boolOf (cellN x6 x0.toNat 0))
         (.br (decide (x1.length = 0))
          (.br (okS x6 x0.toNat 0 2) (.at ((x2, x3, x4, x5, setE x6 x0.toNat 0 [AV.bool true, AV.view 1 []], setE x7 x0.toNat 0 [AV.bool true]))) (.no))
          (.br (decide (x1.length ≠ 0) && decide (x1.length * 8 ≤ lim))
           (.br (okS x6 x0.toNat 0 2) (.at ((x2, x3, x4, x5, setE x6 x0.toNat 0 [AV.bool true, AV.view 1 x1], setE x7 x0.toNat 0 [AV.bool true]))) (.no))
           (.no)))
         (.at ((x2, x3, x4, x5, x6, setE x7 x0.toNat 0 [AV.bool true]))))
        (.no))
       (.no))
      (.no))
     (.br (okP [CS.bool] x6 x0.toNat 0)
      (.br (!boolOf (cellN x6 x0.toNat 0))
       (.br (decide (x1.length = 0))
        (.br (okS x6 x0.toNat 0 2) (.at ((x2, x3, x4, x5, setE x6 x0.toNat 0 [AV.bool true, AV.view 1 []], x7))) (.no))
        (.br (decide (x1.length ≠ 0) && decide (x1.length * 8 ≤ lim))
         (.br (okS x6 x0.toNat 0 2) (.at ((x2, x3, x4, x5, setE x6 x0.toNat 0 [AV.bool true, AV.view 1 x1], x7))) (.no))
         (.no)))
       (.at ((x2, x3, x4, x5, x6, x7))))
      (.no)))
    (.no))
   (.no))
  (.no)
def f_u37q (x0 : Int) (x1 : List AV) (x2 : Int) (x3 x4 : List AV) (x5 : Int) (x6 x7 : List AV) : Option B_u37q := lock (tr_u37q x0 x1 x2 x3 x4 x5 x6 x7).ev
theorem f_u37q_eq (x0 : Int) (x1 : List AV) (x2 : Int) (x3 x4 : List AV) (x5 : Int) (x6 x7 : List AV) : f_u37q x0 x1 x2 x3 x4 x5 x6 x7 = (tr_u37q x0 x1 x2 x3 x4 x5 x6 x7).ev := lock_eq _
theorem c_u37q : FH IP 72 p_u37q r_u37q (k8 f_u37q) := fun_FH (F := F72) (L := []) (t := (k8 tr_u37q)) T64_ok (LOk_of (l := []) (by kernel_rfl) trivial) (by kernel_rfl) (fun v => by kernel_rfl) (fun _ => lock_eq _)
def T65 : Tab := (72, FE p_u37q r_u37q (k8 f_u37q)) :: T64
theorem T65_ok : TabOk IP T65 := ⟨FE_ok c_u37q, T64_ok⟩
abbrev B_u58q : Type := Bool
def p_u58q : PArgs := ⟨[.agg [.int .i64, .int .i64, .int .i64]], []⟩
def r_u58q : List PRes := [⟨false, .bool, []⟩]
def tr_u58q (x0 x1 x2 : Int) : DT B_u58q :=
 .br (x1 == 1)
  (.at (decide (x2 ≥ 0)))
  (.br (x1 == 2)
   (.bi (br (decide (x2 ≥ 0)) (some (decide (x2 ≤ 1000000000000))) (some false)) (fun y0 =>
    .at (y0))
    (.no))
   (.br (x1 == 3)
    (.bi (br (decide (x2 ≥ 0)) (some (decide (x2 ≤ 1000000))) (some false)) (fun y0 =>
     .at (y0))
     (.no))
    (.at (false))))
def f_u58q (x0 x1 x2 : Int) : Option B_u58q := lock (tr_u58q x0 x1 x2).ev
theorem f_u58q_eq (x0 x1 x2 : Int) : f_u58q x0 x1 x2 = (tr_u58q x0 x1 x2).ev := lock_eq _
theorem c_u58q : FH IP 90 p_u58q r_u58q (k3 f_u58q) := fun_FH (F := F90) (L := []) (t := (k3 tr_u58q)) T65_ok (LOk_of (l := []) (by kernel_rfl) trivial) (by kernel_rfl) (fun v => by kernel_rfl) (fun _ => lock_eq _)
def T66 : Tab := (90, FE p_u58q r_u58q (k3 f_u58q)) :: T65
theorem T66_ok : TabOk IP T66 := ⟨FE_ok c_u58q, T65_ok⟩
abbrev B_u83q : Type := List AV × Bool
def p_u83q : PArgs := ⟨[.int .i64, .view 1], []⟩
def r_u83q : List PRes := [⟨false, .tup [.view 1, .bool], []⟩]
def tr_u83q (x0 : Int) (x1 : List AV) : DT B_u83q :=
 .bi (br (x0 == 9) (some true) (some (x0 == 16))) (fun y0 =>
  .br (y0)
   (.bi (br (decide (x0 < 5)) (some true) (some (decide (x0 > 18)))) (fun y1 =>
    .bi (br y1 (some true) (some (decide (IntKind.i64.wrap ((↑x1.length : Int) - 1) < 0)))) (fun y2 =>
     .br (y2)
      (.at (([], false)))
      (.br (leB (IntKind.i64.wrap ((↑x1.length : Int) - 1)) x1.length)
       (.bi (f_u68q x0 (List.drop (IntKind.i64.wrap ((↑x1.length : Int) - 1)).toNat x1)) (fun y3 =>
        .br (leB (IntKind.i64.wrap ((↑x1.length : Int) - 1)) x1.length && true)
         (.br (decide ((List.take (IntKind.i64.wrap ((↑x1.length : Int) - 1)).toNat x1).length = 0))
          (.at (([AV.int IntKind.i64 y3.1], y3.2)))
          (.br (decide ((List.take (IntKind.i64.wrap ((↑x1.length : Int) - 1)).toNat x1).length ≠ 0) && decide ((List.take (IntKind.i64.wrap ((↑x1.length : Int) - 1)).toNat x1).length * 8 ≤ lim))
           (.br (room ((List.take (IntKind.i64.wrap ((↑x1.length : Int) - 1)).toNat x1).length + 1) 8)
            (.at ((List.take (IntKind.i64.wrap ((↑x1.length : Int) - 1)).toNat x1 ++ [AV.int IntKind.i64 y3.1], y3.2)))
            (.no))
           (.no)))
         (.no))
        (.no))
       (.no)))
     (.no))
    (.no))
   (.bi (br (decide (x0 < 5)) (some true) (some (decide (x0 > 18)))) (fun y1 =>
    .bi (br y1 (some true) (some (decide (IntKind.i64.wrap ((↑x1.length : Int) - 2) < 0)))) (fun y2 =>
     .br (y2)
      (.at (([], false)))
      (.br (leB (IntKind.i64.wrap ((↑x1.length : Int) - 2)) x1.length)
       (.bi (f_u68q x0 (List.drop (IntKind.i64.wrap ((↑x1.length : Int) - 2)).toNat x1)) (fun y3 =>
        .br (leB (IntKind.i64.wrap ((↑x1.length : Int) - 2)) x1.length && true)
         (.br (decide ((List.take (IntKind.i64.wrap ((↑x1.length : Int) - 2)).toNat x1).length = 0))
          (.at (([AV.int IntKind.i64 y3.1], y3.2)))
          (.br (decide ((List.take (IntKind.i64.wrap ((↑x1.length : Int) - 2)).toNat x1).length ≠ 0) && decide ((List.take (IntKind.i64.wrap ((↑x1.length : Int) - 2)).toNat x1).length * 8 ≤ lim))
           (.br (room ((List.take (IntKind.i64.wrap ((↑x1.length : Int) - 2)).toNat x1).length + 1) 8)
            (.at ((List.take (IntKind.i64.wrap ((↑x1.length : Int) - 2)).toNat x1 ++ [AV.int IntKind.i64 y3.1], y3.2)))
            (.no))
           (.no)))
         (.no))
        (.no))
       (.no)))
     (.no))
    (.no)))
  (.no)
def f_u83q (x0 : Int) (x1 : List AV) : Option B_u83q := lock (tr_u83q x0 x1).ev
theorem f_u83q_eq (x0 : Int) (x1 : List AV) : f_u83q x0 x1 = (tr_u83q x0 x1).ev := lock_eq _
theorem c_u83q : FH IP 91 p_u83q r_u83q (k2 f_u83q) := fun_FH (F := F91) (L := []) (t := (k2 tr_u83q)) T66_ok (LOk_of (l := []) (by kernel_rfl) trivial) (by kernel_rfl) (fun v => by kernel_rfl) (fun _ => lock_eq _)
def T67 : Tab := (91, FE p_u83q r_u83q (k2 f_u83q)) :: T66
theorem T67_ok : TabOk IP T67 := ⟨FE_ok c_u83q, T66_ok⟩
abbrev B_u38q : Type := List AV × Int × Bool × Bool × Int × List AV × List AV × Int × List AV × List AV
def p_u38q : PArgs := ⟨[.ref 0 0 0, .int .i64], [(0, .box [.int .i64, .view 2, .view 3, .own 1 0, .int .i64, .own 2 0] false), (1, .arr 2 false), (2, .arr 1 false)]⟩
def r_u38q : List PRes := [⟨false, .tup [.view 1, .int .i64, .bool, .bool], [(0, .box [.int .i64, .view 2, .view 3, .own 1 0, .int .i64, .own 2 0] false), (1, .arr 2 false), (2, .arr 1 false)]⟩]
def tr_u38q (x0 x1 : Int) (x2 x3 : List AV) (x4 : Int) (x5 x6 : List AV) : DT B_u38q :=
 .br (okAt [CS.int IntKind.i64, CS.int IntKind.i64, CS.int IntKind.i64] x3 x0)
  (.br (inB x5.length x0)
   (.br (okP [CS.slice 1] x5 x0.toNat 1)
    (.bi (br (intOf (cellAt x3 x0 0) != 1) (some (intOf (cellAt x3 x0 2) != 0)) (some false)) (fun y0 =>
     .br (y0)
      (.at (([], -1, false, false, x1, x2, x3, x4, x5, x6)))
      (.br (intOf (cellAt x3 x0 0) == 1)
       (.br (decide ((viewOf (cellN x5 x0.toNat 1)).length = 0))
        (.bi (f_u58q (intOf (cellAt x3 x0 0)) (intOf (cellAt x3 x0 1)) (intOf (cellAt x3 x0 2))) (fun y1 =>
         .at (([AV.int IntKind.i64 (intOf (cellAt x3 x0 1))], -1, true, y1, x1, x2, x3, x4, x5, x6)))
         (.no))
        (.br (decide ((viewOf (cellN x5 x0.toNat 1)).length ≠ 0) && decide ((viewOf (cellN x5 x0.toNat 1)).length * 8 ≤ lim))
         (.br (room ((viewOf (cellN x5 x0.toNat 1)).length + 1) 8)
          (.bi (f_u58q (intOf (cellAt x3 x0 0)) (intOf (cellAt x3 x0 1)) (intOf (cellAt x3 x0 2))) (fun y1 =>
           .at ((viewOf (cellN x5 x0.toNat 1) ++ [AV.int IntKind.i64 (intOf (cellAt x3 x0 1))], -1, true, y1, x1, x2, x3, x4, x5, x6)))
           (.no))
          (.no))
         (.no)))
       (.br (intOf (cellAt x3 x0 0) == 2)
        (.br (decide (intOf (cellAt x3 x0 1) < 0))
         (.at (([], -1, false, false, x1, x2, x3, x4, x5, x6)))
         (.br (decide (intOf (cellAt x3 x0 1) ≥ (↑x2.length : Int)))
          (.at (([], -1, false, false, x1, x2, x3, x4, x5, x6)))
          (.br (decide ((viewOf (cellN x5 x0.toNat 1)).length = 0))
           (.br (okAt [CS.str, CS.int IntKind.i64] x2 (intOf (cellAt x3 x0 1)))
            (.at (([AV.int IntKind.i64 (intOf (cellAt x2 (intOf (cellAt x3 x0 1)) 1))], -1, true, true, x1, x2, x3, x4, x5, x6)))
            (.no))
           (.br (decide ((viewOf (cellN x5 x0.toNat 1)).length ≠ 0) && decide ((viewOf (cellN x5 x0.toNat 1)).length * 8 ≤ lim))
            (.br (okAt [CS.str, CS.int IntKind.i64] x2 (intOf (cellAt x3 x0 1)))
             (.br (room ((viewOf (cellN x5 x0.toNat 1)).length + 1) 8)
              (.at ((viewOf (cellN x5 x0.toNat 1) ++ [AV.int IntKind.i64 (intOf (cellAt x2 (intOf (cellAt x3 x0 1)) 1))], -1, true, true, x1, x2, x3, x4, x5, x6)))
              (.no))
             (.no))
            (.no)))))
        (.br (intOf (cellAt x3 x0 0) == 3)
         (.bi (f_u83q (intOf (cellAt x3 x0 1)) (viewOf (cellN x5 x0.toNat 1))) (fun y1 =>
          .at ((y1.1, -1, true, y1.2, x1, x2, x3, x4, x5, x6)))
          (.no))
         (.br (intOf (cellAt x3 x0 0) == 4)
          (.br (decide (intOf (cellAt x3 x0 1) > x0))
           (.at ((viewOf (cellN x5 x0.toNat 1), intOf (cellAt x3 x0 1), false, decide (intOf (cellAt x3 x0 1) ≤ (↑x3.length : Int)), x1, x2, x3, x4, x5, x6)))
           (.at ((viewOf (cellN x5 x0.toNat 1), intOf (cellAt x3 x0 1), false, false, x1, x2, x3, x4, x5, x6))))
          (.br (intOf (cellAt x3 x0 0) == 5)
           (.bi (br ((↑(viewOf (cellN x5 x0.toNat 1)).length : Int) == 0) (some true)
               (br (okAt [CS.int IntKind.i64] (viewOf (cellN x5 x0.toNat 1)) (IntKind.i64.wrap ((↑(viewOf (cellN x5 x0.toNat 1)).length : Int) - 1)))
                 (some (intOf (cellAt (viewOf (cellN x5 x0.toNat 1)) (IntKind.i64.wrap ((↑(viewOf (cellN x5 x0.toNat 1)).length : Int) - 1)) 0) != 5)) none)) (fun y1 =>
            .br (y1)
             (.at (([], -1, false, false, x1, x2, x3, x4, x5, x6)))
             (.br (leB (IntKind.i64.wrap ((↑(viewOf (cellN x5 x0.toNat 1)).length : Int) - 1)) (viewOf (cellN x5 x0.toNat 1)).length && true)
              (.br (decide (intOf (cellAt x3 x0 1) > x0))
               (.at ((List.take (IntKind.i64.wrap ((↑(viewOf (cellN x5 x0.toNat 1)).length : Int) - 1)).toNat (viewOf (cellN x5 x0.toNat 1)), intOf (cellAt x3 x0 1), true, decide (intOf (cellAt x3 x0 1) ≤ (↑x3.length : Int)), x1, x2, x3, x4, x5, x6)))
               (.at ((List.take (IntKind.i64.wrap ((↑(viewOf (cellN x5 x0.toNat 1)).length : Int) - 1)).toNat (viewOf (cellN x5 x0.toNat 1)), intOf (cellAt x3 x0 1), true, false, x1, x2, x3, x4, x5, x6))))
              (.no)))
            (.no))
           (.at (([], -1, false, false, x1, x2, x3, x4, x5, x6)))))))))
     (.no))
    (.no))
   (.no))
  (.no)
def f_u38q (x0 x1 : Int) (x2 x3 : List AV) (x4 : Int) (x5 x6 : List AV) : Option B_u38q := lock (tr_u38q x0 x1 x2 x3 x4 x5 x6).ev
theorem f_u38q_eq (x0 x1 : Int) (x2 x3 : List AV) (x4 : Int) (x5 x6 : List AV) : f_u38q x0 x1 x2 x3 x4 x5 x6 = (tr_u38q x0 x1 x2 x3 x4 x5 x6).ev := lock_eq _
theorem c_u38q : FH IP 73 p_u38q r_u38q (k7 f_u38q) := fun_FH (F := F73) (L := []) (t := (k7 tr_u38q)) T67_ok (LOk_of (l := []) (by kernel_rfl) trivial) (by kernel_rfl) (fun v => by kernel_rfl) (fun _ => lock_eq _)
def T68 : Tab := (73, FE p_u38q r_u38q (k7 f_u38q)) :: T67
theorem T68_ok : TabOk IP T68 := ⟨FE_ok c_u38q, T67_ok⟩
abbrev TT_u29q : Type := Int × Int × Int × Int × List AV × List AV × Int × List AV × List AV
def hs_u29q : List PSt := [⟨[(1005200, .junk), (0, .ref 0 0 0), (3, .int .i64), (29, .int .i64), (30, .int .i64)], [(0, .box [.int .i64, .view 2, .view 3, .own 1 0, .int .i64, .own 2 0] false), (1, .arr 2 false), (2, .arr 1 false)], 3, 1⟩]
def x_u29q_0 (x0 x1 : Int) (x2 x3 : Int) (x4 x5 : List AV) (x6 : Int) (x7 x8 : List AV) : X × St := (X.ret,
  { tm := [(0, AV.ref 0 0 0), (2, AV.int IntKind.i64 9), (3, AV.int IntKind.i64 x0)],
    hp :=
      [(0, Blk.box [AV.int IntKind.i64 x3, AV.view 2 x4, AV.view 3 x5, AV.own 1 0 none, AV.int IntKind.i64 x6, AV.own 2 0 none] false), (1, Blk.arr 2 x7 false),
        (2, Blk.arr 1 x8 false)],
    nx := 3, k := 1 })
def x_u29q_1 (x0 x1 : Int) (x2 x3 : Int) (x4 x5 : List AV) (x6 : Int) (x7 x8 : List AV) : X × St := (X.ret,
  { tm := [(0, AV.ref 0 0 0), (2, AV.int IntKind.i64 9), (3, AV.int IntKind.i64 x0)],
    hp :=
      [(0,
          Blk.box
            [AV.int IntKind.i64 (gv (f_u38q x2 x3 x4 x5 x6 x7 x8)).2.2.2.2.1,
              AV.view 2 (gv (f_u38q x2 x3 x4 x5 x6 x7 x8)).2.2.2.2.2.1,
              AV.view 3 (gv (f_u38q x2 x3 x4 x5 x6 x7 x8)).2.2.2.2.2.2.1, AV.own 1 0 none,
              AV.int IntKind.i64 (gv (f_u38q x2 x3 x4 x5 x6 x7 x8)).2.2.2.2.2.2.2.1, AV.own 2 0 none]
            false),
        (1, Blk.arr 2 (gv (f_u38q x2 x3 x4 x5 x6 x7 x8)).2.2.2.2.2.2.2.2.1 false),
        (2, Blk.arr 1 (gv (f_u38q x2 x3 x4 x5 x6 x7 x8)).2.2.2.2.2.2.2.2.2 false)],
    nx := 3, k := 1 })
def x_u29q_2 (x0 x1 : Int) (x2 x3 : Int) (x4 x5 : List AV) (x6 : Int) (x7 x8 : List AV) : X × St := (X.ret,
  { tm := [(0, AV.ref 0 0 0), (2, AV.int IntKind.i64 5), (3, AV.int IntKind.i64 x0)],
    hp :=
      [(0,
          Blk.box
            [AV.int IntKind.i64 (gv (f_u38q x2 x3 x4 x5 x6 x7 x8)).2.2.2.2.1,
              AV.view 2 (gv (f_u38q x2 x3 x4 x5 x6 x7 x8)).2.2.2.2.2.1,
              AV.view 3 (gv (f_u38q x2 x3 x4 x5 x6 x7 x8)).2.2.2.2.2.2.1, AV.own 1 0 none,
              AV.int IntKind.i64 (gv (f_u38q x2 x3 x4 x5 x6 x7 x8)).2.2.2.2.2.2.2.1, AV.own 2 0 none]
            false),
        (1, Blk.arr 2 (gv (f_u38q x2 x3 x4 x5 x6 x7 x8)).2.2.2.2.2.2.2.2.1 false),
        (2, Blk.arr 1 (gv (f_u38q x2 x3 x4 x5 x6 x7 x8)).2.2.2.2.2.2.2.2.2 false)],
    nx := 3, k := 1 })
def x_u29q_3 (x0 x1 : Int) (x2 x3 : Int) (x4 x5 : List AV) (x6 : Int) (x7 x8 : List AV) : X × St := (X.exit 0,
  { tm := [(0, AV.ref 0 0 0), (2, AV.junk), (3, AV.int IntKind.i64 x0)],
    hp :=
      [(0, Blk.box [AV.int IntKind.i64 x3, AV.view 2 x4, AV.view 3 x5, AV.own 1 0 none, AV.int IntKind.i64 x6, AV.own 2 0 none] false), (1, Blk.arr 2 x7 false),
        (2, Blk.arr 1 x8 false)],
    nx := 3, k := 1 })
def x_u29q : List (TT_u29q → X × St) := [(k9 x_u29q_0), (k9 x_u29q_1), (k9 x_u29q_2), (k9 x_u29q_3)]
def st_u29q_0 (x0 x1 : Int) (x2 x3 : Int) (x4 x5 : List AV) (x6 : Int) (x7 x8 : List AV) : DT (Rd TT_u29q) :=
 .br (decide (x2 < x1))
  (.br (inB x7.length x2)
   (.br (okP [CS.bool] x7 x2.toNat 0)
    (.bi (br (!boolOf (cellN x7 x2.toNat 0)) (some true) (br (inB x8.length x2) (br (okP [CS.bool] x8 x2.toNat 0) (some (boolOf (cellN x8 x2.toNat 0))) none) none)) (fun y0 =>
     .br (y0)
      (.at (.done 0))
      (.bi (f_u38q x2 x3 x4 x5 x6 x7 x8) (fun y1 =>
       .br (!y1.2.2.2.1)
        (.at (.done 1))
        (.br (decide ((↑y1.1.length : Int) > 16))
         (.at (.done 2))
         (.br (decide (y1.2.1 ≥ 0))
          (.bi (f_u37q y1.2.1 y1.1 y1.2.2.2.2.1 y1.2.2.2.2.2.1 y1.2.2.2.2.2.2.1
              (if (↑y1.1.length : Int) > y1.2.2.2.2.2.2.2.1 then (↑y1.1.length : Int) else y1.2.2.2.2.2.2.2.1) y1.2.2.2.2.2.2.2.2.1
              y1.2.2.2.2.2.2.2.2.2) (fun y2 =>
           .br (y1.2.2.1)
            (.bi (f_u37q (IntKind.i64.wrap (x2 + 1)) y1.1 y2.1 y2.2.1 y2.2.2.1 y2.2.2.2.1 y2.2.2.2.2.1 y2.2.2.2.2.2) (fun y3 =>
             .at (.next ((x0, x1, IntKind.i64.wrap (x2 + 1), y3.1, y3.2.1, y3.2.2.1, y3.2.2.2.1, y3.2.2.2.2.1, y3.2.2.2.2.2))))
             (.no))
            (.at (.next ((x0, x1, IntKind.i64.wrap (x2 + 1), y2.1, y2.2.1, y2.2.2.1, y2.2.2.2.1, y2.2.2.2.2.1, y2.2.2.2.2.2)))))
           (.no))
          (.br (y1.2.2.1)
           (.bi (f_u37q (IntKind.i64.wrap (x2 + 1)) y1.1 y1.2.2.2.2.1 y1.2.2.2.2.2.1 y1.2.2.2.2.2.2.1
               (if (↑y1.1.length : Int) > y1.2.2.2.2.2.2.2.1 then (↑y1.1.length : Int) else y1.2.2.2.2.2.2.2.1) y1.2.2.2.2.2.2.2.2.1
               y1.2.2.2.2.2.2.2.2.2) (fun y2 =>
            .at (.next ((x0, x1, IntKind.i64.wrap (x2 + 1), y2.1, y2.2.1, y2.2.2.1, y2.2.2.2.1, y2.2.2.2.2.1, y2.2.2.2.2.2))))
            (.no))
           (.at (.next ((x0, x1, IntKind.i64.wrap (x2 + 1), y1.2.2.2.2.1, y1.2.2.2.2.2.1, y1.2.2.2.2.2.2.1, if (↑y1.1.length : Int) > y1.2.2.2.2.2.2.2.1 then (↑y1.1.length : Int) else y1.2.2.2.2.2.2.2.1, y1.2.2.2.2.2.2.2.2.1, y1.2.2.2.2.2.2.2.2.2))))))))
       (.no)))
     (.no))
    (.no))
   (.no))
  (.at (.done 3))
def st_u29q : TT_u29q → DT (Rd TT_u29q) := (fun v => st_u29q_0 v.1 v.2.1 v.2.2.1 v.2.2.2.1 v.2.2.2.2.1 v.2.2.2.2.2.1 v.2.2.2.2.2.2.1 v.2.2.2.2.2.2.2.1 v.2.2.2.2.2.2.2.2)
def l_u29q (v : TT_u29q) : Option (Nat × TT_u29q) := lock (iterO (fun v => (st_u29q v).ev) v)
theorem l_u29q_eq (v : TT_u29q) : l_u29q v = iterO (fun v => (st_u29q v).ev) v := lock_eq _
def ll_u29q : LEnt := LE (τ := TT_u29q) (hD hs_u29q) (l_u29q) x_u29q
theorem t_u29q : Go.Eng.Told IP (loopAt F52 0).1 (loopAt F52 0).2 (ll_u29q) := loop_LE (inferInstance : Inhabited TT_u29q) (hs := hs_u29q) (st := st_u29q) (L := []) T68_ok (LOk_of (l := []) (by kernel_rfl) trivial) (l_u29q_eq) (fun v => by kernel_rfl) (fun v => by kernel_rfl)
end
end Go.Proofs.H12

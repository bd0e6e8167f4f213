/- Functions over plain data. Printed by a program of mine. -/
import Derived.Test.YtlgbnjnkcoiceaaGreatDoorD12_5
import Derived.KernelRfl
set_option linter.unusedVariables false
set_option linter.unusedSimpArgs false
set_option linter.unnecessarySimpa false
namespace Go.Proofs.H12
open Go Go.Eng
set_option maxRecDepth 100000
noncomputable section
def N_u144q : Nat → GT_u144q
  | 0 => fun _ _ _ _ => none
  | n + 1 => fun x0 x1 x2 x3 => (tr_u144q ((N_u144q n)) x0 x1 x2 x3).ev
def f_u144q (x0 x1 : Int) (x2 : List UInt8) (x3 : List AV) : Option B_u144q := limO fun n => (N_u144q n) x0 x1 x2 x3
theorem N_u144q_ok : ∀ n, GH_u144q ((N_u144q n))
  | 0 => (fun v y h => nomatch h)
  | n + 1 => have hG := N_u144q_ok n
    fun_FH (F := F59) (L := [(1005900, ll_u96q ((N_u144q n)))]) (t := (k4 (tr_u144q ((N_u144q n))))) (TG_u144q_ok ((N_u144q n)) hG) (LOk_of (l := [loopAt F59 0]) (by kernel_rfl) ⟨sel_one (by kernel_rfl) (t_u96q ((N_u144q n)) hG), trivial⟩) (by kernel_rfl) (fun v => by kernel_rfl) (fun v => rfl)
theorem c_u144q : FH IP 59 p_u144q r_u144q (k4 f_u144q) := lim_FH (p := p_u144q) (rs := r_u144q) (s := fun n => (k4 ((N_u144q n)))) fun n => (N_u144q_ok n)
def T88 : Tab := (59, FE p_u144q r_u144q (k4 f_u144q)) :: T87
theorem T88_ok : TabOk IP T88 := ⟨FE_ok c_u144q, T87_ok⟩
abbrev B_u71q : Type := Int
def p_u71q : PArgs := ⟨[.int .i64], []⟩
def r_u71q : List PRes := [⟨false, .int .i64, []⟩]
def tr_u71q (x0 : Int) : DT B_u71q :=
 .bi (br (decide (x0 < 1)) (some true) (some (decide (x0 > 19)))) (fun y0 =>
  .br (y0)
   (.at (-1))
   (.br (decide (x0 ≤ 4))
    (.at (0))
    (.bi (br (x0 == 9) (some true) (some (x0 == 16))) (fun y1 =>
     .br (y1)
      (.at (1))
      (.br (x0 == 19) (.at (3)) (.at (2))))
     (.no))))
  (.no)
def f_u71q (x0 : Int) : Option B_u71q := lock (tr_u71q x0).ev
theorem c_u71q : FH IP 77 p_u71q r_u71q f_u71q := fun_FH (F := F77) (L := []) (t := tr_u71q) T88_ok (LOk_of (l := []) (by kernel_rfl) trivial) (by kernel_rfl) (fun v => by kernel_rfl) (fun _ => lock_eq _)
def T89 : Tab := (77, FE p_u71q r_u71q f_u71q) :: T88
theorem T89_ok : TabOk IP T89 := ⟨FE_ok c_u71q, T88_ok⟩
abbrev B_u163q : Type := Int
def p_u163q : PArgs := ⟨[.int .i64], []⟩
def r_u163q : List PRes := [⟨false, .int .i64, []⟩]
def tr_u163q (x0 : Int) : DT B_u163q :=
 .br (x0 == 1)
  (.at (9223372036854775807))
  (.br (x0 == 2)
   (.at (1000000000000))
   (.br (x0 == 3) (.at (1000000)) (.at (0))))
def f_u163q (x0 : Int) : Option B_u163q := lock (tr_u163q x0).ev
theorem c_u163q : FH IP 78 p_u163q r_u163q f_u163q := fun_FH (F := F78) (L := []) (t := tr_u163q) T89_ok (LOk_of (l := []) (by kernel_rfl) trivial) (by kernel_rfl) (fun v => by kernel_rfl) (fun _ => lock_eq _)
def T90 : Tab := (78, FE p_u163q r_u163q f_u163q) :: T89
theorem T90_ok : TabOk IP T90 := ⟨FE_ok c_u163q, T89_ok⟩
abbrev B_u149q : Type := Bool
def p_u149q : PArgs := ⟨[.agg [.int .i64, .int .i64, .str, .view 4]], []⟩
def r_u149q : List PRes := [⟨false, .bool, []⟩]
abbrev GT_u149q : Type := Int → Int → (List UInt8) → (List AV) → Option B_u149q
def GH_u149q (G_u149q : GT_u149q) : Prop := FH IP 60 p_u149q r_u149q (k4 G_u149q)
def TG_u149q (G_u149q : GT_u149q) : Tab := (60, FE p_u149q r_u149q (k4 G_u149q)) :: T90
theorem TG_u149q_ok (G_u149q : GT_u149q) (hG : GH_u149q G_u149q) : TabOk IP (TG_u149q G_u149q) := ⟨FE_ok (hG), T90_ok⟩
abbrev TT_u101q : Type := Int × Int × Int × List UInt8 × List AV
def hs_u101q : List PSt := [⟨[(1006000, .junk), (1, .ref 0 0 0), (3, .int .i64)], [(0, .box [.int .i64, .int .i64, .str, .view 4] false)], 1, 0⟩]
def x_u101q_0 (x0 x1 x2 : Int) (x3 : List UInt8) (x4 : List AV) : X × St := (X.ret, { tm := [(2, AV.bool false)], hp := [], nx := 0, k := 0 })
def x_u101q_1 (x0 x1 x2 : Int) (x3 : List UInt8) (x4 : List AV) : X × St := (X.exit 0, { tm := [(2, AV.junk)], hp := [], nx := 0, k := 0 })
def x_u101q : List (TT_u101q → X × St) := [(k5 x_u101q_0), (k5 x_u101q_1)]
def st_u101q_0 (G_u149q : GT_u149q) (x0 x1 x2 : Int) (x3 : List UInt8) (x4 : List AV) : DT (Rd TT_u101q) :=
 .br (decide (x0 < (↑x4.length : Int)))
  (.br (okAt [CS.int IntKind.i64, CS.int IntKind.i64, CS.str, CS.slice 4] x4 x0)
   (.bi (G_u149q (intOf (cellAt x4 x0 0)) (intOf (cellAt x4 x0 1)) (strOf (cellAt x4 x0 2)) (viewOf (cellAt x4 x0 3))) (fun y0 =>
    .br (!y0) (.at (.done 0)) (.at (.next ((IntKind.i64.wrap (x0 + 1), x1, x2, x3, x4)))))
    (.no))
   (.no))
  (.at (.done 1))
def st_u101q (G_u149q : GT_u149q) : TT_u101q → DT (Rd TT_u101q) := (fun v => st_u101q_0 G_u149q v.1 v.2.1 v.2.2.1 v.2.2.2.1 v.2.2.2.2)
def l_u101q (G_u149q : GT_u149q) (v : TT_u101q) : Option (Nat × TT_u101q) := lock (iterO (fun v => (st_u101q G_u149q v).ev) v)
theorem l_u101q_eq (G_u149q : GT_u149q) (v : TT_u101q) : l_u101q G_u149q v = iterO (fun v => (st_u101q G_u149q v).ev) v := lock_eq _
def ll_u101q (G_u149q : GT_u149q) : LEnt := LE (τ := TT_u101q) (hD hs_u101q) (l_u101q G_u149q) x_u101q
theorem t_u101q (G_u149q : GT_u149q) (hG : GH_u149q G_u149q) : Go.Eng.Told IP (loopAt F60 0).1 (loopAt F60 0).2 (ll_u101q G_u149q) := loop_LE (inferInstance : Inhabited TT_u101q) (hs := hs_u101q) (st := st_u101q G_u149q) (L := []) (TG_u149q_ok G_u149q hG) (LOk_of (l := []) (by kernel_rfl) trivial) (l_u101q_eq G_u149q) (fun v => by kernel_rfl) (fun v => by kernel_rfl)
def tr_u149q (G_u149q : GT_u149q) (x0 x1 : Int) (x2 : List UInt8) (x3 : List AV) : DT B_u149q :=
 .bi (f_u71q x0) (fun y0 =>
  .br ((↑x3.length : Int) != y0)
   (.at (false))
   (.br (decide (x1 < 0))
    (.at (false))
    (.bi (f_u163q x0) (fun y1 =>
     .br (decide (x1 > y1))
      (.at (false))
      (.br (x0 != 4)
       (.br (!x2 == [])
        (.at (false))
        (.bi (pj 0 (l_u101q G_u149q (0, x0, x1, x2, x3))) (fun y2 =>
         .at (false))
         (.bi (pj 1 (l_u101q G_u149q (0, x0, x1, x2, x3))) (fun y2 =>
          .at (true))
          (.no))))
       (.bi (pj 0 (l_u101q G_u149q (0, x0, x1, x2, x3))) (fun y2 =>
        .at (false))
        (.bi (pj 1 (l_u101q G_u149q (0, x0, x1, x2, x3))) (fun y2 =>
         .at (true))
         (.no)))))
     (.no))))
  (.no)
def N_u149q : Nat → GT_u149q
  | 0 => fun _ _ _ _ => none
  | n + 1 => fun x0 x1 x2 x3 => (tr_u149q ((N_u149q n)) x0 x1 x2 x3).ev
def f_u149q (x0 x1 : Int) (x2 : List UInt8) (x3 : List AV) : Option B_u149q := limO fun n => (N_u149q n) x0 x1 x2 x3
theorem N_u149q_ok : ∀ n, GH_u149q ((N_u149q n))
  | 0 => (fun v y h => nomatch h)
  | n + 1 => have hG := N_u149q_ok n
    fun_FH (F := F60) (L := [(1006000, ll_u101q ((N_u149q n)))]) (t := (k4 (tr_u149q ((N_u149q n))))) (TG_u149q_ok ((N_u149q n)) hG) (LOk_of (l := [loopAt F60 0]) (by kernel_rfl) ⟨sel_one (by kernel_rfl) (t_u101q ((N_u149q n)) hG), trivial⟩) (by kernel_rfl) (fun v => by kernel_rfl) (fun v => rfl)
theorem c_u149q : FH IP 60 p_u149q r_u149q (k4 f_u149q) := lim_FH (p := p_u149q) (rs := r_u149q) (s := fun n => (k4 ((N_u149q n)))) fun n => (N_u149q_ok n)
def T91 : Tab := (60, FE p_u149q r_u149q (k4 f_u149q)) :: T90
theorem T91_ok : TabOk IP T91 := ⟨FE_ok c_u149q, T90_ok⟩
abbrev TT_u74q : Type := List AV × List UInt8 × Int
def hs_u74q : List PSt := [⟨[(1007900, .junk), (0, .view 1), (1, .str), (5, .int .i64)], [], 0, 0⟩]
def x_u74q_0 (x0 : List AV) (x1 : List UInt8) (x2 : Int) : X × St := (X.exit 0, { tm := [(0, AV.view 1 x0), (1, AV.str x1), (5, AV.int IntKind.i64 x2)], hp := [], nx := 0, k := 0 })
def x_u74q : List (TT_u74q → X × St) := [(k3 x_u74q_0)]
def st_u74q_0 (x0 : List AV) (x1 : List UInt8) (x2 : Int) : DT (Rd TT_u74q) :=
 .bi (br (decide (x2 < (↑x0.length : Int))) (br (okAt [CS.str] x0 x2) (some (bytesLt (strOf (cellAt x0 x2 0)) x1)) none) (some false)) (fun y0 =>
  .br (y0) (.at (.next ((x0, x1, IntKind.i64.wrap (x2 + 1))))) (.at (.done 0)))
  (.no)
def st_u74q : TT_u74q → DT (Rd TT_u74q) := (fun v => st_u74q_0 v.1 v.2.1 v.2.2)
def l_u74q (v : TT_u74q) : Option (Nat × TT_u74q) := lock (iterO (fun v => (st_u74q v).ev) v)
theorem l_u74q_eq (v : TT_u74q) : l_u74q v = iterO (fun v => (st_u74q v).ev) v := lock_eq _
def ll_u74q : LEnt := LE (τ := TT_u74q) (hD hs_u74q) (l_u74q) x_u74q
theorem t_u74q : Go.Eng.Told IP (loopAt F79 0).1 (loopAt F79 0).2 (ll_u74q) := loop_LE (inferInstance : Inhabited TT_u74q) (hs := hs_u74q) (st := st_u74q) (L := []) T91_ok (LOk_of (l := []) (by kernel_rfl) trivial) (l_u74q_eq) (fun v => by kernel_rfl) (fun v => by kernel_rfl)
abbrev B_u119q : Type := List AV
def p_u119q : PArgs := ⟨[.view 1, .str], []⟩
def r_u119q : List PRes := [⟨false, .view 1, []⟩]
def tr_u119q (x0 : List AV) (x1 : List UInt8) : DT B_u119q :=
 .bi (pj 0 (l_u74q (x0, x1, 0))) (fun y0 =>
  .bi (br (decide (y0.2.2 < (↑y0.1.length : Int))) (br (okAt [CS.str] y0.1 y0.2.2) (some (strOf (cellAt y0.1 y0.2.2 0) == y0.2.1)) none) (some false)) (fun y1 =>
   .br (y1)
    (.at (y0.1))
    (.br (leB y0.2.2 y0.1.length && true)
     (.br (decide ((List.take y0.2.2.toNat y0.1).length = 0) && decide (1 = 1))
      (.br (leB y0.2.2 y0.1.length)
       (.br (decide ((List.drop y0.2.2.toNat y0.1).length = 0) && decide (1 = 1))
        (.at ([AV.str y0.2.1]))
        (.br (decide ((List.drop y0.2.2.toNat y0.1).length ≠ 0) && room (1 + (List.drop y0.2.2.toNat y0.1).length) 16)
         (.at (AV.str y0.2.1 :: List.drop y0.2.2.toNat y0.1))
         (.no)))
       (.no))
      (.br (decide ((List.take y0.2.2.toNat y0.1).length ≠ 0) && room (List.take y0.2.2.toNat y0.1).length 16)
       (.br (room ((List.take y0.2.2.toNat y0.1).length + 1) 16)
        (.br (leB y0.2.2 y0.1.length)
         (.br (decide ((List.drop y0.2.2.toNat y0.1).length = 0) && decide (1 = 1))
          (.at (List.take y0.2.2.toNat y0.1 ++ [AV.str y0.2.1]))
          (.br (decide ((List.drop y0.2.2.toNat y0.1).length ≠ 0) && room ((List.take y0.2.2.toNat y0.1 ++ [AV.str y0.2.1]).length + (List.drop y0.2.2.toNat y0.1).length) 16)
           (.at (List.take y0.2.2.toNat y0.1 ++ [AV.str y0.2.1] ++ List.drop y0.2.2.toNat y0.1))
           (.no)))
         (.no))
        (.no))
       (.no)))
     (.no)))
   (.no))
  (.no)
def f_u119q (x0 : List AV) (x1 : List UInt8) : Option B_u119q := lock (tr_u119q x0 x1).ev
theorem c_u119q : FH IP 79 p_u119q r_u119q (k2 f_u119q) := fun_FH (F := F79) (L := [(1007900, ll_u74q)]) (t := (k2 tr_u119q)) T91_ok (LOk_of (l := [loopAt F79 0]) (by kernel_rfl) ⟨sel_one (by kernel_rfl) t_u74q, trivial⟩) (by kernel_rfl) (fun v => by kernel_rfl) (fun _ => lock_eq _)
def T92 : Tab := (79, FE p_u119q r_u119q (k2 f_u119q)) :: T91
theorem T92_ok : TabOk IP T92 := ⟨FE_ok c_u119q, T91_ok⟩
abbrev TT_u98q : Type := (Int × List AV × Int × Int × Int × List UInt8 × List AV × List AV) ⊕ (Int × List AV × Int × Int × Int × List UInt8 × List AV) ⊕ (List AV × Int × List AV × Int × Int × Int × List UInt8 × List AV)
def hs_u98q : List PSt := [⟨[(1006101, .junk), (1, .ref 0 0 0), (3, .own 1 0), (4, .int .i64), (5, .view 1), (6, .int .i64)], [(0, .box [.int .i64, .int .i64, .str, .view 4] false), (1, .arr 1 false)], 2, 0⟩, ⟨[(1006101, .junk), (1, .ref 0 0 0), (3, .nils 1), (4, .int .i64), (5, .view 1), (6, .int .i64)], [(0, .box [.int .i64, .int .i64, .str, .view 4] false)], 1, 0⟩, ⟨[(1006101, .junk), (1, .ref 0 0 0), (3, .view 1), (4, .int .i64), (5, .view 1), (6, .int .i64)], [(0, .box [.int .i64, .int .i64, .str, .view 4] false)], 1, 0⟩]
def x_u98q_0 (x0 : Int) (x1 : List AV) (x2 x3 x4 : Int) (x5 : List UInt8) (x6 x7 : List AV) : X × St := (X.exit 2,
  { tm := [(1, AV.ref 0 0 0), (3, AV.own 1 0 none), (4, AV.int IntKind.i64 x0)],
    hp := [(0, Blk.box [AV.int IntKind.i64 x3, AV.int IntKind.i64 x4, AV.str x5, AV.view 4 x6] false), (1, Blk.arr 1 x7 false)], nx := 2, k := 0 })
def x_u98q_1 (x0 : Int) (x1 : List AV) (x2 x3 x4 : Int) (x5 : List UInt8) (x6 : List AV) : X × St := (X.exit 2,
  { tm := [(1, AV.ref 0 0 0), (3, AV.nils { sz := 1, kd := NKd.nil }), (4, AV.int IntKind.i64 x0)],
    hp := [(0, Blk.box [AV.int IntKind.i64 x3, AV.int IntKind.i64 x4, AV.str x5, AV.view 4 x6] false)], nx := 1, k := 0 })
def x_u98q_2 (x0 : List AV) (x1 : Int) (x2 : List AV) (x3 x4 x5 : Int) (x6 : List UInt8) (x7 : List AV) : X × St := (X.exit 2,
  { tm := [(1, AV.ref 0 0 0), (3, AV.view 1 x0), (4, AV.int IntKind.i64 x1)], hp := [(0, Blk.box [AV.int IntKind.i64 x4, AV.int IntKind.i64 x5, AV.str x6, AV.view 4 x7] false)],
    nx := 1, k := 0 })
def x_u98q : List (TT_u98q → X × St) := [fun w => (k8 x_u98q_0) ((sl w)), fun w => (k7 x_u98q_1) ((sl (sr w))), fun w => (k8 x_u98q_2) ((sr (sr w)))]
def st_u98q_0 (x0 : Int) (x1 : List AV) (x2 x3 x4 : Int) (x5 : List UInt8) (x6 x7 : List AV) : DT (Rd TT_u98q) :=
 .br (decide (x2 < (↑x1.length : Int)))
  (.br (okAt [CS.str] x1 x2)
   (.bi (f_u119q x7 (strOf (cellAt x1 x2 0))) (fun y0 =>
    .at (.next ((.inr (.inr (y0, x0, x1, IntKind.i64.wrap (x2 + 1), x3, x4, x5, x6))))))
    (.no))
   (.no))
  (.at (.done 0))
def st_u98q_1 (x0 : Int) (x1 : List AV) (x2 x3 x4 : Int) (x5 : List UInt8) (x6 : List AV) : DT (Rd TT_u98q) :=
 .br (decide (x2 < (↑x1.length : Int)))
  (.br (okAt [CS.str] x1 x2)
   (.bi (f_u119q [] (strOf (cellAt x1 x2 0))) (fun y0 =>
    .at (.next ((.inr (.inr (y0, x0, x1, IntKind.i64.wrap (x2 + 1), x3, x4, x5, x6))))))
    (.no))
   (.no))
  (.at (.done 1))
def st_u98q_2 (x0 : List AV) (x1 : Int) (x2 : List AV) (x3 x4 x5 : Int) (x6 : List UInt8) (x7 : List AV) : DT (Rd TT_u98q) :=
 .br (decide (x3 < (↑x2.length : Int)))
  (.br (okAt [CS.str] x2 x3)
   (.bi (f_u119q x0 (strOf (cellAt x2 x3 0))) (fun y0 =>
    .at (.next ((.inr (.inr (y0, x1, x2, IntKind.i64.wrap (x3 + 1), x4, x5, x6, x7))))))
    (.no))
   (.no))
  (.at (.done 2))
def st_u98q : TT_u98q → DT (Rd TT_u98q) := (Sum.elim (fun v => st_u98q_0 v.1 v.2.1 v.2.2.1 v.2.2.2.1 v.2.2.2.2.1 v.2.2.2.2.2.1 v.2.2.2.2.2.2.1 v.2.2.2.2.2.2.2) (Sum.elim (fun v => st_u98q_1 v.1 v.2.1 v.2.2.1 v.2.2.2.1 v.2.2.2.2.1 v.2.2.2.2.2.1 v.2.2.2.2.2.2) (fun v => st_u98q_2 v.1 v.2.1 v.2.2.1 v.2.2.2.1 v.2.2.2.2.1 v.2.2.2.2.2.1 v.2.2.2.2.2.2.1 v.2.2.2.2.2.2.2)))
def l_u98q (v : TT_u98q) : Option (Nat × TT_u98q) := lock (iterO (fun v => (st_u98q v).ev) v)
theorem l_u98q_eq (v : TT_u98q) : l_u98q v = iterO (fun v => (st_u98q v).ev) v := lock_eq _
def ll_u98q : LEnt := LE (τ := TT_u98q) (hD hs_u98q) (l_u98q) x_u98q
theorem t_u98q : Go.Eng.Told IP (loopAt F61 1).1 (loopAt F61 1).2 (ll_u98q) := loop_LE (inferInstance : Inhabited TT_u98q) (hs := hs_u98q) (st := st_u98q) (L := []) T92_ok (LOk_of (l := []) (by kernel_rfl) trivial) (l_u98q_eq) (fun v => match v with | (.inl v) => by kernel_rfl | (.inr (.inl v)) => by kernel_rfl | (.inr (.inr v)) => by kernel_rfl) (fun v => match v with | (.inl v) => by kernel_rfl | (.inr (.inl v)) => by kernel_rfl | (.inr (.inr v)) => by kernel_rfl)
abbrev B_u146q : Type := List AV
def p_u146q : PArgs := ⟨[.agg [.int .i64, .int .i64, .str, .view 4]], []⟩
def r_u146q : List PRes := [⟨false, .view 1, []⟩]
abbrev GT_u146q : Type := Int → Int → (List UInt8) → (List AV) → Option B_u146q
def GH_u146q (G_u146q : GT_u146q) : Prop := FH IP 61 p_u146q r_u146q (k4 G_u146q)
def TG_u146q (G_u146q : GT_u146q) : Tab := (61, FE p_u146q r_u146q (k4 G_u146q)) :: T92
theorem TG_u146q_ok (G_u146q : GT_u146q) (hG : GH_u146q G_u146q) : TabOk IP (TG_u146q G_u146q) := ⟨FE_ok (hG), T92_ok⟩
abbrev TT_u97q : Type := (Int × Int × Int × List UInt8 × List AV × List AV) ⊕ (Int × Int × Int × List UInt8 × List AV) ⊕ (List AV × Int × Int × Int × List UInt8 × List AV)
def hs_u97q : List PSt := [⟨[(1006100, .junk), (1, .ref 0 0 0), (3, .own 1 0), (4, .int .i64)], [(0, .box [.int .i64, .int .i64, .str, .view 4] false), (1, .arr 1 false)], 2, 0⟩, ⟨[(1006100, .junk), (1, .ref 0 0 0), (3, .nils 1), (4, .int .i64)], [(0, .box [.int .i64, .int .i64, .str, .view 4] false)], 1, 0⟩, ⟨[(1006100, .junk), (1, .ref 0 0 0), (3, .view 1), (4, .int .i64)], [(0, .box [.int .i64, .int .i64, .str, .view 4] false)], 1, 0⟩]
def x_u97q_0 (x0 x1 x2 : Int) (x3 : List UInt8) (x4 x5 : List AV) : X × St := (X.exit 0, { tm := [(3, AV.own 0 0 none)], hp := [(0, Blk.arr 1 x5 false)], nx := 1, k := 0 })
def x_u97q_1 (x0 x1 x2 : Int) (x3 : List UInt8) (x4 : List AV) : X × St := (X.exit 0, { tm := [(3, AV.nils { sz := 1, kd := NKd.nil })], hp := [], nx := 0, k := 0 })
def x_u97q_2 (x0 : List AV) (x1 x2 x3 : Int) (x4 : List UInt8) (x5 : List AV) : X × St := (X.exit 0, { tm := [(3, AV.view 1 x0)], hp := [], nx := 0, k := 0 })
def x_u97q : List (TT_u97q → X × St) := [fun w => (k6 x_u97q_0) ((sl w)), fun w => (k5 x_u97q_1) ((sl (sr w))), fun w => (k6 x_u97q_2) ((sr (sr w)))]
def st_u97q_0 (G_u146q : GT_u146q) (x0 x1 x2 : Int) (x3 : List UInt8) (x4 x5 : List AV) : DT (Rd TT_u97q) :=
 .br (decide (x0 < (↑x4.length : Int)))
  (.br (okAt [CS.int IntKind.i64, CS.int IntKind.i64, CS.str, CS.slice 4] x4 x0)
   (.bi (G_u146q (intOf (cellAt x4 x0 0)) (intOf (cellAt x4 x0 1)) (strOf (cellAt x4 x0 2)) (viewOf (cellAt x4 x0 3))) (fun y0 =>
    .bi (pj 0 (l_u98q (Sum.inl (x0, y0, 0, x1, x2, x3, x4, x5)))) (fun y1 =>
     .at (.next ((.inl (IntKind.i64.wrap ((sl y1).1 + 1), (sl y1).2.2.2.1, (sl y1).2.2.2.2.1, (sl y1).2.2.2.2.2.1, (sl y1).2.2.2.2.2.2.1, (sl y1).2.2.2.2.2.2.2)))))
     (.bi (pj 1 (l_u98q (Sum.inl (x0, y0, 0, x1, x2, x3, x4, x5)))) (fun y1 =>
      .at (.next ((.inr (.inl (IntKind.i64.wrap ((sl (sr y1)).1 + 1), (sl (sr y1)).2.2.2.1, (sl (sr y1)).2.2.2.2.1, (sl (sr y1)).2.2.2.2.2.1, (sl (sr y1)).2.2.2.2.2.2))))))
      (.bi (pj 2 (l_u98q (Sum.inl (x0, y0, 0, x1, x2, x3, x4, x5)))) (fun y1 =>
       .at (.next ((.inr (.inr ((sr (sr y1)).1, IntKind.i64.wrap ((sr (sr y1)).2.1 + 1), (sr (sr y1)).2.2.2.2.1, (sr (sr y1)).2.2.2.2.2.1, (sr (sr y1)).2.2.2.2.2.2.1, (sr (sr y1)).2.2.2.2.2.2.2))))))
       (.no))))
    (.no))
   (.no))
  (.at (.done 0))
def st_u97q_1 (G_u146q : GT_u146q) (x0 x1 x2 : Int) (x3 : List UInt8) (x4 : List AV) : DT (Rd TT_u97q) :=
 .br (decide (x0 < (↑x4.length : Int)))
  (.br (okAt [CS.int IntKind.i64, CS.int IntKind.i64, CS.str, CS.slice 4] x4 x0)
   (.bi (G_u146q (intOf (cellAt x4 x0 0)) (intOf (cellAt x4 x0 1)) (strOf (cellAt x4 x0 2)) (viewOf (cellAt x4 x0 3))) (fun y0 =>
    .bi (pj 0 (l_u98q (Sum.inr (Sum.inl (x0, y0, 0, x1, x2, x3, x4))))) (fun y1 =>
     .at (.next ((.inl (IntKind.i64.wrap ((sl y1).1 + 1), (sl y1).2.2.2.1, (sl y1).2.2.2.2.1, (sl y1).2.2.2.2.2.1, (sl y1).2.2.2.2.2.2.1, (sl y1).2.2.2.2.2.2.2)))))
     (.bi (pj 1 (l_u98q (Sum.inr (Sum.inl (x0, y0, 0, x1, x2, x3, x4))))) (fun y1 =>
      .at (.next ((.inr (.inl (IntKind.i64.wrap ((sl (sr y1)).1 + 1), (sl (sr y1)).2.2.2.1, (sl (sr y1)).2.2.2.2.1, (sl (sr y1)).2.2.2.2.2.1, (sl (sr y1)).2.2.2.2.2.2))))))
      (.bi (pj 2 (l_u98q (Sum.inr (Sum.inl (x0, y0, 0, x1, x2, x3, x4))))) (fun y1 =>
       .at (.next ((.inr (.inr ((sr (sr y1)).1, IntKind.i64.wrap ((sr (sr y1)).2.1 + 1), (sr (sr y1)).2.2.2.2.1, (sr (sr y1)).2.2.2.2.2.1, (sr (sr y1)).2.2.2.2.2.2.1, (sr (sr y1)).2.2.2.2.2.2.2))))))
       (.no))))
    (.no))
   (.no))
  (.at (.done 1))
def st_u97q_2 (G_u146q : GT_u146q) (x0 : List AV) (x1 x2 x3 : Int) (x4 : List UInt8) (x5 : List AV) : DT (Rd TT_u97q) :=
 .br (decide (x1 < (↑x5.length : Int)))
  (.br (okAt [CS.int IntKind.i64, CS.int IntKind.i64, CS.str, CS.slice 4] x5 x1)
   (.bi (G_u146q (intOf (cellAt x5 x1 0)) (intOf (cellAt x5 x1 1)) (strOf (cellAt x5 x1 2)) (viewOf (cellAt x5 x1 3))) (fun y0 =>
    .bi (pj 0 (l_u98q (Sum.inr (Sum.inr (x0, x1, y0, 0, x2, x3, x4, x5))))) (fun y1 =>
     .at (.next ((.inl (IntKind.i64.wrap ((sl y1).1 + 1), (sl y1).2.2.2.1, (sl y1).2.2.2.2.1, (sl y1).2.2.2.2.2.1, (sl y1).2.2.2.2.2.2.1, (sl y1).2.2.2.2.2.2.2)))))
     (.bi (pj 1 (l_u98q (Sum.inr (Sum.inr (x0, x1, y0, 0, x2, x3, x4, x5))))) (fun y1 =>
      .at (.next ((.inr (.inl (IntKind.i64.wrap ((sl (sr y1)).1 + 1), (sl (sr y1)).2.2.2.1, (sl (sr y1)).2.2.2.2.1, (sl (sr y1)).2.2.2.2.2.1, (sl (sr y1)).2.2.2.2.2.2))))))
      (.bi (pj 2 (l_u98q (Sum.inr (Sum.inr (x0, x1, y0, 0, x2, x3, x4, x5))))) (fun y1 =>
       .at (.next ((.inr (.inr ((sr (sr y1)).1, IntKind.i64.wrap ((sr (sr y1)).2.1 + 1), (sr (sr y1)).2.2.2.2.1, (sr (sr y1)).2.2.2.2.2.1, (sr (sr y1)).2.2.2.2.2.2.1, (sr (sr y1)).2.2.2.2.2.2.2))))))
       (.no))))
    (.no))
   (.no))
  (.at (.done 2))
def st_u97q (G_u146q : GT_u146q) : TT_u97q → DT (Rd TT_u97q) := (Sum.elim (fun v => st_u97q_0 G_u146q v.1 v.2.1 v.2.2.1 v.2.2.2.1 v.2.2.2.2.1 v.2.2.2.2.2) (Sum.elim (fun v => st_u97q_1 G_u146q v.1 v.2.1 v.2.2.1 v.2.2.2.1 v.2.2.2.2) (fun v => st_u97q_2 G_u146q v.1 v.2.1 v.2.2.1 v.2.2.2.1 v.2.2.2.2.1 v.2.2.2.2.2)))
def l_u97q (G_u146q : GT_u146q) (v : TT_u97q) : Option (Nat × TT_u97q) := lock (iterO (fun v => (st_u97q G_u146q v).ev) v)
theorem l_u97q_eq (G_u146q : GT_u146q) (v : TT_u97q) : l_u97q G_u146q v = iterO (fun v => (st_u97q G_u146q v).ev) v := lock_eq _
def ll_u97q (G_u146q : GT_u146q) : LEnt := LE (τ := TT_u97q) (hD hs_u97q) (l_u97q G_u146q) x_u97q
theorem t_u97q (G_u146q : GT_u146q) (hG : GH_u146q G_u146q) : Go.Eng.Told IP (loopAt F61 0).1 (loopAt F61 0).2 (ll_u97q G_u146q) := loop_LE (inferInstance : Inhabited TT_u97q) (hs := hs_u97q) (st := st_u97q G_u146q) (L := [(1006101, ll_u98q)]) (TG_u146q_ok G_u146q hG) (LOk_of (l := [loopAt F61 1]) (by kernel_rfl) ⟨sel_one (by kernel_rfl) t_u98q, trivial⟩) (l_u97q_eq G_u146q) (fun v => match v with | (.inl v) => by kernel_rfl | (.inr (.inl v)) => by kernel_rfl | (.inr (.inr v)) => by kernel_rfl) (fun v => match v with | (.inl v) => by kernel_rfl | (.inr (.inl v)) => by kernel_rfl | (.inr (.inr v)) => by kernel_rfl)
def tr_u146q (G_u146q : GT_u146q) (x0 x1 : Int) (x2 : List UInt8) (x3 : List AV) : DT B_u146q :=
 .br (x0 == 4)
  (.bi (pj 0 (l_u97q G_u146q (Sum.inl (0, x0, x1, x2, x3, [AV.str x2])))) (fun y0 =>
   .at ((sl y0).2.2.2.2.2))
   (.bi (pj 1 (l_u97q G_u146q (Sum.inl (0, x0, x1, x2, x3, [AV.str x2])))) (fun y0 =>
    .at ([]))
    (.bi (pj 2 (l_u97q G_u146q (Sum.inl (0, x0, x1, x2, x3, [AV.str x2])))) (fun y0 =>
     .at ((sr (sr y0)).1))
     (.no))))
  (.bi (pj 0 (l_u97q G_u146q (Sum.inr (Sum.inl (0, x0, x1, x2, x3))))) (fun y0 =>
   .at ((sl y0).2.2.2.2.2))
   (.bi (pj 1 (l_u97q G_u146q (Sum.inr (Sum.inl (0, x0, x1, x2, x3))))) (fun y0 =>
    .at ([]))
    (.bi (pj 2 (l_u97q G_u146q (Sum.inr (Sum.inl (0, x0, x1, x2, x3))))) (fun y0 =>
     .at ((sr (sr y0)).1))
     (.no))))
def N_u146q : Nat → GT_u146q
  | 0 => fun _ _ _ _ => none
  | n + 1 => fun x0 x1 x2 x3 => (tr_u146q ((N_u146q n)) x0 x1 x2 x3).ev
def f_u146q (x0 x1 : Int) (x2 : List UInt8) (x3 : List AV) : Option B_u146q := limO fun n => (N_u146q n) x0 x1 x2 x3
theorem N_u146q_ok : ∀ n, GH_u146q ((N_u146q n))
  | 0 => (fun v y h => nomatch h)
  | n + 1 => have hG := N_u146q_ok n
    fun_FH (F := F61) (L := [(1006100, ll_u97q ((N_u146q n)))]) (t := (k4 (tr_u146q ((N_u146q n))))) (TG_u146q_ok ((N_u146q n)) hG) (LOk_of (l := [loopAt F61 0, loopAt F61 1]) (by kernel_rfl) ⟨sel_one (by kernel_rfl) (t_u97q ((N_u146q n)) hG), sel_no (by kernel_rfl), trivial⟩) (by kernel_rfl) (fun v => by kernel_rfl) (fun v => rfl)
theorem c_u146q : FH IP 61 p_u146q r_u146q (k4 f_u146q) := lim_FH (p := p_u146q) (rs := r_u146q) (s := fun n => (k4 ((N_u146q n)))) fun n => (N_u146q_ok n)
def T93 : Tab := (61, FE p_u146q r_u146q (k4 f_u146q)) :: T92
theorem T93_ok : TabOk IP T93 := ⟨FE_ok c_u146q, T92_ok⟩
abbrev TT_u49q : Type := List AV × Int
def hs_u49q : List PSt := [⟨[(1004000, .junk), (3, .view 1), (4, .int .i64)], [], 0, 0⟩]
def x_u49q_0 (x0 : List AV) (x1 : Int) : X × St := (X.ret, { tm := [(2, AV.int IntKind.i64 4)], hp := [], nx := 0, k := 0 })
def x_u49q_1 (x0 : List AV) (x1 : Int) : X × St := (X.exit 0, { tm := [(2, AV.junk)], hp := [], nx := 0, k := 0 })
def x_u49q : List (TT_u49q → X × St) := [(k2 x_u49q_0), (k2 x_u49q_1)]
def st_u49q_0 (x0 : List AV) (x1 : Int) : DT (Rd TT_u49q) :=
 .br (decide (x1 < (↑x0.length : Int)))
  (.br (okAt [CS.str] x0 x1)
   (.bi (f_u73q (strOf (cellAt x0 x1 0))) (fun y0 =>
    .br (!y0) (.at (.done 0)) (.at (.next ((x0, IntKind.i64.wrap (x1 + 1))))))
    (.no))
   (.no))
  (.at (.done 1))
def st_u49q : TT_u49q → DT (Rd TT_u49q) := (fun v => st_u49q_0 v.1 v.2)
def l_u49q (v : TT_u49q) : Option (Nat × TT_u49q) := lock (iterO (fun v => (st_u49q v).ev) v)
theorem l_u49q_eq (v : TT_u49q) : l_u49q v = iterO (fun v => (st_u49q v).ev) v := lock_eq _
def ll_u49q : LEnt := LE (τ := TT_u49q) (hD hs_u49q) (l_u49q) x_u49q
theorem t_u49q : Go.Eng.Told IP (loopAt F40 0).1 (loopAt F40 0).2 (ll_u49q) := loop_LE (inferInstance : Inhabited TT_u49q) (hs := hs_u49q) (st := st_u49q) (L := []) T93_ok (LOk_of (l := []) (by kernel_rfl) trivial) (l_u49q_eq) (fun v => by kernel_rfl) (fun v => by kernel_rfl)
abbrev B_u72q : Type := Int
def p_u72q : PArgs := ⟨[.agg [.int .i64, .int .i64, .str, .view 4]], []⟩
def r_u72q : List PRes := [⟨false, .int .i64, []⟩]
def tr_u72q (x0 x1 : Int) (x2 : List UInt8) (x3 : List AV) : DT B_u72q :=
 .bi (f_u145q x0 x1 x2 x3 64) (fun y0 =>
  .bi (br y0 (some true) (br (sm (f_u144q x0 x1 x2 x3)) (some (decide (gv (f_u144q x0 x1 x2 x3) > 8))) none)) (fun y1 =>
   .br (y1)
    (.at (5))
    (.bi (f_u149q x0 x1 x2 x3) (fun y2 =>
     .br (!y2)
      (.at (1))
      (.bi (f_u146q x0 x1 x2 x3) (fun y3 =>
       .bi (pj 0 (l_u49q (y3, 0))) (fun y4 =>
        .at (4))
        (.bi (pj 1 (l_u49q (y3, 0))) (fun y4 =>
         .at (0))
         (.no)))
       (.no)))
     (.no)))
   (.no))
  (.no)
def f_u72q (x0 x1 : Int) (x2 : List UInt8) (x3 : List AV) : Option B_u72q := lock (tr_u72q x0 x1 x2 x3).ev
theorem c_u72q : FH IP 40 p_u72q r_u72q (k4 f_u72q) := fun_FH (F := F40) (L := [(1004000, ll_u49q)]) (t := (k4 tr_u72q)) T93_ok (LOk_of (l := [loopAt F40 0]) (by kernel_rfl) ⟨sel_one (by kernel_rfl) t_u49q, trivial⟩) (by kernel_rfl) (fun v => by kernel_rfl) (fun _ => lock_eq _)
def T94 : Tab := (40, FE p_u72q r_u72q (k4 f_u72q)) :: T93
theorem T94_ok : TabOk IP T94 := ⟨FE_ok c_u72q, T93_ok⟩
abbrev TT_u166q : Type := List AV × Int × Int × Int × List UInt8 × List AV
def hs_u166q : List PSt := [⟨[(1004100, .junk), (1, .view 2), (2, .ref 0 0 0), (6, .int .i64)], [(0, .box [.int .i64, .int .i64, .str, .view 4] false)], 1, 0⟩]
def x_u166q_0 (x0 : List AV) (x1 x2 x3 : Int) (x4 : List UInt8) (x5 : List AV) : X × St := (X.ret, { tm := [(4, AV.int IntKind.i64 (intOf (cellAt x0 x1 1))), (5, AV.int IntKind.i64 0)], hp := [], nx := 0, k := 0 })
def x_u166q_1 (x0 : List AV) (x1 x2 x3 : Int) (x4 : List UInt8) (x5 : List AV) : X × St := (X.ret, { tm := [(4, AV.int IntKind.i64 0), (5, AV.int IntKind.i64 3)], hp := [], nx := 0, k := 0 })
def x_u166q_2 (x0 : List AV) (x1 x2 x3 : Int) (x4 : List UInt8) (x5 : List AV) : X × St := (X.exit 1, { tm := [(4, AV.junk), (5, AV.junk)], hp := [], nx := 0, k := 0 })
def x_u166q : List (TT_u166q → X × St) := [(k6 x_u166q_0), (k6 x_u166q_1), (k6 x_u166q_2)]
def st_u166q_0 (x0 : List AV) (x1 x2 x3 : Int) (x4 : List UInt8) (x5 : List AV) : DT (Rd TT_u166q) :=
 .br (decide (x1 < (↑x0.length : Int)))
  (.br (okAt [CS.str, CS.int IntKind.i64] x0 x1)
   (.br (strOf (cellAt x0 x1 0) == x4)
    (.br (okAt [CS.str, CS.int IntKind.i64] x0 x1)
     (.bi (f_u164q (intOf (cellAt x0 x1 1))) (fun y0 =>
      .br (y0)
       (.br (okAt [CS.str, CS.int IntKind.i64] x0 x1) (.at (.done 0)) (.no))
       (.br (okAt [CS.str, CS.int IntKind.i64] x0 x1)
        (.br (strOf (cellAt x0 x1 0) == x4) (.at (.done 1)) (.at (.next ((x0, IntKind.i64.wrap (x1 + 1), x2, x3, x4, x5)))))
        (.no)))
      (.no))
     (.no))
    (.br (okAt [CS.str, CS.int IntKind.i64] x0 x1)
     (.br (strOf (cellAt x0 x1 0) == x4) (.at (.done 1)) (.at (.next ((x0, IntKind.i64.wrap (x1 + 1), x2, x3, x4, x5)))))
     (.no)))
   (.no))
  (.at (.done 2))
def st_u166q : TT_u166q → DT (Rd TT_u166q) := (fun v => st_u166q_0 v.1 v.2.1 v.2.2.1 v.2.2.2.1 v.2.2.2.2.1 v.2.2.2.2.2)
def l_u166q (v : TT_u166q) : Option (Nat × TT_u166q) := lock (iterO (fun v => (st_u166q v).ev) v)
theorem l_u166q_eq (v : TT_u166q) : l_u166q v = iterO (fun v => (st_u166q v).ev) v := lock_eq _
def ll_u166q : LEnt := LE (τ := TT_u166q) (hD hs_u166q) (l_u166q) x_u166q
theorem t_u166q : Go.Eng.Told IP (loopAt F41 0).1 (loopAt F41 0).2 (ll_u166q) := loop_LE (inferInstance : Inhabited TT_u166q) (hs := hs_u166q) (st := st_u166q) (L := []) T94_ok (LOk_of (l := []) (by kernel_rfl) trivial) (l_u166q_eq) (fun v => by kernel_rfl) (fun v => by kernel_rfl)
abbrev TT_u75q : Type := Int × List AV × Int
def hs_u75q : List PSt := [⟨[(1006200, .junk), (0, .int .i64), (1, .view 1), (6, .int .i64)], [], 0, 0⟩]
def x_u75q_0 (x0 : Int) (x1 : List AV) (x2 : Int) : X × St := (X.ret, { tm := [(0, AV.int IntKind.i64 x0), (1, AV.view 1 x1), (4, AV.int IntKind.i64 0), (5, AV.bool false)], hp := [], nx := 0, k := 0 })
def x_u75q_1 (x0 : Int) (x1 : List AV) (x2 : Int) : X × St := (X.exit 0, { tm := [(0, AV.int IntKind.i64 x0), (1, AV.view 1 x1), (4, AV.junk), (5, AV.junk)], hp := [], nx := 0, k := 0 })
def x_u75q : List (TT_u75q → X × St) := [(k3 x_u75q_0), (k3 x_u75q_1)]
def st_u75q_0 (x0 : Int) (x1 : List AV) (x2 : Int) : DT (Rd TT_u75q) :=
 .br (decide (x2 < (↑x1.length : Int)))
  (.br (okAt [CS.int IntKind.i64] x1 x2)
   (.bi (f_u164q (intOf (cellAt x1 x2 0))) (fun y0 =>
    .br (!y0) (.at (.done 0)) (.at (.next ((x0, x1, IntKind.i64.wrap (x2 + 1))))))
    (.no))
   (.no))
  (.at (.done 1))
def st_u75q : TT_u75q → DT (Rd TT_u75q) := (fun v => st_u75q_0 v.1 v.2.1 v.2.2)
def l_u75q (v : TT_u75q) : Option (Nat × TT_u75q) := lock (iterO (fun v => (st_u75q v).ev) v)
theorem l_u75q_eq (v : TT_u75q) : l_u75q v = iterO (fun v => (st_u75q v).ev) v := lock_eq _
def ll_u75q : LEnt := LE (τ := TT_u75q) (hD hs_u75q) (l_u75q) x_u75q
theorem t_u75q : Go.Eng.Told IP (loopAt F62 0).1 (loopAt F62 0).2 (ll_u75q) := loop_LE (inferInstance : Inhabited TT_u75q) (hs := hs_u75q) (st := st_u75q) (L := []) T94_ok (LOk_of (l := []) (by kernel_rfl) trivial) (l_u75q_eq) (fun v => by kernel_rfl) (fun v => by kernel_rfl)
abbrev B_u124q : Type := Bool
def p_u124q : PArgs := ⟨[.int .i64], []⟩
def r_u124q : List PRes := [⟨false, .bool, []⟩]
def tr_u124q (x0 : Int) : DT B_u124q :=
 .bi (br (x0 == 1) (some true) (some (x0 == 2))) (fun y0 =>
  .bi (br y0 (some true) (some (x0 == 3))) (fun y1 =>
   .at (y1))
   (.no))
  (.no)
def f_u124q (x0 : Int) : Option B_u124q := lock (tr_u124q x0).ev
theorem c_u124q : FH IP 93 p_u124q r_u124q f_u124q := fun_FH (F := F93) (L := []) (t := tr_u124q) T94_ok (LOk_of (l := []) (by kernel_rfl) trivial) (by kernel_rfl) (fun v => by kernel_rfl) (fun _ => lock_eq _)
def T95 : Tab := (93, FE p_u124q r_u124q f_u124q) :: T94
theorem T95_ok : TabOk IP T95 := ⟨FE_ok c_u124q, T94_ok⟩
abbrev B_u102q : Type := Int × Bool
def p_u102q : PArgs := ⟨[.int .i64, .int .i64], []⟩
def r_u102q : List PRes := [⟨false, .tup [.int .i64, .bool], []⟩]
def tr_u102q (x0 x1 : Int) : DT B_u102q :=
 .bi (f_u124q x0) (fun y0 =>
  .bi (br (!y0) (some true) (br (sm (f_u124q x1)) (some !gv (f_u124q x1)) none)) (fun y1 =>
   .br (y1)
    (.at ((0, false)))
    (.br (x0 == 1)
     (.at ((x1, true)))
     (.br (x1 == 1) (.at ((x0, true))) (.at ((2, x0 != x1))))))
   (.no))
  (.no)
def f_u102q (x0 x1 : Int) : Option B_u102q := lock (tr_u102q x0 x1).ev
theorem c_u102q : FH IP 102 p_u102q r_u102q (k2 f_u102q) := fun_FH (F := F102) (L := []) (t := (k2 tr_u102q)) T95_ok (LOk_of (l := []) (by kernel_rfl) trivial) (by kernel_rfl) (fun v => by kernel_rfl) (fun _ => lock_eq _)
def T96 : Tab := (102, FE p_u102q r_u102q (k2 f_u102q)) :: T95
theorem T96_ok : TabOk IP T96 := ⟨FE_ok c_u102q, T95_ok⟩
abbrev B_u173q : Type := Int × Bool
def p_u173q : PArgs := ⟨[.int .i64, .int .i64, .int .i64], []⟩
def r_u173q : List PRes := [⟨false, .tup [.int .i64, .bool], []⟩]
def tr_u173q (x0 x1 x2 : Int) : DT B_u173q :=
 .br (x0 == 5)
  (.br (x1 == 4)
   (.at ((x1, x2 == 1)))
   (.bi (br (x1 == x2) (br (sm (f_u124q x1)) (some (gv (f_u124q x1))) none) (some false)) (fun y0 =>
    .at ((x1, y0)))
    (.no)))
  (.br (x0 == 6)
   (.bi (br (x1 == 4) (some (x2 == 4)) (some false)) (fun y0 =>
    .br (y0)
     (.at ((1, true)))
     (.br (x1 == 4)
      (.at ((x1, x2 == 1)))
      (.bi (br (x1 == x2) (br (sm (f_u124q x1)) (some (gv (f_u124q x1))) none) (some false)) (fun y1 =>
       .at ((x1, y1)))
       (.no))))
    (.no))
   (.br (x0 == 7)
    (.bi (f_u102q x1 x2) (fun y0 =>
     .at ((y0.1, y0.2)))
     (.no))
    (.br (x0 == 8)
     (.bi (br (x1 == 2) (some (x2 == 2)) (some false)) (fun y0 =>
      .br (y0)
       (.at ((1, true)))
       (.bi (f_u124q x1) (fun y1 =>
        .bi (br y1 (some (x2 == 1)) (some false)) (fun y2 =>
         .at ((x1, y2)))
         (.no))
        (.no)))
      (.no))
     (.br (x0 == 10)
      (.br (x0 == 10)
       (.at ((5, x1 == x2)))
       (.br (x0 == 12)
        (.br (x0 == 12)
         (.bi (br (x1 == x2) (some (x1 != 5)) (some false)) (fun y0 =>
          .at ((5, y0)))
          (.no))
         (.br (x0 == 14)
          (.br (x0 == 14)
           (.bi (br (x1 == 5) (some (x2 == 5)) (some false)) (fun y0 =>
            .at ((5, y0)))
            (.no))
           (.br (x0 == 17)
            (.br (x0 == 17)
             (.bi (br (x1 == x2) (some (x1 != 5)) (some false)) (fun y0 =>
              .at ((x1, y0)))
              (.no))
             (.at ((0, false))))
            (.br (x0 == 18)
             (.bi (br (x1 == x2) (some (x1 != 5)) (some false)) (fun y0 =>
              .at ((x1, y0)))
              (.no))
             (.at ((0, false))))))
          (.br (x0 == 15)
           (.bi (br (x1 == 5) (some (x2 == 5)) (some false)) (fun y0 =>
            .at ((5, y0)))
            (.no))
           (.br (x0 == 17)
            (.br (x0 == 17)
             (.bi (br (x1 == x2) (some (x1 != 5)) (some false)) (fun y0 =>
              .at ((x1, y0)))
              (.no))
             (.at ((0, false))))
            (.br (x0 == 18)
             (.bi (br (x1 == x2) (some (x1 != 5)) (some false)) (fun y0 =>
              .at ((x1, y0)))
              (.no))
             (.at ((0, false))))))))
        (.br (x0 == 13)
         (.bi (br (x1 == x2) (some (x1 != 5)) (some false)) (fun y0 =>
          .at ((5, y0)))
          (.no))
         (.br (x0 == 14)
          (.br (x0 == 14)
           (.bi (br (x1 == 5) (some (x2 == 5)) (some false)) (fun y0 =>
            .at ((5, y0)))
            (.no))
           (.br (x0 == 17)
            (.br (x0 == 17)
             (.bi (br (x1 == x2) (some (x1 != 5)) (some false)) (fun y0 =>
              .at ((x1, y0)))
              (.no))
             (.at ((0, false))))
            (.br (x0 == 18)
             (.bi (br (x1 == x2) (some (x1 != 5)) (some false)) (fun y0 =>
              .at ((x1, y0)))
              (.no))
             (.at ((0, false))))))
          (.br (x0 == 15)
           (.bi (br (x1 == 5) (some (x2 == 5)) (some false)) (fun y0 =>
            .at ((5, y0)))
            (.no))
           (.br (x0 == 17)
            (.br (x0 == 17)
             (.bi (br (x1 == x2) (some (x1 != 5)) (some false)) (fun y0 =>
              .at ((x1, y0)))
              (.no))
             (.at ((0, false))))
            (.br (x0 == 18)
             (.bi (br (x1 == x2) (some (x1 != 5)) (some false)) (fun y0 =>
              .at ((x1, y0)))
              (.no))
             (.at ((0, false))))))))))
      (.br (x0 == 11)
       (.at ((5, x1 == x2)))
       (.br (x0 == 12)
        (.br (x0 == 12)
         (.bi (br (x1 == x2) (some (x1 != 5)) (some false)) (fun y0 =>
          .at ((5, y0)))
          (.no))
         (.br (x0 == 14)
          (.br (x0 == 14)
           (.bi (br (x1 == 5) (some (x2 == 5)) (some false)) (fun y0 =>
            .at ((5, y0)))
            (.no))
           (.br (x0 == 17)
            (.br (x0 == 17)
             (.bi (br (x1 == x2) (some (x1 != 5)) (some false)) (fun y0 =>
              .at ((x1, y0)))
              (.no))
             (.at ((0, false))))
            (.br (x0 == 18)
             (.bi (br (x1 == x2) (some (x1 != 5)) (some false)) (fun y0 =>
              .at ((x1, y0)))
              (.no))
             (.at ((0, false))))))
          (.br (x0 == 15)
           (.bi (br (x1 == 5) (some (x2 == 5)) (some false)) (fun y0 =>
            .at ((5, y0)))
            (.no))
           (.br (x0 == 17)
            (.br (x0 == 17)
             (.bi (br (x1 == x2) (some (x1 != 5)) (some false)) (fun y0 =>
              .at ((x1, y0)))
              (.no))
             (.at ((0, false))))
            (.br (x0 == 18)
             (.bi (br (x1 == x2) (some (x1 != 5)) (some false)) (fun y0 =>
              .at ((x1, y0)))
              (.no))
             (.at ((0, false))))))))
        (.br (x0 == 13)
         (.bi (br (x1 == x2) (some (x1 != 5)) (some false)) (fun y0 =>
          .at ((5, y0)))
          (.no))
         (.br (x0 == 14)
          (.br (x0 == 14)
           (.bi (br (x1 == 5) (some (x2 == 5)) (some false)) (fun y0 =>
            .at ((5, y0)))
            (.no))
           (.br (x0 == 17)
            (.br (x0 == 17)
             (.bi (br (x1 == x2) (some (x1 != 5)) (some false)) (fun y0 =>
              .at ((x1, y0)))
              (.no))
             (.at ((0, false))))
            (.br (x0 == 18)
             (.bi (br (x1 == x2) (some (x1 != 5)) (some false)) (fun y0 =>
              .at ((x1, y0)))
              (.no))
             (.at ((0, false))))))
          (.br (x0 == 15)
           (.bi (br (x1 == 5) (some (x2 == 5)) (some false)) (fun y0 =>
            .at ((5, y0)))
            (.no))
           (.br (x0 == 17)
            (.br (x0 == 17)
             (.bi (br (x1 == x2) (some (x1 != 5)) (some false)) (fun y0 =>
              .at ((x1, y0)))
              (.no))
             (.at ((0, false))))
            (.br (x0 == 18)
             (.bi (br (x1 == x2) (some (x1 != 5)) (some false)) (fun y0 =>
              .at ((x1, y0)))
              (.no))
             (.at ((0, false))))))))))))))
def f_u173q (x0 x1 x2 : Int) : Option B_u173q := lock (tr_u173q x0 x1 x2).ev
theorem c_u173q : FH IP 94 p_u173q r_u173q (k3 f_u173q) := fun_FH (F := F94) (L := []) (t := (k3 tr_u173q)) T96_ok (LOk_of (l := []) (by kernel_rfl) trivial) (by kernel_rfl) (fun v => by kernel_rfl) (fun _ => lock_eq _)
def T97 : Tab := (94, FE p_u173q r_u173q (k3 f_u173q)) :: T96
theorem T97_ok : TabOk IP T97 := ⟨FE_ok c_u173q, T96_ok⟩
abbrev B_u123q : Type := Int × Bool
def p_u123q : PArgs := ⟨[.int .i64, .view 1], []⟩
def r_u123q : List PRes := [⟨false, .tup [.int .i64, .bool], []⟩]
def tr_u123q (x0 : Int) (x1 : List AV) : DT B_u123q :=
 .bi (br (x0 == 9) (some ((↑x1.length : Int) == 1)) (some false)) (fun y0 =>
  .br (y0)
   (.br (okAt [CS.int IntKind.i64] x1 0)
    (.br (okAt [CS.int IntKind.i64] x1 0)
     (.bi (f_u124q (intOf (cellAt x1 0 0))) (fun y1 =>
      .at ((intOf (cellAt x1 0 0), y1)))
      (.no))
     (.no))
    (.no))
   (.bi (br (x0 == 16) (some ((↑x1.length : Int) == 1)) (some false)) (fun y1 =>
    .br (y1)
     (.br (okAt [CS.int IntKind.i64] x1 0) (.at ((5, intOf (cellAt x1 0 0) == 5))) (.no))
     (.bi (br (x0 == 19) (some ((↑x1.length : Int) == 3)) (some false)) (fun y2 =>
      .br (y2)
       (.br (okAt [CS.int IntKind.i64] x1 1)
        (.br (okAt [CS.int IntKind.i64] x1 0)
         (.br (intOf (cellAt x1 0 0) == 5)
          (.br (okAt [CS.int IntKind.i64] x1 1)
           (.br (okAt [CS.int IntKind.i64] x1 2) (.at ((intOf (cellAt x1 1 0), intOf (cellAt x1 1 0) == intOf (cellAt x1 2 0)))) (.no))
           (.no))
          (.at ((intOf (cellAt x1 1 0), false))))
         (.no))
        (.no))
       (.br ((↑x1.length : Int) == 2)
        (.br (okAt [CS.int IntKind.i64] x1 0)
         (.br (okAt [CS.int IntKind.i64] x1 1)
          (.bi (f_u173q x0 (intOf (cellAt x1 0 0)) (intOf (cellAt x1 1 0))) (fun y3 =>
           .at ((y3.1, y3.2)))
           (.no))
          (.no))
         (.no))
        (.at ((0, false)))))
      (.no)))
    (.no)))
  (.no)
def f_u123q (x0 : Int) (x1 : List AV) : Option B_u123q := lock (tr_u123q x0 x1).ev
theorem c_u123q : FH IP 80 p_u123q r_u123q (k2 f_u123q) := fun_FH (F := F80) (L := []) (t := (k2 tr_u123q)) T97_ok (LOk_of (l := []) (by kernel_rfl) trivial) (by kernel_rfl) (fun v => by kernel_rfl) (fun _ => lock_eq _)
def T98 : Tab := (80, FE p_u123q r_u123q (k2 f_u123q)) :: T97
theorem T98_ok : TabOk IP T98 := ⟨FE_ok c_u123q, T97_ok⟩
abbrev B_u120q : Type := Int × Bool
def p_u120q : PArgs := ⟨[.int .i64, .view 1], []⟩
def r_u120q : List PRes := [⟨false, .tup [.int .i64, .bool], []⟩]
def tr_u120q (x0 : Int) (x1 : List AV) : DT B_u120q :=
 .br (decide ((↑x1.length : Int) > 3))
  (.at ((0, false)))
  (.bi (pj 0 (l_u75q (x0, x1, 0))) (fun y0 =>
   .at ((0, false)))
   (.bi (pj 1 (l_u75q (x0, x1, 0))) (fun y0 =>
    .bi (f_u123q y0.1 y0.2.1) (fun y1 =>
     .br (!y1.2) (.at ((0, false))) (.at ((y1.1, true))))
     (.no))
    (.no)))
def f_u120q (x0 : Int) (x1 : List AV) : Option B_u120q := lock (tr_u120q x0 x1).ev
theorem c_u120q : FH IP 62 p_u120q r_u120q (k2 f_u120q) := fun_FH (F := F62) (L := [(1006200, ll_u75q)]) (t := (k2 tr_u120q)) T98_ok (LOk_of (l := [loopAt F62 0]) (by kernel_rfl) ⟨sel_one (by kernel_rfl) t_u75q, trivial⟩) (by kernel_rfl) (fun v => by kernel_rfl) (fun _ => lock_eq _)
def T99 : Tab := (62, FE p_u120q r_u120q (k2 f_u120q)) :: T98
theorem T99_ok : TabOk IP T99 := ⟨FE_ok c_u120q, T98_ok⟩
abbrev B_u176q : Type := Int × Int
def p_u176q : PArgs := ⟨[.agg [.int .i64, .int .i64, .str, .view 4], .view 2], []⟩
def r_u176q : List PRes := [⟨false, .tup [.int .i64, .int .i64], []⟩]
abbrev GT_u176q : Type := Int → Int → (List UInt8) → (List AV) → (List AV) → Option B_u176q
def GH_u176q (G_u176q : GT_u176q) : Prop := FH IP 41 p_u176q r_u176q (k5 G_u176q)
def TG_u176q (G_u176q : GT_u176q) : Tab := (41, FE p_u176q r_u176q (k5 G_u176q)) :: T99
theorem TG_u176q_ok (G_u176q : GT_u176q) (hG : GH_u176q G_u176q) : TabOk IP (TG_u176q G_u176q) := ⟨FE_ok (hG), T99_ok⟩
abbrev TT_u167q : Type := (List AV × Int × Int × Int × List UInt8 × List AV) ⊕ (List AV × Int × Int × Int × List UInt8 × List AV × List AV)
def hs_u167q : List PSt := [⟨[(1004101, .junk), (1, .view 2), (2, .ref 0 0 0), (7, .nils ⟨1, .any⟩), (8, .int .i64)], [(0, .box [.int .i64, .int .i64, .str, .view 4] false)], 1, 0⟩, ⟨[(1004101, .junk), (1, .view 2), (2, .ref 0 0 0), (7, .own 1 0), (8, .int .i64)], [(0, .box [.int .i64, .int .i64, .str, .view 4] false), (1, .arr 1 false)], 2, 0⟩]
def x_u167q_0 (G_u176q : GT_u176q) (x0 : List AV) (x1 x2 x3 : Int) (x4 : List UInt8) (x5 : List AV) : X × St := (X.ret,
  {
    tm :=
      [(2, AV.ref 0 0 0), (4, AV.int IntKind.i64 0),
        (5, AV.int IntKind.i64 (gv (G_u176q (intOf (cellAt x5 x1 0)) (intOf (cellAt x5 x1 1)) (strOf (cellAt x5 x1 2)) (viewOf (cellAt x5 x1 3)) x0)).2),
        (7, AV.nils { sz := 1, kd := NKd.any })],
    hp := [(0, Blk.box [AV.int IntKind.i64 x2, AV.int IntKind.i64 x3, AV.str x4, AV.view 4 x5] false)], nx := 1, k := 0 })
def x_u167q_1 (G_u176q : GT_u176q) (x0 : List AV) (x1 x2 x3 : Int) (x4 : List UInt8) (x5 : List AV) : X × St := (X.exit 3,
  { tm := [(2, AV.ref 0 0 0), (4, AV.junk), (5, AV.junk), (7, AV.nils { sz := 1, kd := NKd.any })],
    hp := [(0, Blk.box [AV.int IntKind.i64 x2, AV.int IntKind.i64 x3, AV.str x4, AV.view 4 x5] false)], nx := 1, k := 0 })
def x_u167q_2 (G_u176q : GT_u176q) (x0 : List AV) (x1 x2 x3 : Int) (x4 : List UInt8) (x5 x6 : List AV) : X × St := (X.ret,
  {
    tm :=
      [(2, AV.ref 0 0 0), (4, AV.int IntKind.i64 0),
        (5, AV.int IntKind.i64 (gv (G_u176q (intOf (cellAt x5 x1 0)) (intOf (cellAt x5 x1 1)) (strOf (cellAt x5 x1 2)) (viewOf (cellAt x5 x1 3)) x0)).2), (7, AV.own 1 0 none)],
    hp := [(0, Blk.box [AV.int IntKind.i64 x2, AV.int IntKind.i64 x3, AV.str x4, AV.view 4 x5] false), (1, Blk.arr 1 x6 false)], nx := 2, k := 0 })
def x_u167q_3 (G_u176q : GT_u176q) (x0 : List AV) (x1 x2 x3 : Int) (x4 : List UInt8) (x5 x6 : List AV) : X × St := (X.exit 3,
  { tm := [(2, AV.ref 0 0 0), (4, AV.junk), (5, AV.junk), (7, AV.own 1 0 none)],
    hp := [(0, Blk.box [AV.int IntKind.i64 x2, AV.int IntKind.i64 x3, AV.str x4, AV.view 4 x5] false), (1, Blk.arr 1 x6 false)], nx := 2, k := 0 })
def x_u167q (G_u176q : GT_u176q) : List (TT_u167q → X × St) := [fun w => (k6 (x_u167q_0 G_u176q)) ((sl w)), fun w => (k6 (x_u167q_1 G_u176q)) ((sl w)), fun w => (k7 (x_u167q_2 G_u176q)) ((sr w)), fun w => (k7 (x_u167q_3 G_u176q)) ((sr w))]
def st_u167q_0 (G_u176q : GT_u176q) (x0 : List AV) (x1 x2 x3 : Int) (x4 : List UInt8) (x5 : List AV) : DT (Rd TT_u167q) :=
 .br (decide (x1 < (↑x5.length : Int)))
  (.br (okAt [CS.int IntKind.i64, CS.int IntKind.i64, CS.str, CS.slice 4] x5 x1)
   (.bi (G_u176q (intOf (cellAt x5 x1 0)) (intOf (cellAt x5 x1 1)) (strOf (cellAt x5 x1 2)) (viewOf (cellAt x5 x1 3)) x0) (fun y0 =>
    .br (y0.2 != 0) (.at (.done 0)) (.at (.next ((.inr (x0, IntKind.i64.wrap (x1 + 1), x2, x3, x4, x5, [AV.int IntKind.i64 y0.1]))))))
    (.no))
   (.no))
  (.at (.done 1))
def st_u167q_1 (G_u176q : GT_u176q) (x0 : List AV) (x1 x2 x3 : Int) (x4 : List UInt8) (x5 x6 : List AV) : DT (Rd TT_u167q) :=
 .br (decide (x1 < (↑x5.length : Int)))
  (.br (okAt [CS.int IntKind.i64, CS.int IntKind.i64, CS.str, CS.slice 4] x5 x1)
   (.bi (G_u176q (intOf (cellAt x5 x1 0)) (intOf (cellAt x5 x1 1)) (strOf (cellAt x5 x1 2)) (viewOf (cellAt x5 x1 3)) x0) (fun y0 =>
    .br (y0.2 != 0)
     (.at (.done 2))
     (.br (room (x6.length + 1) 8) (.at (.next ((.inr (x0, IntKind.i64.wrap (x1 + 1), x2, x3, x4, x5, x6 ++ [AV.int IntKind.i64 y0.1]))))) (.no)))
    (.no))
   (.no))
  (.at (.done 3))
def st_u167q (G_u176q : GT_u176q) : TT_u167q → DT (Rd TT_u167q) := (Sum.elim (fun v => st_u167q_0 G_u176q v.1 v.2.1 v.2.2.1 v.2.2.2.1 v.2.2.2.2.1 v.2.2.2.2.2) (fun v => st_u167q_1 G_u176q v.1 v.2.1 v.2.2.1 v.2.2.2.1 v.2.2.2.2.1 v.2.2.2.2.2.1 v.2.2.2.2.2.2))
def l_u167q (G_u176q : GT_u176q) (v : TT_u167q) : Option (Nat × TT_u167q) := lock (iterO (fun v => (st_u167q G_u176q v).ev) v)
theorem l_u167q_eq (G_u176q : GT_u176q) (v : TT_u167q) : l_u167q G_u176q v = iterO (fun v => (st_u167q G_u176q v).ev) v := lock_eq _
def ll_u167q (G_u176q : GT_u176q) : LEnt := LE (τ := TT_u167q) (hD hs_u167q) (l_u167q G_u176q) (x_u167q G_u176q)
theorem t_u167q (G_u176q : GT_u176q) (hG : GH_u176q G_u176q) : Go.Eng.Told IP (loopAt F41 1).1 (loopAt F41 1).2 (ll_u167q G_u176q) := loop_LE (inferInstance : Inhabited TT_u167q) (hs := hs_u167q) (st := st_u167q G_u176q) (L := []) (TG_u176q_ok G_u176q hG) (LOk_of (l := []) (by kernel_rfl) trivial) (l_u167q_eq G_u176q) (fun v => match v with | (.inl v) => by kernel_rfl | (.inr v) => by kernel_rfl) (fun v => match v with | (.inl v) => by kernel_rfl | (.inr v) => by kernel_rfl)
def tr_u176q (G_u176q : GT_u176q) (x0 x1 : Int) (x2 : List UInt8) (x3 x4 : List AV) : DT B_u176q :=
 .br (x0 == 1)
  (.at ((1, 0)))
  (.br (x0 == 2)
   (.at ((2, 0)))
   (.br (x0 == 3)
    (.at ((3, 0)))
    (.br (x0 == 4)
     (.bi (pj 0 (l_u166q (x4, 0, x0, x1, x2, x3))) (fun y0 =>
      .at ((intOf (cellAt y0.1 y0.2.1 1), 0)))
      (.bi (pj 1 (l_u166q (x4, 0, x0, x1, x2, x3))) (fun y0 =>
       .at ((0, 3)))
       (.bi (pj 2 (l_u166q (x4, 0, x0, x1, x2, x3))) (fun y0 =>
        .at ((0, 4)))
        (.no))))
     (.bi (pj 0 (l_u167q G_u176q (Sum.inl (x4, 0, x0, x1, x2, x3)))) (fun y0 =>
      .at ((0, (gv
    (G_u176q (intOf (cellAt (sl y0).2.2.2.2.2 (sl y0).2.1 0)) (intOf (cellAt (sl y0).2.2.2.2.2 (sl y0).2.1 1))
      (strOf (cellAt (sl y0).2.2.2.2.2 (sl y0).2.1 2)) (viewOf (cellAt (sl y0).2.2.2.2.2 (sl y0).2.1 3)) (sl y0).1)).2)))
      (.bi (pj 1 (l_u167q G_u176q (Sum.inl (x4, 0, x0, x1, x2, x3)))) (fun y0 =>
       .bi (f_u120q (sl y0).2.2.1 []) (fun y1 =>
        .br (!y1.2) (.at ((0, 3))) (.at ((y1.1, 0))))
        (.no))
       (.bi (pj 2 (l_u167q G_u176q (Sum.inl (x4, 0, x0, x1, x2, x3)))) (fun y0 =>
        .at ((0, (gv
    (G_u176q (intOf (cellAt (sr y0).2.2.2.2.2.1 (sr y0).2.1 0)) (intOf (cellAt (sr y0).2.2.2.2.2.1 (sr y0).2.1 1))
      (strOf (cellAt (sr y0).2.2.2.2.2.1 (sr y0).2.1 2)) (viewOf (cellAt (sr y0).2.2.2.2.2.1 (sr y0).2.1 3)) (sr y0).1)).2)))
        (.bi (pj 3 (l_u167q G_u176q (Sum.inl (x4, 0, x0, x1, x2, x3)))) (fun y0 =>
         .bi (f_u120q (sr y0).2.2.1 (sr y0).2.2.2.2.2.2) (fun y1 =>
          .br (!y1.2) (.at ((0, 3))) (.at ((y1.1, 0))))
          (.no))
         (.no))))))))
def N_u176q : Nat → GT_u176q
  | 0 => fun _ _ _ _ _ => none
  | n + 1 => fun x0 x1 x2 x3 x4 => (tr_u176q ((N_u176q n)) x0 x1 x2 x3 x4).ev
def f_u176q (x0 x1 : Int) (x2 : List UInt8) (x3 x4 : List AV) : Option B_u176q := limO fun n => (N_u176q n) x0 x1 x2 x3 x4
theorem N_u176q_ok : ∀ n, GH_u176q ((N_u176q n))
  | 0 => (fun v y h => nomatch h)
  | n + 1 => have hG := N_u176q_ok n
    fun_FH (F := F41) (L := [(1004100, ll_u166q), (1004101, ll_u167q ((N_u176q n)))]) (t := (k5 (tr_u176q ((N_u176q n))))) (TG_u176q_ok ((N_u176q n)) hG) (LOk_of (l := [loopAt F41 0, loopAt F41 1]) (by kernel_rfl) ⟨sel_one (by kernel_rfl) t_u166q, sel_one (by kernel_rfl) (t_u167q ((N_u176q n)) hG), trivial⟩) (by kernel_rfl) (fun v => by kernel_rfl) (fun v => rfl)
theorem c_u176q : FH IP 41 p_u176q r_u176q (k5 f_u176q) := lim_FH (p := p_u176q) (rs := r_u176q) (s := fun n => (k5 ((N_u176q n)))) fun n => (N_u176q_ok n)
def T100 : Tab := (41, FE p_u176q r_u176q (k5 f_u176q)) :: T99
theorem T100_ok : TabOk IP T100 := ⟨FE_ok c_u176q, T99_ok⟩
abbrev B_u175q : Type := Int × Int
def p_u175q : PArgs := ⟨[.agg [.int .i64, .int .i64, .str, .view 4], .view 2], []⟩
def r_u175q : List PRes := [⟨false, .tup [.int .i64, .int .i64], []⟩]
def tr_u175q (x0 x1 : Int) (x2 : List UInt8) (x3 x4 : List AV) : DT B_u175q :=
 .bi (f_u72q x0 x1 x2 x3) (fun y0 =>
  .br (y0 != 0)
   (.at ((0, y0)))
   (.bi (f_u176q x0 x1 x2 x3 x4) (fun y1 =>
    .at ((y1.1, y1.2)))
    (.no)))
  (.no)
def f_u175q (x0 x1 : Int) (x2 : List UInt8) (x3 x4 : List AV) : Option B_u175q := lock (tr_u175q x0 x1 x2 x3 x4).ev
theorem c_u175q : FH IP 23 p_u175q r_u175q (k5 f_u175q) := fun_FH (F := F23) (L := []) (t := (k5 tr_u175q)) T100_ok (LOk_of (l := []) (by kernel_rfl) trivial) (by kernel_rfl) (fun v => by kernel_rfl) (fun _ => lock_eq _)
def T101 : Tab := (23, FE p_u175q r_u175q (k5 f_u175q)) :: T100
theorem T101_ok : TabOk IP T101 := ⟨FE_ok c_u175q, T100_ok⟩
abbrev B_u78q : Type := Int
def p_u78q : PArgs := ⟨[.int .i64], []⟩
def r_u78q : List PRes := [⟨false, .int .i64, []⟩]
def tr_u78q (x0 : Int) : DT B_u78q :=
 .br (x0 == 1)
  (.at (1))
  (.br (x0 == 2)
   (.at (2))
   (.br (x0 == 3) (.at (3)) (.at (0))))
def f_u78q (x0 : Int) : Option B_u78q := lock (tr_u78q x0).ev
theorem c_u78q : FH IP 50 p_u78q r_u78q f_u78q := fun_FH (F := F50) (L := []) (t := tr_u78q) T101_ok (LOk_of (l := []) (by kernel_rfl) trivial) (by kernel_rfl) (fun v => by kernel_rfl) (fun _ => lock_eq _)
def T102 : Tab := (50, FE p_u78q r_u78q f_u78q) :: T101
theorem T102_ok : TabOk IP T102 := ⟨FE_ok c_u78q, T101_ok⟩
end
end Go.Proofs.H12

/- Functions over plain data. Printed by a program of mine. -/
import Derived.Test.YtbhffafppahmjaaDoorD11d_2
import Derived.KernelRfl
set_option linter.unusedVariables false
set_option linter.unusedSimpArgs false
set_option linter.unnecessarySimpa false
namespace Go.Proofs.H11d
open Go Go.Eng
set_option maxRecDepth 100000
abbrev B_u7q : Type := Bool
def p_u7q : PArgs := ⟨[.str, .str], []⟩
def r_u7q : List PRes := [⟨false, .bool, []⟩]
noncomputable def tr_u7q (x0 : List UInt8) (x1 : List UInt8) : DT B_u7q :=
 .bi (br (decide ((↑x0.length : Int) ≥ (↑x1.length : Int))) (br (leB (↑x1.length : Int) x0.length && true) (some (List.take (↑x1.length : Int).toNat x0 == x1)) none) (some false)) (fun y0 =>
  .at (y0))
  (.no)
noncomputable def f_u7q (x0 : List UInt8) (x1 : List UInt8) : Option B_u7q := lock (tr_u7q x0 x1).ev
theorem f_u7q_eq (x0 : List UInt8) (x1 : List UInt8) : f_u7q x0 x1 = (tr_u7q x0 x1).ev := lock_eq _
theorem c_u7q : FH IP 60 p_u7q r_u7q (fun (v : List UInt8 × List UInt8) => (f_u7q v.1 v.2 : Option B_u7q)) := fun_FH (F := F60) (L := []) (t := fun (v : List UInt8 × List UInt8) => tr_u7q v.1 v.2) T37_ok (LOk_of (l := []) (by kernel_rfl) trivial) (by kernel_rfl) (fun v => by kernel_rfl) (fun v => f_u7q_eq v.1 v.2)
noncomputable def T38 : Tab := (60, FE p_u7q r_u7q (fun (v : List UInt8 × List UInt8) => (f_u7q v.1 v.2 : Option B_u7q))) :: T37
theorem T38_ok : TabOk IP T38 := ⟨FE_ok c_u7q, T37_ok⟩
abbrev B_u16q : Type := Bool
def p_u16q : PArgs := ⟨[.str, .str], []⟩
def r_u16q : List PRes := [⟨false, .bool, []⟩]
noncomputable def tr_u16q (x0 : List UInt8) (x1 : List UInt8) : DT B_u16q :=
 .bi (f_u7q x0 x1) (fun y0 =>
  .at (y0))
  (.no)
noncomputable def f_u16q (x0 : List UInt8) (x1 : List UInt8) : Option B_u16q := lock (tr_u16q x0 x1).ev
theorem f_u16q_eq (x0 : List UInt8) (x1 : List UInt8) : f_u16q x0 x1 = (tr_u16q x0 x1).ev := lock_eq _
theorem c_u16q : FH IP 52 p_u16q r_u16q (fun (v : List UInt8 × List UInt8) => (f_u16q v.1 v.2 : Option B_u16q)) := fun_FH (F := F52) (L := []) (t := fun (v : List UInt8 × List UInt8) => tr_u16q v.1 v.2) T38_ok (LOk_of (l := []) (by kernel_rfl) trivial) (by kernel_rfl) (fun v => by kernel_rfl) (fun v => f_u16q_eq v.1 v.2)
noncomputable def T39 : Tab := (52, FE p_u16q r_u16q (fun (v : List UInt8 × List UInt8) => (f_u16q v.1 v.2 : Option B_u16q))) :: T38
theorem T39_ok : TabOk IP T39 := ⟨FE_ok c_u16q, T38_ok⟩
abbrev TT_u52q : Type := List UInt8 × List AV × Int × Int × Int × Int × List UInt8
def hs_u52q : List PSt := [⟨[(1003900, .junk), (0, .str), (2, .ref 0 0 0), (34, .view 1), (35, .int .i64), (36, .int .i64)], [(0, .box [.int .i64, .int .i64, .str] false)], 1, 0⟩]
noncomputable def x_u52q_0 (x0 : List UInt8) (x1 : List AV) (x2 : Int) (x3 : Int) (x4 : Int) (x5 : Int) (x6 : List UInt8) : X × St := (X.ret,
  { tm := [(2, AV.ref 0 0 0), (3, AV.int IntKind.i64 0)], hp := [(0, Blk.box [AV.int IntKind.i64 4, AV.int IntKind.i64 0, AV.str (strOf (cellAt x1 x3 0))] false)], nx := 1,
    k := 0 })
noncomputable def x_u52q_1 (x0 : List UInt8) (x1 : List AV) (x2 : Int) (x3 : Int) (x4 : Int) (x5 : Int) (x6 : List UInt8) : X × St := (X.exit 1, { tm := [(2, AV.ref 0 0 0), (3, AV.junk)], hp := [(0, Blk.box [AV.int IntKind.i64 x4, AV.int IntKind.i64 x5, AV.str x6] false)], nx := 1, k := 0 })
noncomputable def x_u52q : List (TT_u52q → X × St) := [fun w => x_u52q_0 w.1 w.2.1 w.2.2.1 w.2.2.2.1 w.2.2.2.2.1 w.2.2.2.2.2.1 w.2.2.2.2.2.2, fun w => x_u52q_1 w.1 w.2.1 w.2.2.1 w.2.2.2.1 w.2.2.2.2.1 w.2.2.2.2.2.1 w.2.2.2.2.2.2]
noncomputable def st_u52q_0 (x0 : List UInt8) (x1 : List AV) (x2 : Int) (x3 : Int) (x4 : Int) (x5 : Int) (x6 : List UInt8) : DT (Rd TT_u52q) :=
 .br (decide (x3 < x2))
  (.br (okAt [CS.str] x1 x3)
   (.bi (f_u16q x0 (strOf (cellAt x1 x3 0))) (fun y0 =>
    .br (y0) (.at (.done 0)) (.at (.next ((x0, x1, x2, IntKind.i64.wrap (x3 + 1), x4, x5, x6)))))
    (.no))
   (.no))
  (.at (.done 1))
noncomputable def st_u52q : TT_u52q → DT (Rd TT_u52q) := (fun v => st_u52q_0 v.1 v.2.1 v.2.2.1 v.2.2.2.1 v.2.2.2.2.1 v.2.2.2.2.2.1 v.2.2.2.2.2.2)
noncomputable def l_u52q (v : TT_u52q) : Option (Nat × TT_u52q) := lock (iterO (fun v => (st_u52q v).ev) v)
theorem l_u52q_eq (v : TT_u52q) : l_u52q v = iterO (fun v => (st_u52q v).ev) v := lock_eq _
noncomputable def ll_u52q : LEnt := LE (τ := TT_u52q) (hD hs_u52q) (l_u52q) x_u52q
theorem t_u52q : Go.Eng.Told IP (loopAt F39 0).1 (loopAt F39 0).2 (ll_u52q) := loop_LE (inferInstance : Inhabited TT_u52q) (hs := hs_u52q) (st := st_u52q) (L := []) T39_ok (LOk_of (l := []) (by kernel_rfl) trivial) (l_u52q_eq) (fun v => by kernel_rfl) (fun v => by kernel_rfl)
abbrev B_u77q : Type := Int × Int × List UInt8 × Int
def p_u77q : PArgs := ⟨[.str], []⟩
def r_u77q : List PRes := [⟨false, .tup [.agg [.int .i64, .int .i64, .str], .int .i64], []⟩]
noncomputable def tr_u77q (x0 : List UInt8) : DT B_u77q :=
 .br (inB x0.length 0)
  (.bi (f_u51q (IntKind.i32.wrap (byteAt x0 0))) (fun y0 =>
   .br (y0)
    (.bi (f_u36q x0) (fun y1 =>
     .bi (f_u76q y1) (fun y2 =>
      .br (y2)
       (.at ((5, 0, y1, 0)))
       (.br (decide ((↑y1.length : Int) > 16)) (.at ((0, 0, [], 4))) (.at ((1, 0, y1, 0)))))
      (.no))
     (.no))
    (.bi (f_u62q (IntKind.i32.wrap (byteAt x0 0))) (fun y1 =>
     .br (y1)
      (.bi (f_u37q x0) (fun y2 =>
       .bi (f_u53q y2) (fun y3 =>
        .at ((y3.fst, y3.snd.fst, y3.snd.snd.fst, y3.snd.snd.snd)))
        (.no))
       (.no))
      (.bi (f_u63q) (fun y2 =>
       .bi (pj 0 (l_u52q (x0, y2, (↑y2.length : Int), 0, 0, 0, []))) (fun y3 =>
        .at ((4, 0, strOf (cellAt y3.snd.fst y3.snd.snd.snd.fst 0), 0)))
        (.bi (pj 1 (l_u52q (x0, y2, (↑y2.length : Int), 0, 0, 0, []))) (fun y3 =>
         .at ((0, 0, [], 2)))
         (.no)))
       (.no)))
     (.no)))
   (.no))
  (.no)
noncomputable def f_u77q (x0 : List UInt8) : Option B_u77q := lock (tr_u77q x0).ev
theorem f_u77q_eq (x0 : List UInt8) : f_u77q x0 = (tr_u77q x0).ev := lock_eq _
theorem c_u77q : FH IP 39 p_u77q r_u77q (fun (v : List UInt8) => (f_u77q v : Option B_u77q)) := fun_FH (F := F39) (L := [(1003900, ll_u52q)]) (t := fun (v : List UInt8) => tr_u77q v) T39_ok (LOk_of (l := [loopAt F39 0]) (by kernel_rfl) ⟨sel_one (by kernel_rfl) t_u52q, trivial⟩) (by kernel_rfl) (fun v => by kernel_rfl) (fun v => f_u77q_eq v)
noncomputable def T40 : Tab := (39, FE p_u77q r_u77q (fun (v : List UInt8) => (f_u77q v : Option B_u77q))) :: T39
theorem T40_ok : TabOk IP T40 := ⟨FE_ok c_u77q, T39_ok⟩
abbrev TT_u19q : Type := (List UInt8 × Int) ⊕ (List UInt8 × Int × List AV)
def hs_u19q : List PSt := [⟨[(1003600, .junk), (0, .str), (5, .nils 3), (6, .int .i64)], [], 0, 0⟩, ⟨[(1003600, .junk), (0, .str), (5, .own 0 0), (6, .int .i64)], [(0, .arr 3 false)], 1, 0⟩]
noncomputable def x_u19q_0 (x0 : List UInt8) (x1 : Int) : X × St := (X.ret, { tm := [(2, AV.nils { sz := 3, kd := NKd.nil }), (3, AV.int IntKind.i64 0), (4, AV.int IntKind.i64 0)], hp := [], nx := 0, k := 0 })
noncomputable def x_u19q_1 (x0 : List UInt8) (x1 : Int) : X × St := (X.ret,
  {
    tm :=
      [(2, AV.nils { sz := 3, kd := NKd.nil }), (3, AV.int IntKind.i64 (IntKind.i64.wrap (x1 + (↑(Lib.countByte (List.take (gv (f_u49q x0)).toNat x0) 10) : Int)))),
        (4, AV.int IntKind.i64 (gv (f_u77q (List.drop (gv (f_u49q x0)).toNat x0))).snd.snd.snd)],
    hp := [], nx := 0, k := 0 })
noncomputable def x_u19q_2 (x0 : List UInt8) (x1 : Int) (x2 : List AV) : X × St := (X.ret, { tm := [(2, AV.own 0 0 none), (3, AV.int IntKind.i64 0), (4, AV.int IntKind.i64 0)], hp := [(0, Blk.arr 3 x2 false)], nx := 1, k := 0 })
noncomputable def x_u19q_3 (x0 : List UInt8) (x1 : Int) (x2 : List AV) : X × St := (X.ret,
  {
    tm :=
      [(2, AV.nils { sz := 3, kd := NKd.nil }), (3, AV.int IntKind.i64 (IntKind.i64.wrap (x1 + (↑(Lib.countByte (List.take (gv (f_u49q x0)).toNat x0) 10) : Int)))),
        (4, AV.int IntKind.i64 (gv (f_u77q (List.drop (gv (f_u49q x0)).toNat x0))).snd.snd.snd)],
    hp := [], nx := 0, k := 0 })
noncomputable def x_u19q : List (TT_u19q → X × St) := [fun w => x_u19q_0 (sl w).1 (sl w).2, fun w => x_u19q_1 (sl w).1 (sl w).2, fun w => x_u19q_2 (sr w).1 (sr w).2.1 (sr w).2.2, fun w => x_u19q_3 (sr w).1 (sr w).2.1 (sr w).2.2]
noncomputable def st_u19q_0 (x0 : List UInt8) (x1 : Int) : DT (Rd TT_u19q) :=
 .bi (f_u49q x0) (fun y0 =>
  .br (leB y0 x0.length && true)
   (.br (leB y0 x0.length)
    (.br (List.drop y0.toNat x0 == [])
     (.at (.done 0))
     (.bi (f_u77q (List.drop y0.toNat x0)) (fun y1 =>
      .br (y1.snd.snd.snd != 0)
       (.at (.done 1))
       (.br (leB (↑y1.snd.snd.fst.length : Int) (List.drop y0.toNat x0).length)
        (.at (.next ((.inr (List.drop (↑y1.snd.snd.fst.length : Int).toNat (List.drop y0.toNat x0), IntKind.i64.wrap (x1 + (↑(Lib.countByte (List.take y0.toNat x0) 10) : Int)), [AV.agg [AV.int IntKind.i64 y1.fst, AV.int IntKind.i64 (IntKind.i64.wrap (x1 + (↑(Lib.countByte (List.take y0.toNat x0) 10) : Int))), AV.str y1.snd.snd.fst]])))))
        (.no)))
      (.no)))
    (.no))
   (.no))
  (.no)
noncomputable def st_u19q_1 (x0 : List UInt8) (x1 : Int) (x2 : List AV) : DT (Rd TT_u19q) :=
 .bi (f_u49q x0) (fun y0 =>
  .br (leB y0 x0.length && true)
   (.br (leB y0 x0.length)
    (.br (List.drop y0.toNat x0 == [])
     (.at (.done 2))
     (.bi (f_u77q (List.drop y0.toNat x0)) (fun y1 =>
      .br (y1.snd.snd.snd != 0)
       (.at (.done 3))
       (.br (room (x2.length + 1) 32)
        (.br (leB (↑y1.snd.snd.fst.length : Int) (List.drop y0.toNat x0).length)
         (.at (.next ((.inr (List.drop (↑y1.snd.snd.fst.length : Int).toNat (List.drop y0.toNat x0), IntKind.i64.wrap (x1 + (↑(Lib.countByte (List.take y0.toNat x0) 10) : Int)), x2 ++ [AV.agg [AV.int IntKind.i64 y1.fst, AV.int IntKind.i64 (IntKind.i64.wrap (x1 + (↑(Lib.countByte (List.take y0.toNat x0) 10) : Int))), AV.str y1.snd.snd.fst]])))))
         (.no))
        (.no)))
      (.no)))
    (.no))
   (.no))
  (.no)
noncomputable def st_u19q : TT_u19q → DT (Rd TT_u19q) := (Sum.elim (fun v => st_u19q_0 v.1 v.2) (fun v => st_u19q_1 v.1 v.2.1 v.2.2))
noncomputable def l_u19q (v : TT_u19q) : Option (Nat × TT_u19q) := lock (iterO (fun v => (st_u19q v).ev) v)
theorem l_u19q_eq (v : TT_u19q) : l_u19q v = iterO (fun v => (st_u19q v).ev) v := lock_eq _
noncomputable def ll_u19q : LEnt := LE (τ := TT_u19q) (hD hs_u19q) (l_u19q) x_u19q
theorem t_u19q : Go.Eng.Told IP (loopAt F36 0).1 (loopAt F36 0).2 (ll_u19q) := loop_LE (inferInstance : Inhabited TT_u19q) (hs := hs_u19q) (st := st_u19q) (L := []) T40_ok (LOk_of (l := []) (by kernel_rfl) trivial) (l_u19q_eq) (fun v => match v with | (.inl v) => by kernel_rfl | (.inr v) => by kernel_rfl) (fun v => match v with | (.inl v) => by kernel_rfl | (.inr v) => by kernel_rfl)
abbrev B_u26q : Type := List AV × Int × Int
def p_u26q : PArgs := ⟨[.str], []⟩
def r_u26q : List PRes := [⟨false, .tup [.view 3, .int .i64, .int .i64], []⟩]
noncomputable def tr_u26q (x0 : List UInt8) : DT B_u26q :=
 .br (decide ((↑x0.length : Int) > 2048))
  (.at (([], 0, 5)))
  (.bi (pj 0 (l_u19q (Sum.inl (x0, 1)))) (fun y0 =>
   .at (([], 0, 0)))
   (.bi (pj 1 (l_u19q (Sum.inl (x0, 1)))) (fun y0 =>
    .at (([], IntKind.i64.wrap ((sl y0).snd + (↑(Lib.countByte (List.take (gv (f_u49q (sl y0).fst)).toNat (sl y0).fst) 10) : Int)), (gv (f_u77q (List.drop (gv (f_u49q (sl y0).fst)).toNat (sl y0).fst))).snd.snd.snd)))
    (.bi (pj 2 (l_u19q (Sum.inl (x0, 1)))) (fun y0 =>
     .at (((sr y0).snd.snd, 0, 0)))
     (.bi (pj 3 (l_u19q (Sum.inl (x0, 1)))) (fun y0 =>
      .at (([], IntKind.i64.wrap ((sr y0).snd.fst + (↑(Lib.countByte (List.take (gv (f_u49q (sr y0).fst)).toNat (sr y0).fst) 10) : Int)), (gv (f_u77q (List.drop (gv (f_u49q (sr y0).fst)).toNat (sr y0).fst))).snd.snd.snd)))
      (.no)))))
noncomputable def f_u26q (x0 : List UInt8) : Option B_u26q := lock (tr_u26q x0).ev
theorem f_u26q_eq (x0 : List UInt8) : f_u26q x0 = (tr_u26q x0).ev := lock_eq _
theorem c_u26q : FH IP 36 p_u26q r_u26q (fun (v : List UInt8) => (f_u26q v : Option B_u26q)) := fun_FH (F := F36) (L := [(1003600, ll_u19q)]) (t := fun (v : List UInt8) => tr_u26q v) T40_ok (LOk_of (l := [loopAt F36 0]) (by kernel_rfl) ⟨sel_one (by kernel_rfl) t_u19q, trivial⟩) (by kernel_rfl) (fun v => by kernel_rfl) (fun v => f_u26q_eq v)
noncomputable def T41 : Tab := (36, FE p_u26q r_u26q (fun (v : List UInt8) => (f_u26q v : Option B_u26q))) :: T40
theorem T41_ok : TabOk IP T41 := ⟨FE_ok c_u26q, T40_ok⟩
abbrev B_u34q : Type := Bool
def p_u34q : PArgs := ⟨[.str], []⟩
def r_u34q : List PRes := [⟨false, .bool, []⟩]
noncomputable def tr_u34q (x0 : List UInt8) : DT B_u34q :=
 .bi (f_u26q x0) (fun y0 =>
  .bi (br (y0.snd.snd == 0) (some ((↑y0.fst.length : Int) == 1)) (some false)) (fun y1 =>
   .bi (br y1 (br (okAt [CS.int IntKind.i64, CS.int IntKind.i64, CS.str] y0.fst 0) (some (intOf (cellAt y0.fst 0 0) == 1)) none) (some false)) (fun y2 =>
    .bi (br y2 (br (okAt [CS.int IntKind.i64, CS.int IntKind.i64, CS.str] y0.fst 0) (some (strOf (cellAt y0.fst 0 2) == x0)) none) (some false)) (fun y3 =>
     .at (y3))
     (.no))
    (.no))
   (.no))
  (.no)
noncomputable def f_u34q (x0 : List UInt8) : Option B_u34q := lock (tr_u34q x0).ev
theorem f_u34q_eq (x0 : List UInt8) : f_u34q x0 = (tr_u34q x0).ev := lock_eq _
theorem c_u34q : FH IP 34 p_u34q r_u34q (fun (v : List UInt8) => (f_u34q v : Option B_u34q)) := fun_FH (F := F34) (L := []) (t := fun (v : List UInt8) => tr_u34q v) T41_ok (LOk_of (l := []) (by kernel_rfl) trivial) (by kernel_rfl) (fun v => by kernel_rfl) (fun v => f_u34q_eq v)
noncomputable def T42 : Tab := (34, FE p_u34q r_u34q (fun (v : List UInt8) => (f_u34q v : Option B_u34q))) :: T41
theorem T42_ok : TabOk IP T42 := ⟨FE_ok c_u34q, T41_ok⟩
abbrev B_u74q : Type := Bool
def p_u74q : PArgs := ⟨[.agg [.int .i64, .int .i64, .str, .view 4]], []⟩
def r_u74q : List PRes := [⟨false, .bool, []⟩]
noncomputable def tr_u74q (x0 : Int) (x1 : Int) (x2 : List UInt8) (x3 : List AV) : DT B_u74q :=
 .bi (br (x0 != 4) (some true) (br (sm (f_u34q x2)) (some (gv (f_u34q x2))) none)) (fun y0 =>
  .at (y0))
  (.no)
noncomputable def f_u74q (x0 : Int) (x1 : Int) (x2 : List UInt8) (x3 : List AV) : Option B_u74q := lock (tr_u74q x0 x1 x2 x3).ev
theorem f_u74q_eq (x0 : Int) (x1 : Int) (x2 : List UInt8) (x3 : List AV) : f_u74q x0 x1 x2 x3 = (tr_u74q x0 x1 x2 x3).ev := lock_eq _
theorem c_u74q : FH IP 28 p_u74q r_u74q (fun (v : Int × Int × List UInt8 × List AV) => (f_u74q v.1 v.2.1 v.2.2.1 v.2.2.2 : Option B_u74q)) := fun_FH (F := F28) (L := []) (t := fun (v : Int × Int × List UInt8 × List AV) => tr_u74q v.1 v.2.1 v.2.2.1 v.2.2.2) T42_ok (LOk_of (l := []) (by kernel_rfl) trivial) (by kernel_rfl) (fun v => by kernel_rfl) (fun v => f_u74q_eq v.1 v.2.1 v.2.2.1 v.2.2.2)
noncomputable def T43 : Tab := (28, FE p_u74q r_u74q (fun (v : Int × Int × List UInt8 × List AV) => (f_u74q v.1 v.2.1 v.2.2.1 v.2.2.2 : Option B_u74q))) :: T42
theorem T43_ok : TabOk IP T43 := ⟨FE_ok c_u74q, T42_ok⟩
abbrev B_u59q : Type := Bool
def p_u59q : PArgs := ⟨[.agg [.int .i64, .int .i64, .str, .view 4], .fn (.func 28) []], []⟩
def r_u59q : List PRes := [⟨false, .bool, []⟩]
abbrev GT_u59q : Type := Int → Int → (List UInt8) → (List AV) → Option B_u59q
abbrev B_u0q : Type := Bool
def p_u0q : PArgs := ⟨[.view 4, .fn (.func 32) [.ptr [.fn (.func 28) []]]], []⟩
def r_u0q : List PRes := [⟨false, .bool, []⟩]
abbrev GT_u0q : Type := (List AV) → Option B_u0q
abbrev B_u4q : Type := Int
def p_u4q : PArgs := ⟨[.view 4, .fn (.func 32) [.ptr [.fn (.func 28) []]]], []⟩
def r_u4q : List PRes := [⟨false, .int .i64, []⟩]
abbrev GT_u4q : Type := (List AV) → Option B_u4q
abbrev B_u32q : Type := Bool
def p_u32q : PArgs := ⟨[.agg [.int .i64, .int .i64, .str, .view 4], .ptr [.fn (.func 28) []]], []⟩
def r_u32q : List PRes := [⟨false, .bool, []⟩]
abbrev GT_u32q : Type := Int → Int → (List UInt8) → (List AV) → Option B_u32q
def GH_u59q (G_u59q : GT_u59q) (G_u0q : GT_u0q) (G_u4q : GT_u4q) (G_u32q : GT_u32q) : Prop := FH IP 26 p_u59q r_u59q (fun (v : Int × Int × List UInt8 × List AV) => (G_u59q v.1 v.2.1 v.2.2.1 v.2.2.2 : Option B_u59q)) ∧ FH IP 31 p_u0q r_u0q (fun (v : List AV) => (G_u0q v : Option B_u0q)) ∧ FH IP 35 p_u4q r_u4q (fun (v : List AV) => (G_u4q v : Option B_u4q)) ∧ FH IP 32 p_u32q r_u32q (fun (v : Int × Int × List UInt8 × List AV) => (G_u32q v.1 v.2.1 v.2.2.1 v.2.2.2 : Option B_u32q))
noncomputable def TG_u59q (G_u59q : GT_u59q) (G_u0q : GT_u0q) (G_u4q : GT_u4q) (G_u32q : GT_u32q) : Tab := (26, FE p_u59q r_u59q (fun (v : Int × Int × List UInt8 × List AV) => (G_u59q v.1 v.2.1 v.2.2.1 v.2.2.2 : Option B_u59q))) :: (31, FE p_u0q r_u0q (fun (v : List AV) => (G_u0q v : Option B_u0q))) :: (35, FE p_u4q r_u4q (fun (v : List AV) => (G_u4q v : Option B_u4q))) :: (32, FE p_u32q r_u32q (fun (v : Int × Int × List UInt8 × List AV) => (G_u32q v.1 v.2.1 v.2.2.1 v.2.2.2 : Option B_u32q))) :: T43
theorem TG_u59q_ok (G_u59q : GT_u59q) (G_u0q : GT_u0q) (G_u4q : GT_u4q) (G_u32q : GT_u32q) (hG : GH_u59q G_u59q G_u0q G_u4q G_u32q) : TabOk IP (TG_u59q G_u59q G_u0q G_u4q G_u32q) := ⟨FE_ok (hG.1), FE_ok (hG.2.1), FE_ok (hG.2.2.1), FE_ok (hG.2.2.2), T43_ok⟩
abbrev TT_u2q : Type := List AV × Int × Int
def hs_u2q : List PSt := [⟨[(1003500, .junk), (0, .view 4), (1, .fn (.func 32) [.ptr [.fn (.func 28) []]]), (7, .int .i64), (8, .int .i64)], [], 0, 0⟩]
noncomputable def x_u2q_0 (x0 : List AV) (x1 : Int) (x2 : Int) : X × St := (X.ret, { tm := [(4, AV.int IntKind.i64 x2)], hp := [], nx := 0, k := 0 })
noncomputable def x_u2q_1 (x0 : List AV) (x1 : Int) (x2 : Int) : X × St := (X.exit 0, { tm := [(4, AV.junk)], hp := [], nx := 0, k := 0 })
noncomputable def x_u2q : List (TT_u2q → X × St) := [fun w => x_u2q_0 w.1 w.2.1 w.2.2, fun w => x_u2q_1 w.1 w.2.1 w.2.2]
noncomputable def st_u2q_0 (G_u59q : GT_u59q) (G_u0q : GT_u0q) (G_u4q : GT_u4q) (G_u32q : GT_u32q) (x0 : List AV) (x1 : Int) (x2 : Int) : DT (Rd TT_u2q) :=
 .br (decide (x2 < x1))
  (.br (okAt [CS.int IntKind.i64, CS.int IntKind.i64, CS.str, CS.slice 4] x0 x2)
   (.bi (G_u32q (intOf (cellAt x0 x2 0)) (intOf (cellAt x0 x2 1)) (strOf (cellAt x0 x2 2)) (viewOf (cellAt x0 x2 3))) (fun y0 =>
    .br (y0) (.at (.done 0)) (.at (.next ((x0, x1, IntKind.i64.wrap (x2 + 1))))))
    (.no))
   (.no))
  (.at (.done 1))
noncomputable def st_u2q (G_u59q : GT_u59q) (G_u0q : GT_u0q) (G_u4q : GT_u4q) (G_u32q : GT_u32q) : TT_u2q → DT (Rd TT_u2q) := (fun v => st_u2q_0 G_u59q G_u0q G_u4q G_u32q v.1 v.2.1 v.2.2)
noncomputable def l_u2q (G_u59q : GT_u59q) (G_u0q : GT_u0q) (G_u4q : GT_u4q) (G_u32q : GT_u32q) (v : TT_u2q) : Option (Nat × TT_u2q) := lock (iterO (fun v => (st_u2q G_u59q G_u0q G_u4q G_u32q v).ev) v)
theorem l_u2q_eq (G_u59q : GT_u59q) (G_u0q : GT_u0q) (G_u4q : GT_u4q) (G_u32q : GT_u32q) (v : TT_u2q) : l_u2q G_u59q G_u0q G_u4q G_u32q v = iterO (fun v => (st_u2q G_u59q G_u0q G_u4q G_u32q v).ev) v := lock_eq _
noncomputable def ll_u2q (G_u59q : GT_u59q) (G_u0q : GT_u0q) (G_u4q : GT_u4q) (G_u32q : GT_u32q) : LEnt := LE (τ := TT_u2q) (hD hs_u2q) (l_u2q G_u59q G_u0q G_u4q G_u32q) x_u2q
theorem t_u2q (G_u59q : GT_u59q) (G_u0q : GT_u0q) (G_u4q : GT_u4q) (G_u32q : GT_u32q) (hG : GH_u59q G_u59q G_u0q G_u4q G_u32q) : Go.Eng.Told IP (loopAt F35 0).1 (loopAt F35 0).2 (ll_u2q G_u59q G_u0q G_u4q G_u32q) := loop_LE (inferInstance : Inhabited TT_u2q) (hs := hs_u2q) (st := st_u2q G_u59q G_u0q G_u4q G_u32q) (L := []) (TG_u59q_ok G_u59q G_u0q G_u4q G_u32q hG) (LOk_of (l := []) (by kernel_rfl) trivial) (l_u2q_eq G_u59q G_u0q G_u4q G_u32q) (fun v => by kernel_rfl) (fun v => by kernel_rfl)
noncomputable def tr_u59q (G_u59q : GT_u59q) (G_u0q : GT_u0q) (G_u4q : GT_u4q) (G_u32q : GT_u32q) (x0 : Int) (x1 : Int) (x2 : List UInt8) (x3 : List AV) : DT B_u59q :=
 .bi (f_u74q x0 x1 x2 x3) (fun y0 =>
  .bi (br y0 (br (sm (G_u0q x3)) (some !gv (G_u0q x3)) none) (some false)) (fun y1 =>
   .at (y1))
   (.no))
  (.no)
noncomputable def tr_u0q (G_u59q : GT_u59q) (G_u0q : GT_u0q) (G_u4q : GT_u4q) (G_u32q : GT_u32q) (x0 : List AV) : DT B_u0q :=
 .bi (G_u4q x0) (fun y0 =>
  .at (decide (y0 ≥ 0)))
  (.no)
noncomputable def tr_u4q (G_u59q : GT_u59q) (G_u0q : GT_u0q) (G_u4q : GT_u4q) (G_u32q : GT_u32q) (x0 : List AV) : DT B_u4q :=
 .bi (pj 0
     (l_u2q G_u59q G_u0q G_u4q G_u32q
       (x0, (↑x0.length : Int), 0))) (fun y0 =>
  .at (y0.snd.snd))
  (.bi (pj 1
      (l_u2q G_u59q G_u0q G_u4q G_u32q
        (x0, (↑x0.length : Int), 0))) (fun y0 =>
   .at (-1))
   (.no))
noncomputable def tr_u32q (G_u59q : GT_u59q) (G_u0q : GT_u0q) (G_u4q : GT_u4q) (G_u32q : GT_u32q) (x0 : Int) (x1 : Int) (x2 : List UInt8) (x3 : List AV) : DT B_u32q :=
 .bi (G_u59q x0 x1 x2 x3) (fun y0 =>
  .at (!y0))
  (.no)
noncomputable def N_u59q : Nat → GT_u59q × GT_u0q × GT_u4q × GT_u32q
  | 0 => (fun _ _ _ _ => none, fun _ => none, fun _ => none, fun _ _ _ _ => none)
  | n + 1 => (fun x0 x1 x2 x3 => (tr_u59q ((N_u59q n).1) ((N_u59q n).2.1) ((N_u59q n).2.2.1) ((N_u59q n).2.2.2) x0 x1 x2 x3).ev, fun x0 => (tr_u0q ((N_u59q n).1) ((N_u59q n).2.1) ((N_u59q n).2.2.1) ((N_u59q n).2.2.2) x0).ev, fun x0 => (tr_u4q ((N_u59q n).1) ((N_u59q n).2.1) ((N_u59q n).2.2.1) ((N_u59q n).2.2.2) x0).ev, fun x0 x1 x2 x3 => (tr_u32q ((N_u59q n).1) ((N_u59q n).2.1) ((N_u59q n).2.2.1) ((N_u59q n).2.2.2) x0 x1 x2 x3).ev)
noncomputable def f_u59q (x0 : Int) (x1 : Int) (x2 : List UInt8) (x3 : List AV) : Option B_u59q := limO fun n => (N_u59q n).1 x0 x1 x2 x3
noncomputable def f_u0q (x0 : List AV) : Option B_u0q := limO fun n => (N_u59q n).2.1 x0
noncomputable def f_u4q (x0 : List AV) : Option B_u4q := limO fun n => (N_u59q n).2.2.1 x0
noncomputable def f_u32q (x0 : Int) (x1 : Int) (x2 : List UInt8) (x3 : List AV) : Option B_u32q := limO fun n => (N_u59q n).2.2.2 x0 x1 x2 x3
theorem N_u59q_ok : ∀ n, GH_u59q ((N_u59q n).1) ((N_u59q n).2.1) ((N_u59q n).2.2.1) ((N_u59q n).2.2.2)
  | 0 => ⟨(fun v y h => nomatch h), (fun v y h => nomatch h), (fun v y h => nomatch h), (fun v y h => nomatch h)⟩
  | n + 1 => have hG := N_u59q_ok n
    ⟨fun_FH (F := F26) (L := []) (t := fun (v : Int × Int × List UInt8 × List AV) => tr_u59q ((N_u59q n).1) ((N_u59q n).2.1) ((N_u59q n).2.2.1) ((N_u59q n).2.2.2) v.1 v.2.1 v.2.2.1 v.2.2.2) (TG_u59q_ok ((N_u59q n).1) ((N_u59q n).2.1) ((N_u59q n).2.2.1) ((N_u59q n).2.2.2) hG) (LOk_of (l := []) (by kernel_rfl) trivial) (by kernel_rfl) (fun v => by kernel_rfl) (fun v => rfl), fun_FH (F := F31) (L := []) (t := fun (v : List AV) => tr_u0q ((N_u59q n).1) ((N_u59q n).2.1) ((N_u59q n).2.2.1) ((N_u59q n).2.2.2) v) (TG_u59q_ok ((N_u59q n).1) ((N_u59q n).2.1) ((N_u59q n).2.2.1) ((N_u59q n).2.2.2) hG) (LOk_of (l := []) (by kernel_rfl) trivial) (by kernel_rfl) (fun v => by kernel_rfl) (fun v => rfl), fun_FH (F := F35) (L := [(1003500, ll_u2q ((N_u59q n).1) ((N_u59q n).2.1) ((N_u59q n).2.2.1) ((N_u59q n).2.2.2))]) (t := fun (v : List AV) => tr_u4q ((N_u59q n).1) ((N_u59q n).2.1) ((N_u59q n).2.2.1) ((N_u59q n).2.2.2) v) (TG_u59q_ok ((N_u59q n).1) ((N_u59q n).2.1) ((N_u59q n).2.2.1) ((N_u59q n).2.2.2) hG) (LOk_of (l := [loopAt F35 0]) (by kernel_rfl) ⟨sel_one (by kernel_rfl) (t_u2q ((N_u59q n).1) ((N_u59q n).2.1) ((N_u59q n).2.2.1) ((N_u59q n).2.2.2) hG), trivial⟩) (by kernel_rfl) (fun v => by kernel_rfl) (fun v => rfl), fun_FH (F := F32) (L := []) (t := fun (v : Int × Int × List UInt8 × List AV) => tr_u32q ((N_u59q n).1) ((N_u59q n).2.1) ((N_u59q n).2.2.1) ((N_u59q n).2.2.2) v.1 v.2.1 v.2.2.1 v.2.2.2) (TG_u59q_ok ((N_u59q n).1) ((N_u59q n).2.1) ((N_u59q n).2.2.1) ((N_u59q n).2.2.2) hG) (LOk_of (l := []) (by kernel_rfl) trivial) (by kernel_rfl) (fun v => by kernel_rfl) (fun v => rfl)⟩
theorem c_u59q : FH IP 26 p_u59q r_u59q (fun (v : Int × Int × List UInt8 × List AV) => (f_u59q v.1 v.2.1 v.2.2.1 v.2.2.2 : Option B_u59q)) := lim_FH (p := p_u59q) (rs := r_u59q) (s := fun n (v : Int × Int × List UInt8 × List AV) => (N_u59q n).1 v.1 v.2.1 v.2.2.1 v.2.2.2) fun n => (N_u59q_ok n).1
theorem c_u0q : FH IP 31 p_u0q r_u0q (fun (v : List AV) => (f_u0q v : Option B_u0q)) := lim_FH (p := p_u0q) (rs := r_u0q) (s := fun n (v : List AV) => (N_u59q n).2.1 v) fun n => (N_u59q_ok n).2.1
theorem c_u4q : FH IP 35 p_u4q r_u4q (fun (v : List AV) => (f_u4q v : Option B_u4q)) := lim_FH (p := p_u4q) (rs := r_u4q) (s := fun n (v : List AV) => (N_u59q n).2.2.1 v) fun n => (N_u59q_ok n).2.2.1
theorem c_u32q : FH IP 32 p_u32q r_u32q (fun (v : Int × Int × List UInt8 × List AV) => (f_u32q v.1 v.2.1 v.2.2.1 v.2.2.2 : Option B_u32q)) := lim_FH (p := p_u32q) (rs := r_u32q) (s := fun n (v : Int × Int × List UInt8 × List AV) => (N_u59q n).2.2.2 v.1 v.2.1 v.2.2.1 v.2.2.2) fun n => (N_u59q_ok n).2.2.2
noncomputable def T44 : Tab := (26, FE p_u59q r_u59q (fun (v : Int × Int × List UInt8 × List AV) => (f_u59q v.1 v.2.1 v.2.2.1 v.2.2.2 : Option B_u59q))) :: T43
theorem T44_ok : TabOk IP T44 := ⟨FE_ok c_u59q, T43_ok⟩
noncomputable def T45 : Tab := (31, FE p_u0q r_u0q (fun (v : List AV) => (f_u0q v : Option B_u0q))) :: T44
theorem T45_ok : TabOk IP T45 := ⟨FE_ok c_u0q, T44_ok⟩
noncomputable def T46 : Tab := (35, FE p_u4q r_u4q (fun (v : List AV) => (f_u4q v : Option B_u4q))) :: T45
theorem T46_ok : TabOk IP T46 := ⟨FE_ok c_u4q, T45_ok⟩
noncomputable def T47 : Tab := (32, FE p_u32q r_u32q (fun (v : Int × Int × List UInt8 × List AV) => (f_u32q v.1 v.2.1 v.2.2.1 v.2.2.2 : Option B_u32q))) :: T46
theorem T47_ok : TabOk IP T47 := ⟨FE_ok c_u32q, T46_ok⟩
abbrev B_u31q : Type := Int
def p_u31q : PArgs := ⟨[.agg [.int .i64, .int .i64, .str, .view 4]], []⟩
def r_u31q : List PRes := [⟨false, .int .i64, []⟩]
noncomputable def tr_u31q (x0 : Int) (x1 : Int) (x2 : List UInt8) (x3 : List AV) : DT B_u31q :=
 .bi (f_u71q x0 x1 x2 x3) (fun y0 =>
  .bi (br (decide (y0 > 64)) (some true) (br (sm (f_u72q x0 x1 x2 x3)) (some (decide (gv (f_u72q x0 x1 x2 x3) > 8))) none)) (fun y1 =>
   .br (y1)
    (.at (5))
    (.bi (f_u73q x0 x1 x2 x3) (fun y2 =>
     .br (!y2)
      (.at (1))
      (.bi (f_u59q x0 x1 x2 x3) (fun y3 =>
       .br (!y3) (.at (4)) (.at (0)))
       (.no)))
     (.no)))
   (.no))
  (.no)
noncomputable def f_u31q (x0 : Int) (x1 : Int) (x2 : List UInt8) (x3 : List AV) : Option B_u31q := lock (tr_u31q x0 x1 x2 x3).ev
theorem f_u31q_eq (x0 : Int) (x1 : Int) (x2 : List UInt8) (x3 : List AV) : f_u31q x0 x1 x2 x3 = (tr_u31q x0 x1 x2 x3).ev := lock_eq _
theorem c_u31q : FH IP 19 p_u31q r_u31q (fun (v : Int × Int × List UInt8 × List AV) => (f_u31q v.1 v.2.1 v.2.2.1 v.2.2.2 : Option B_u31q)) := fun_FH (F := F19) (L := []) (t := fun (v : Int × Int × List UInt8 × List AV) => tr_u31q v.1 v.2.1 v.2.2.1 v.2.2.2) T47_ok (LOk_of (l := []) (by kernel_rfl) trivial) (by kernel_rfl) (fun v => by kernel_rfl) (fun v => f_u31q_eq v.1 v.2.1 v.2.2.1 v.2.2.2)
noncomputable def T48 : Tab := (19, FE p_u31q r_u31q (fun (v : Int × Int × List UInt8 × List AV) => (f_u31q v.1 v.2.1 v.2.2.1 v.2.2.2 : Option B_u31q))) :: T47
theorem T48_ok : TabOk IP T48 := ⟨FE_ok c_u31q, T47_ok⟩
abbrev TT_u18q : Type := List UInt8 × List AV × Int × Int
def hs_u18q : List PSt := [⟨[(1002900, .junk), (0, .str), (8, .view 2), (9, .int .i64), (10, .int .i64)], [], 0, 0⟩]
noncomputable def x_u18q_0 (x0 : List UInt8) (x1 : List AV) (x2 : Int) (x3 : Int) : X × St := (X.ret, { tm := [(4, AV.int IntKind.i64 0), (5, AV.int IntKind.i64 3)], hp := [], nx := 0, k := 0 })
noncomputable def x_u18q_1 (x0 : List UInt8) (x1 : List AV) (x2 : Int) (x3 : Int) : X × St := (X.ret, { tm := [(4, AV.int IntKind.i64 (intOf (cellAt x1 x3 1))), (5, AV.int IntKind.i64 0)], hp := [], nx := 0, k := 0 })
noncomputable def x_u18q_2 (x0 : List UInt8) (x1 : List AV) (x2 : Int) (x3 : Int) : X × St := (X.exit 0, { tm := [(4, AV.junk), (5, AV.junk)], hp := [], nx := 0, k := 0 })
noncomputable def x_u18q : List (TT_u18q → X × St) := [fun w => x_u18q_0 w.1 w.2.1 w.2.2.1 w.2.2.2, fun w => x_u18q_1 w.1 w.2.1 w.2.2.1 w.2.2.2, fun w => x_u18q_2 w.1 w.2.1 w.2.2.1 w.2.2.2]
noncomputable def st_u18q_0 (x0 : List UInt8) (x1 : List AV) (x2 : Int) (x3 : Int) : DT (Rd TT_u18q) :=
 .br (decide (x3 < x2))
  (.br (okAt [CS.str, CS.int IntKind.i64] x1 x3)
   (.br (strOf (cellAt x1 x3 0) == x0)
    (.bi (f_u55q (intOf (cellAt x1 x3 1))) (fun y0 =>
     .br (!y0) (.at (.done 0)) (.at (.done 1)))
     (.no))
    (.at (.next ((x0, x1, x2, IntKind.i64.wrap (x3 + 1))))))
   (.no))
  (.at (.done 2))
noncomputable def st_u18q : TT_u18q → DT (Rd TT_u18q) := (fun v => st_u18q_0 v.1 v.2.1 v.2.2.1 v.2.2.2)
noncomputable def l_u18q (v : TT_u18q) : Option (Nat × TT_u18q) := lock (iterO (fun v => (st_u18q v).ev) v)
theorem l_u18q_eq (v : TT_u18q) : l_u18q v = iterO (fun v => (st_u18q v).ev) v := lock_eq _
noncomputable def ll_u18q : LEnt := LE (τ := TT_u18q) (hD hs_u18q) (l_u18q) x_u18q
theorem t_u18q : Go.Eng.Told IP (loopAt F29 0).1 (loopAt F29 0).2 (ll_u18q) := loop_LE (inferInstance : Inhabited TT_u18q) (hs := hs_u18q) (st := st_u18q) (L := []) T48_ok (LOk_of (l := []) (by kernel_rfl) trivial) (l_u18q_eq) (fun v => by kernel_rfl) (fun v => by kernel_rfl)
abbrev B_u25q : Type := Int × Int
def p_u25q : PArgs := ⟨[.str, .view 2], []⟩
def r_u25q : List PRes := [⟨false, .tup [.int .i64, .int .i64], []⟩]
noncomputable def tr_u25q (x0 : List UInt8) (x1 : List AV) : DT B_u25q :=
 .bi (pj 0 (l_u18q (x0, x1, (↑x1.length : Int), 0))) (fun y0 =>
  .at ((0, 3)))
  (.bi (pj 1 (l_u18q (x0, x1, (↑x1.length : Int), 0))) (fun y0 =>
   .at ((intOf (cellAt y0.snd.fst y0.snd.snd.snd 1), 0)))
   (.bi (pj 2 (l_u18q (x0, x1, (↑x1.length : Int), 0))) (fun y0 =>
    .at ((0, 4)))
    (.no)))
noncomputable def f_u25q (x0 : List UInt8) (x1 : List AV) : Option B_u25q := lock (tr_u25q x0 x1).ev
theorem f_u25q_eq (x0 : List UInt8) (x1 : List AV) : f_u25q x0 x1 = (tr_u25q x0 x1).ev := lock_eq _
theorem c_u25q : FH IP 29 p_u25q r_u25q (fun (v : List UInt8 × List AV) => (f_u25q v.1 v.2 : Option B_u25q)) := fun_FH (F := F29) (L := [(1002900, ll_u18q)]) (t := fun (v : List UInt8 × List AV) => tr_u25q v.1 v.2) T48_ok (LOk_of (l := [loopAt F29 0]) (by kernel_rfl) ⟨sel_one (by kernel_rfl) t_u18q, trivial⟩) (by kernel_rfl) (fun v => by kernel_rfl) (fun v => f_u25q_eq v.1 v.2)
noncomputable def T49 : Tab := (29, FE p_u25q r_u25q (fun (v : List UInt8 × List AV) => (f_u25q v.1 v.2 : Option B_u25q))) :: T48
theorem T49_ok : TabOk IP T49 := ⟨FE_ok c_u25q, T48_ok⟩
abbrev B_u84q : Type := Int × Int
def p_u84q : PArgs := ⟨[.agg [.int .i64, .int .i64, .str, .view 4], .view 2], []⟩
def r_u84q : List PRes := [⟨false, .tup [.int .i64, .int .i64], []⟩]
abbrev GT_u84q : Type := Int → Int → (List UInt8) → (List AV) → (List AV) → Option B_u84q
def GH_u84q (G_u84q : GT_u84q) : Prop := FH IP 20 p_u84q r_u84q (fun (v : Int × Int × List UInt8 × List AV × List AV) => (G_u84q v.1 v.2.1 v.2.2.1 v.2.2.2.1 v.2.2.2.2 : Option B_u84q))
noncomputable def TG_u84q (G_u84q : GT_u84q) : Tab := (20, FE p_u84q r_u84q (fun (v : Int × Int × List UInt8 × List AV × List AV) => (G_u84q v.1 v.2.1 v.2.2.1 v.2.2.2.1 v.2.2.2.2 : Option B_u84q))) :: T49
theorem TG_u84q_ok (G_u84q : GT_u84q) (hG : GH_u84q G_u84q) : TabOk IP (TG_u84q G_u84q) := ⟨FE_ok (hG), T49_ok⟩
abbrev TT_u66q : Type := (List AV × List AV × Int × Int × Int × Int × List UInt8 × List AV) ⊕ (List AV × List AV × Int × Int × Int × Int × List UInt8 × List AV × List AV)
def hs_u66q : List PSt := [⟨[(1002000, .junk), (1, .view 2), (2, .ref 0 0 0), (6, .nils 1), (30, .view 4), (31, .int .i64), (32, .int .i64)], [(0, .box [.int .i64, .int .i64, .str, .view 4] false)], 1, 0⟩, ⟨[(1002000, .junk), (1, .view 2), (2, .ref 0 0 0), (6, .own 1 0), (30, .view 4), (31, .int .i64), (32, .int .i64)], [(0, .box [.int .i64, .int .i64, .str, .view 4] false), (1, .arr 1 false)], 2, 0⟩]
noncomputable def x_u66q_0 (G_u84q : GT_u84q) (x0 : List AV) (x1 : List AV) (x2 : Int) (x3 : Int) (x4 : Int) (x5 : Int) (x6 : List UInt8) (x7 : List AV) : X × St := (X.ret,
  {
    tm :=
      [(2, AV.ref 0 0 0), (4, AV.int IntKind.i64 0),
        (5, AV.int IntKind.i64 (gv (G_u84q (intOf (cellAt x1 x3 0)) (intOf (cellAt x1 x3 1)) (strOf (cellAt x1 x3 2)) (viewOf (cellAt x1 x3 3)) x0)).snd),
        (6, AV.nils { sz := 1, kd := NKd.nil })],
    hp := [(0, Blk.box [AV.int IntKind.i64 x4, AV.int IntKind.i64 x5, AV.str x6, AV.view 4 x7] false)], nx := 1, k := 0 })
noncomputable def x_u66q_1 (G_u84q : GT_u84q) (x0 : List AV) (x1 : List AV) (x2 : Int) (x3 : Int) (x4 : Int) (x5 : Int) (x6 : List UInt8) (x7 : List AV) : X × St := (X.exit 1,
  { tm := [(2, AV.ref 0 0 0), (4, AV.junk), (5, AV.junk), (6, AV.nils { sz := 1, kd := NKd.nil })],
    hp := [(0, Blk.box [AV.int IntKind.i64 x4, AV.int IntKind.i64 x5, AV.str x6, AV.view 4 x7] false)], nx := 1, k := 0 })
noncomputable def x_u66q_2 (G_u84q : GT_u84q) (x0 : List AV) (x1 : List AV) (x2 : Int) (x3 : Int) (x4 : Int) (x5 : Int) (x6 : List UInt8) (x7 : List AV) (x8 : List AV) : X × St := (X.ret,
  {
    tm :=
      [(2, AV.ref 0 0 0), (4, AV.int IntKind.i64 0),
        (5, AV.int IntKind.i64 (gv (G_u84q (intOf (cellAt x1 x3 0)) (intOf (cellAt x1 x3 1)) (strOf (cellAt x1 x3 2)) (viewOf (cellAt x1 x3 3)) x0)).snd),
        (6, AV.own 1 0 none)],
    hp := [(0, Blk.box [AV.int IntKind.i64 x4, AV.int IntKind.i64 x5, AV.str x6, AV.view 4 x7] false), (1, Blk.arr 1 x8 false)], nx := 2, k := 0 })
noncomputable def x_u66q_3 (G_u84q : GT_u84q) (x0 : List AV) (x1 : List AV) (x2 : Int) (x3 : Int) (x4 : Int) (x5 : Int) (x6 : List UInt8) (x7 : List AV) (x8 : List AV) : X × St := (X.exit 1,
  { tm := [(2, AV.ref 0 0 0), (4, AV.junk), (5, AV.junk), (6, AV.own 1 0 none)],
    hp := [(0, Blk.box [AV.int IntKind.i64 x4, AV.int IntKind.i64 x5, AV.str x6, AV.view 4 x7] false), (1, Blk.arr 1 x8 false)], nx := 2, k := 0 })
noncomputable def x_u66q (G_u84q : GT_u84q) : List (TT_u66q → X × St) := [fun w => x_u66q_0 G_u84q (sl w).1 (sl w).2.1 (sl w).2.2.1 (sl w).2.2.2.1 (sl w).2.2.2.2.1 (sl w).2.2.2.2.2.1 (sl w).2.2.2.2.2.2.1 (sl w).2.2.2.2.2.2.2, fun w => x_u66q_1 G_u84q (sl w).1 (sl w).2.1 (sl w).2.2.1 (sl w).2.2.2.1 (sl w).2.2.2.2.1 (sl w).2.2.2.2.2.1 (sl w).2.2.2.2.2.2.1 (sl w).2.2.2.2.2.2.2, fun w => x_u66q_2 G_u84q (sr w).1 (sr w).2.1 (sr w).2.2.1 (sr w).2.2.2.1 (sr w).2.2.2.2.1 (sr w).2.2.2.2.2.1 (sr w).2.2.2.2.2.2.1 (sr w).2.2.2.2.2.2.2.1 (sr w).2.2.2.2.2.2.2.2, fun w => x_u66q_3 G_u84q (sr w).1 (sr w).2.1 (sr w).2.2.1 (sr w).2.2.2.1 (sr w).2.2.2.2.1 (sr w).2.2.2.2.2.1 (sr w).2.2.2.2.2.2.1 (sr w).2.2.2.2.2.2.2.1 (sr w).2.2.2.2.2.2.2.2]
noncomputable def st_u66q_0 (G_u84q : GT_u84q) (x0 : List AV) (x1 : List AV) (x2 : Int) (x3 : Int) (x4 : Int) (x5 : Int) (x6 : List UInt8) (x7 : List AV) : DT (Rd TT_u66q) :=
 .br (decide (x3 < x2))
  (.br (okAt [CS.int IntKind.i64, CS.int IntKind.i64, CS.str, CS.slice 4] x1 x3)
   (.bi (G_u84q (intOf (cellAt x1 x3 0)) (intOf (cellAt x1 x3 1)) (strOf (cellAt x1 x3 2)) (viewOf (cellAt x1 x3 3)) x0) (fun y0 =>
    .br (y0.snd != 0) (.at (.done 0)) (.at (.next ((.inr (x0, x1, x2, IntKind.i64.wrap (x3 + 1), x4, x5, x6, x7, [AV.int IntKind.i64 y0.fst]))))))
    (.no))
   (.no))
  (.at (.done 1))
noncomputable def st_u66q_1 (G_u84q : GT_u84q) (x0 : List AV) (x1 : List AV) (x2 : Int) (x3 : Int) (x4 : Int) (x5 : Int) (x6 : List UInt8) (x7 : List AV) (x8 : List AV) : DT (Rd TT_u66q) :=
 .br (decide (x3 < x2))
  (.br (okAt [CS.int IntKind.i64, CS.int IntKind.i64, CS.str, CS.slice 4] x1 x3)
   (.bi (G_u84q (intOf (cellAt x1 x3 0)) (intOf (cellAt x1 x3 1)) (strOf (cellAt x1 x3 2)) (viewOf (cellAt x1 x3 3)) x0) (fun y0 =>
    .br (y0.snd != 0)
     (.at (.done 2))
     (.br (room (x8.length + 1) 8) (.at (.next ((.inr (x0, x1, x2, IntKind.i64.wrap (x3 + 1), x4, x5, x6, x7, x8 ++ [AV.int IntKind.i64 y0.fst]))))) (.no)))
    (.no))
   (.no))
  (.at (.done 3))
noncomputable def st_u66q (G_u84q : GT_u84q) : TT_u66q → DT (Rd TT_u66q) := (Sum.elim (fun v => st_u66q_0 G_u84q v.1 v.2.1 v.2.2.1 v.2.2.2.1 v.2.2.2.2.1 v.2.2.2.2.2.1 v.2.2.2.2.2.2.1 v.2.2.2.2.2.2.2) (fun v => st_u66q_1 G_u84q v.1 v.2.1 v.2.2.1 v.2.2.2.1 v.2.2.2.2.1 v.2.2.2.2.2.1 v.2.2.2.2.2.2.1 v.2.2.2.2.2.2.2.1 v.2.2.2.2.2.2.2.2))
noncomputable def l_u66q (G_u84q : GT_u84q) (v : TT_u66q) : Option (Nat × TT_u66q) := lock (iterO (fun v => (st_u66q G_u84q v).ev) v)
theorem l_u66q_eq (G_u84q : GT_u84q) (v : TT_u66q) : l_u66q G_u84q v = iterO (fun v => (st_u66q G_u84q v).ev) v := lock_eq _
noncomputable def ll_u66q (G_u84q : GT_u84q) : LEnt := LE (τ := TT_u66q) (hD hs_u66q) (l_u66q G_u84q) (x_u66q G_u84q)
theorem t_u66q (G_u84q : GT_u84q) (hG : GH_u84q G_u84q) : Go.Eng.Told IP (loopAt F20 0).1 (loopAt F20 0).2 (ll_u66q G_u84q) := loop_LE (inferInstance : Inhabited TT_u66q) (hs := hs_u66q) (st := st_u66q G_u84q) (L := []) (TG_u84q_ok G_u84q hG) (LOk_of (l := []) (by kernel_rfl) trivial) (l_u66q_eq G_u84q) (fun v => match v with | (.inl v) => by kernel_rfl | (.inr v) => by kernel_rfl) (fun v => match v with | (.inl v) => by kernel_rfl | (.inr v) => by kernel_rfl)
noncomputable def tr_u84q (G_u84q : GT_u84q) (x0 : Int) (x1 : Int) (x2 : List UInt8) (x3 : List AV) (x4 : List AV) : DT B_u84q :=
 .br (x0 == 1)
  (.at ((1, 0)))
  (.br (x0 == 2)
   (.at ((2, 0)))
   (.br (x0 == 3)
    (.at ((3, 0)))
    (.br (x0 == 4)
     (.bi (f_u25q x2 x4) (fun y0 =>
      .at ((y0.fst, y0.snd)))
      (.no))
     (.bi (pj 0 (l_u66q G_u84q (Sum.inl (x4, x3, (↑x3.length : Int), 0, x0, x1, x2, x3)))) (fun y0 =>
      .at ((0, (gv
    (G_u84q (intOf (cellAt (sl y0).snd.fst (sl y0).snd.snd.snd.fst 0)) (intOf (cellAt (sl y0).snd.fst (sl y0).snd.snd.snd.fst 1))
      (strOf (cellAt (sl y0).snd.fst (sl y0).snd.snd.snd.fst 2)) (viewOf (cellAt (sl y0).snd.fst (sl y0).snd.snd.snd.fst 3)) (sl y0).fst)).snd)))
      (.bi (pj 1 (l_u66q G_u84q (Sum.inl (x4, x3, (↑x3.length : Int), 0, x0, x1, x2, x3)))) (fun y0 =>
       .bi (f_u39q (sl y0).snd.snd.snd.snd.fst []) (fun y1 =>
        .br (!y1.snd) (.at ((0, 3))) (.at ((y1.fst, 0))))
        (.no))
       (.bi (pj 2 (l_u66q G_u84q (Sum.inl (x4, x3, (↑x3.length : Int), 0, x0, x1, x2, x3)))) (fun y0 =>
        .at ((0, (gv
    (G_u84q (intOf (cellAt (sr y0).snd.fst (sr y0).snd.snd.snd.fst 0)) (intOf (cellAt (sr y0).snd.fst (sr y0).snd.snd.snd.fst 1))
      (strOf (cellAt (sr y0).snd.fst (sr y0).snd.snd.snd.fst 2)) (viewOf (cellAt (sr y0).snd.fst (sr y0).snd.snd.snd.fst 3)) (sr y0).fst)).snd)))
        (.bi (pj 3 (l_u66q G_u84q (Sum.inl (x4, x3, (↑x3.length : Int), 0, x0, x1, x2, x3)))) (fun y0 =>
         .bi (f_u39q (sr y0).snd.snd.snd.snd.fst (sr y0).snd.snd.snd.snd.snd.snd.snd.snd) (fun y1 =>
          .br (!y1.snd) (.at ((0, 3))) (.at ((y1.fst, 0))))
          (.no))
         (.no))))))))
noncomputable def N_u84q : Nat → GT_u84q
  | 0 => fun _ _ _ _ _ => none
  | n + 1 => fun x0 x1 x2 x3 x4 => (tr_u84q ((N_u84q n)) x0 x1 x2 x3 x4).ev
noncomputable def f_u84q (x0 : Int) (x1 : Int) (x2 : List UInt8) (x3 : List AV) (x4 : List AV) : Option B_u84q := limO fun n => (N_u84q n) x0 x1 x2 x3 x4
theorem N_u84q_ok : ∀ n, GH_u84q ((N_u84q n))
  | 0 => (fun v y h => nomatch h)
  | n + 1 => have hG := N_u84q_ok n
    fun_FH (F := F20) (L := [(1002000, ll_u66q ((N_u84q n)))]) (t := fun (v : Int × Int × List UInt8 × List AV × List AV) => tr_u84q ((N_u84q n)) v.1 v.2.1 v.2.2.1 v.2.2.2.1 v.2.2.2.2) (TG_u84q_ok ((N_u84q n)) hG) (LOk_of (l := [loopAt F20 0]) (by kernel_rfl) ⟨sel_one (by kernel_rfl) (t_u66q ((N_u84q n)) hG), trivial⟩) (by kernel_rfl) (fun v => by kernel_rfl) (fun v => rfl)
theorem c_u84q : FH IP 20 p_u84q r_u84q (fun (v : Int × Int × List UInt8 × List AV × List AV) => (f_u84q v.1 v.2.1 v.2.2.1 v.2.2.2.1 v.2.2.2.2 : Option B_u84q)) := lim_FH (p := p_u84q) (rs := r_u84q) (s := fun n (v : Int × Int × List UInt8 × List AV × List AV) => (N_u84q n) v.1 v.2.1 v.2.2.1 v.2.2.2.1 v.2.2.2.2) fun n => (N_u84q_ok n)
noncomputable def T50 : Tab := (20, FE p_u84q r_u84q (fun (v : Int × Int × List UInt8 × List AV × List AV) => (f_u84q v.1 v.2.1 v.2.2.1 v.2.2.2.1 v.2.2.2.2 : Option B_u84q))) :: T49
theorem T50_ok : TabOk IP T50 := ⟨FE_ok c_u84q, T49_ok⟩
abbrev B_u83q : Type := Int × Int
def p_u83q : PArgs := ⟨[.agg [.int .i64, .int .i64, .str, .view 4], .view 2], []⟩
def r_u83q : List PRes := [⟨false, .tup [.int .i64, .int .i64], []⟩]
noncomputable def tr_u83q (x0 : Int) (x1 : Int) (x2 : List UInt8) (x3 : List AV) (x4 : List AV) : DT B_u83q :=
 .bi (f_u31q x0 x1 x2 x3) (fun y0 =>
  .br (y0 != 0)
   (.at ((0, y0)))
   (.bi (f_u84q x0 x1 x2 x3 x4) (fun y1 =>
    .at ((y1.fst, y1.snd)))
    (.no)))
  (.no)
noncomputable def f_u83q (x0 : Int) (x1 : Int) (x2 : List UInt8) (x3 : List AV) (x4 : List AV) : Option B_u83q := lock (tr_u83q x0 x1 x2 x3 x4).ev
theorem f_u83q_eq (x0 : Int) (x1 : Int) (x2 : List UInt8) (x3 : List AV) (x4 : List AV) : f_u83q x0 x1 x2 x3 x4 = (tr_u83q x0 x1 x2 x3 x4).ev := lock_eq _
theorem c_u83q : FH IP 10 p_u83q r_u83q (fun (v : Int × Int × List UInt8 × List AV × List AV) => (f_u83q v.1 v.2.1 v.2.2.1 v.2.2.2.1 v.2.2.2.2 : Option B_u83q)) := fun_FH (F := F10) (L := []) (t := fun (v : Int × Int × List UInt8 × List AV × List AV) => tr_u83q v.1 v.2.1 v.2.2.1 v.2.2.2.1 v.2.2.2.2) T50_ok (LOk_of (l := []) (by kernel_rfl) trivial) (by kernel_rfl) (fun v => by kernel_rfl) (fun v => f_u83q_eq v.1 v.2.1 v.2.2.1 v.2.2.2.1 v.2.2.2.2)
noncomputable def T51 : Tab := (10, FE p_u83q r_u83q (fun (v : Int × Int × List UInt8 × List AV × List AV) => (f_u83q v.1 v.2.1 v.2.2.1 v.2.2.2.1 v.2.2.2.2 : Option B_u83q))) :: T50
theorem T51_ok : TabOk IP T51 := ⟨FE_ok c_u83q, T50_ok⟩
abbrev TT_u41q : Type := List AV × List AV × Int × Int × List AV × Int × Int × List UInt8 × Int
def hs_u41q : List PSt := [⟨[(1001301, .junk), (0, .view 2), (4, .ref 0 0 0), (10, .view 2), (11, .int .i64), (12, .int .i64), (24, .view 2), (25, .int .i64), (26, .int .i64)], [(0, .box [.str, .int .i64] false)], 1, 0⟩]
noncomputable def x_u41q_0 (x0 : List AV) (x1 : List AV) (x2 : Int) (x3 : Int) (x4 : List AV) (x5 : Int) (x6 : Int) (x7 : List UInt8) (x8 : Int) : X × St := (X.ret,
  { tm := [(0, AV.view 2 x0), (2, AV.int IntKind.i64 12), (4, AV.ref 0 0 0), (10, AV.view 2 x1), (11, AV.int IntKind.i64 x2), (12, AV.int IntKind.i64 x3)],
    hp := [(0, Blk.box [AV.str x7, AV.int IntKind.i64 x8] false)], nx := 1, k := 0 })
noncomputable def x_u41q_1 (x0 : List AV) (x1 : List AV) (x2 : Int) (x3 : Int) (x4 : List AV) (x5 : Int) (x6 : Int) (x7 : List UInt8) (x8 : Int) : X × St := (X.exit 2,
  { tm := [(0, AV.view 2 x0), (2, AV.junk), (4, AV.ref 0 0 0), (10, AV.view 2 x1), (11, AV.int IntKind.i64 x2), (12, AV.int IntKind.i64 x3)],
    hp := [(0, Blk.box [AV.str x7, AV.int IntKind.i64 x8] false)], nx := 1, k := 0 })
noncomputable def x_u41q : List (TT_u41q → X × St) := [fun w => x_u41q_0 w.1 w.2.1 w.2.2.1 w.2.2.2.1 w.2.2.2.2.1 w.2.2.2.2.2.1 w.2.2.2.2.2.2.1 w.2.2.2.2.2.2.2.1 w.2.2.2.2.2.2.2.2, fun w => x_u41q_1 w.1 w.2.1 w.2.2.1 w.2.2.2.1 w.2.2.2.2.1 w.2.2.2.2.2.1 w.2.2.2.2.2.2.1 w.2.2.2.2.2.2.2.1 w.2.2.2.2.2.2.2.2]
noncomputable def st_u41q_0 (x0 : List AV) (x1 : List AV) (x2 : Int) (x3 : Int) (x4 : List AV) (x5 : Int) (x6 : Int) (x7 : List UInt8) (x8 : Int) : DT (Rd TT_u41q) :=
 .br (decide (x6 < x5))
  (.br (okAt [CS.str, CS.int IntKind.i64] x4 x6)
   (.br (strOf (cellAt x4 x6 0) == x7) (.at (.done 0)) (.at (.next ((x0, x1, x2, x3, x4, x5, IntKind.i64.wrap (x6 + 1), x7, x8)))))
   (.no))
  (.at (.done 1))
noncomputable def st_u41q : TT_u41q → DT (Rd TT_u41q) := (fun v => st_u41q_0 v.1 v.2.1 v.2.2.1 v.2.2.2.1 v.2.2.2.2.1 v.2.2.2.2.2.1 v.2.2.2.2.2.2.1 v.2.2.2.2.2.2.2.1 v.2.2.2.2.2.2.2.2)
noncomputable def l_u41q (v : TT_u41q) : Option (Nat × TT_u41q) := lock (iterO (fun v => (st_u41q v).ev) v)
theorem l_u41q_eq (v : TT_u41q) : l_u41q v = iterO (fun v => (st_u41q v).ev) v := lock_eq _
noncomputable def ll_u41q : LEnt := LE (τ := TT_u41q) (hD hs_u41q) (l_u41q) x_u41q
theorem t_u41q : Go.Eng.Told IP (loopAt F13 1).1 (loopAt F13 1).2 (ll_u41q) := loop_LE (inferInstance : Inhabited TT_u41q) (hs := hs_u41q) (st := st_u41q) (L := []) T51_ok (LOk_of (l := []) (by kernel_rfl) trivial) (l_u41q_eq) (fun v => by kernel_rfl) (fun v => by kernel_rfl)
end Go.Proofs.H11d

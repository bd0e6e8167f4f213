/- Functions over plain data. Printed by a program of mine. -/
import Derived.Test.YtbhffafppahmjaaDoorE3
import Derived.Test.YtbhffafppahmjaaDoorIP11d
import Derived.KernelRfl
set_option linter.unusedVariables false
set_option linter.unusedSimpArgs false
set_option linter.unnecessarySimpa false
namespace Go.Proofs.H11d
open Go Go.Eng
set_option maxRecDepth 100000
noncomputable def T0 : Tab := [(38, countE), (59, fieldsE), (61, idxE), (57, parseE 100), (70, atoiE 100)]
theorem T0_ok : TabOk IP T0 := ⟨sp38, sp59, sp61, sp57, sp70, trivial⟩
abbrev B_u55q : Type := Bool
def p_u55q : PArgs := ⟨[.int .i64], []⟩
def r_u55q : List PRes := [⟨false, .bool, []⟩]
noncomputable def tr_u55q (x0 : Int) : DT B_u55q :=
 .bi (br (decide (x0 ≥ 1)) (some (decide (x0 ≤ 5))) (some false)) (fun y0 =>
  .at (y0))
  (.no)
noncomputable def f_u55q (x0 : Int) : Option B_u55q := lock (tr_u55q x0).ev
theorem f_u55q_eq (x0 : Int) : f_u55q x0 = (tr_u55q x0).ev := lock_eq _
theorem c_u55q : FH IP 14 p_u55q r_u55q (fun (v : Int) => (f_u55q v : Option B_u55q)) := fun_FH (F := F14) (L := []) (t := fun (v : Int) => tr_u55q v) T0_ok (LOk_of (l := []) (by kernel_rfl) trivial) (by kernel_rfl) (fun v => by kernel_rfl) (fun v => f_u55q_eq v)
noncomputable def T1 : Tab := (14, FE p_u55q r_u55q (fun (v : Int) => (f_u55q v : Option B_u55q))) :: T0
theorem T1_ok : TabOk IP T1 := ⟨FE_ok c_u55q, T0_ok⟩
abbrev TT_u24q : Type := Int × List AV × List AV × Int × Int
def hs_u24q : List PSt := [⟨[(1000600, .junk), (0, .int .i64), (1, .view 1), (10, .view 1), (11, .int .i64), (12, .int .i64)], [], 0, 0⟩]
noncomputable def x_u24q_0 (x0 : Int) (x1 : List AV) (x2 : List AV) (x3 : Int) (x4 : Int) : X × St := (X.ret, { tm := [(0, AV.int IntKind.i64 x0), (1, AV.view 1 x1), (4, AV.int IntKind.i64 0), (5, AV.bool false)], hp := [], nx := 0, k := 0 })
noncomputable def x_u24q_1 (x0 : Int) (x1 : List AV) (x2 : List AV) (x3 : Int) (x4 : Int) : X × St := (X.exit 0, { tm := [(0, AV.int IntKind.i64 x0), (1, AV.view 1 x1), (4, AV.junk), (5, AV.junk)], hp := [], nx := 0, k := 0 })
noncomputable def x_u24q : List (TT_u24q → X × St) := [fun w => x_u24q_0 w.1 w.2.1 w.2.2.1 w.2.2.2.1 w.2.2.2.2, fun w => x_u24q_1 w.1 w.2.1 w.2.2.1 w.2.2.2.1 w.2.2.2.2]
noncomputable def st_u24q_0 (x0 : Int) (x1 : List AV) (x2 : List AV) (x3 : Int) (x4 : Int) : DT (Rd TT_u24q) :=
 .br (decide (x4 < x3))
  (.br (okAt [CS.int IntKind.i64] x2 x4)
   (.bi (f_u55q (intOf (cellAt x2 x4 0))) (fun y0 =>
    .br (!y0) (.at (.done 0)) (.at (.next ((x0, x1, x2, x3, IntKind.i64.wrap (x4 + 1))))))
    (.no))
   (.no))
  (.at (.done 1))
noncomputable def st_u24q : TT_u24q → DT (Rd TT_u24q) := (fun v => st_u24q_0 v.1 v.2.1 v.2.2.1 v.2.2.2.1 v.2.2.2.2)
noncomputable def l_u24q (v : TT_u24q) : Option (Nat × TT_u24q) := lock (iterO (fun v => (st_u24q v).ev) v)
theorem l_u24q_eq (v : TT_u24q) : l_u24q v = iterO (fun v => (st_u24q v).ev) v := lock_eq _
noncomputable def ll_u24q : LEnt := LE (τ := TT_u24q) (hD hs_u24q) (l_u24q) x_u24q
theorem t_u24q : Go.Eng.Told IP (loopAt F6 0).1 (loopAt F6 0).2 (ll_u24q) := loop_LE (inferInstance : Inhabited TT_u24q) (hs := hs_u24q) (st := st_u24q) (L := []) T1_ok (LOk_of (l := []) (by kernel_rfl) trivial) (l_u24q_eq) (fun v => by kernel_rfl) (fun v => by kernel_rfl)
abbrev B_u78q : Type := Int × Bool
def p_u78q : PArgs := ⟨[.int .i64, .int .i64], []⟩
def r_u78q : List PRes := [⟨false, .tup [.int .i64, .bool], []⟩]
noncomputable def tr_u78q (x0 : Int) (x1 : Int) : DT B_u78q :=
 .br (x0 == 16)
  (.at ((5, x1 == 5)))
  (.br (x0 == 9)
   (.bi (br (x1 == 1) (some true) (some (x1 == 2))) (fun y0 =>
    .bi (br y0 (some true) (some (x1 == 3))) (fun y1 =>
     .at ((x1, y1)))
     (.no))
    (.no))
   (.at ((0, false))))
noncomputable def f_u78q (x0 : Int) (x1 : Int) : Option B_u78q := lock (tr_u78q x0 x1).ev
theorem f_u78q_eq (x0 : Int) (x1 : Int) : f_u78q x0 x1 = (tr_u78q x0 x1).ev := lock_eq _
theorem c_u78q : FH IP 15 p_u78q r_u78q (fun (v : Int × Int) => (f_u78q v.1 v.2 : Option B_u78q)) := fun_FH (F := F15) (L := []) (t := fun (v : Int × Int) => tr_u78q v.1 v.2) T1_ok (LOk_of (l := []) (by kernel_rfl) trivial) (by kernel_rfl) (fun v => by kernel_rfl) (fun v => f_u78q_eq v.1 v.2)
noncomputable def T2 : Tab := (15, FE p_u78q r_u78q (fun (v : Int × Int) => (f_u78q v.1 v.2 : Option B_u78q))) :: T1
theorem T2_ok : TabOk IP T2 := ⟨FE_ok c_u78q, T1_ok⟩
abbrev B_u17q : Type := List (AV × AV)
def p_u17q : PArgs := ⟨[], []⟩
def r_u17q : List PRes := [⟨false, .mref 0, [(0, .mp)]⟩]
noncomputable def tr_u17q : DT B_u17q :=
 .at ([(AV.agg [AV.int IntKind.i64 5, AV.int IntKind.i64 1, AV.int IntKind.i64 1], AV.int IntKind.i64 1),
  (AV.agg [AV.int IntKind.i64 5, AV.int IntKind.i64 2, AV.int IntKind.i64 2], AV.int IntKind.i64 2),
  (AV.agg [AV.int IntKind.i64 5, AV.int IntKind.i64 3, AV.int IntKind.i64 3], AV.int IntKind.i64 3),
  (AV.agg [AV.int IntKind.i64 5, AV.int IntKind.i64 4, AV.int IntKind.i64 1], AV.int IntKind.i64 4),
  (AV.agg [AV.int IntKind.i64 6, AV.int IntKind.i64 1, AV.int IntKind.i64 1], AV.int IntKind.i64 1),
  (AV.agg [AV.int IntKind.i64 6, AV.int IntKind.i64 2, AV.int IntKind.i64 2], AV.int IntKind.i64 2),
  (AV.agg [AV.int IntKind.i64 6, AV.int IntKind.i64 3, AV.int IntKind.i64 3], AV.int IntKind.i64 3),
  (AV.agg [AV.int IntKind.i64 6, AV.int IntKind.i64 4, AV.int IntKind.i64 1], AV.int IntKind.i64 4),
  (AV.agg [AV.int IntKind.i64 6, AV.int IntKind.i64 4, AV.int IntKind.i64 4], AV.int IntKind.i64 1),
  (AV.agg [AV.int IntKind.i64 7, AV.int IntKind.i64 1, AV.int IntKind.i64 1], AV.int IntKind.i64 1),
  (AV.agg [AV.int IntKind.i64 7, AV.int IntKind.i64 1, AV.int IntKind.i64 2], AV.int IntKind.i64 2),
  (AV.agg [AV.int IntKind.i64 7, AV.int IntKind.i64 1, AV.int IntKind.i64 3], AV.int IntKind.i64 3),
  (AV.agg [AV.int IntKind.i64 7, AV.int IntKind.i64 2, AV.int IntKind.i64 1], AV.int IntKind.i64 2),
  (AV.agg [AV.int IntKind.i64 7, AV.int IntKind.i64 2, AV.int IntKind.i64 3], AV.int IntKind.i64 2),
  (AV.agg [AV.int IntKind.i64 7, AV.int IntKind.i64 3, AV.int IntKind.i64 1], AV.int IntKind.i64 3),
  (AV.agg [AV.int IntKind.i64 7, AV.int IntKind.i64 3, AV.int IntKind.i64 2], AV.int IntKind.i64 2),
  (AV.agg [AV.int IntKind.i64 8, AV.int IntKind.i64 1, AV.int IntKind.i64 1], AV.int IntKind.i64 1),
  (AV.agg [AV.int IntKind.i64 8, AV.int IntKind.i64 2, AV.int IntKind.i64 1], AV.int IntKind.i64 2),
  (AV.agg [AV.int IntKind.i64 8, AV.int IntKind.i64 2, AV.int IntKind.i64 2], AV.int IntKind.i64 1),
  (AV.agg [AV.int IntKind.i64 8, AV.int IntKind.i64 3, AV.int IntKind.i64 1], AV.int IntKind.i64 3)])
noncomputable def f_u17q : Option B_u17q := lock (tr_u17q).ev
theorem f_u17q_eq : f_u17q = (tr_u17q).ev := lock_eq _
theorem c_u17q : FH IP 21 p_u17q r_u17q (fun (v : Unit) => (f_u17q : Option B_u17q)) := cst_FH (fun v => f_u17q_eq) (fun v => by kernel_rfl)
noncomputable def T3 : Tab := (21, FE p_u17q r_u17q (fun (v : Unit) => (f_u17q : Option B_u17q))) :: T2
theorem T3_ok : TabOk IP T3 := ⟨FE_ok c_u17q, T2_ok⟩
abbrev B_u79q : Type := Int × Bool
def p_u79q : PArgs := ⟨[.int .i64, .int .i64, .int .i64], []⟩
def r_u79q : List PRes := [⟨false, .tup [.int .i64, .bool], []⟩]
noncomputable def tr_u79q (x0 : Int) (x1 : Int) (x2 : Int) : DT B_u79q :=
 .br (x0 == 10)
  (.br (x0 == 10)
   (.at ((5, x1 == x2)))
   (.br (x0 == 12)
    (.br (x0 == 12)
     (.bi (br (x1 == x2) (some (x1 != 5)) (some false)) (fun y0 =>
      .at ((5, y0)))
      (.no))
     (.br (x0 == 14)
      (.br (x0 == 14)
       (.bi (br (x1 == x2) (some (x1 == 5)) (some false)) (fun y0 =>
        .at ((5, y0)))
        (.no))
       (.br (x0 == 17)
        (.br (x0 == 17)
         (.bi (br (x1 == x2) (some (x1 != 5)) (some false)) (fun y0 =>
          .at ((x1, y0)))
          (.no))
         (.bi (f_u17q) (fun y0 =>
          .br (mhas (true, [EK.i, EK.i, EK.i]) y0 (AV.agg [AV.int IntKind.i64 x0, AV.int IntKind.i64 x1, AV.int IntKind.i64 x2]))
           (.br (okE false [CS.int IntKind.i64] [mval (true, [EK.i, EK.i, EK.i]) y0 (AV.agg [AV.int IntKind.i64 x0, AV.int IntKind.i64 x1, AV.int IntKind.i64 x2])] 0)
            (.at ((intOf (cellAt [mval (true, [EK.i, EK.i, EK.i]) y0 (AV.agg [AV.int IntKind.i64 x0, AV.int IntKind.i64 x1, AV.int IntKind.i64 x2])] 0 0), intOf (cellAt [mval (true, [EK.i, EK.i, EK.i]) y0 (AV.agg [AV.int IntKind.i64 x0, AV.int IntKind.i64 x1, AV.int IntKind.i64 x2])] 0 0) != 0)))
            (.no))
           (.br (mnot (true, [EK.i, EK.i, EK.i]) y0 (AV.agg [AV.int IntKind.i64 x0, AV.int IntKind.i64 x1, AV.int IntKind.i64 x2])) (.at ((0, false))) (.no)))
          (.no)))
        (.br (x0 == 18)
         (.bi (br (x1 == x2) (some (x1 != 5)) (some false)) (fun y0 =>
          .at ((x1, y0)))
          (.no))
         (.bi (f_u17q) (fun y0 =>
          .br (mhas (true, [EK.i, EK.i, EK.i]) y0 (AV.agg [AV.int IntKind.i64 x0, AV.int IntKind.i64 x1, AV.int IntKind.i64 x2]))
           (.br (okE false [CS.int IntKind.i64] [mval (true, [EK.i, EK.i, EK.i]) y0 (AV.agg [AV.int IntKind.i64 x0, AV.int IntKind.i64 x1, AV.int IntKind.i64 x2])] 0)
            (.at ((intOf (cellAt [mval (true, [EK.i, EK.i, EK.i]) y0 (AV.agg [AV.int IntKind.i64 x0, AV.int IntKind.i64 x1, AV.int IntKind.i64 x2])] 0 0), intOf (cellAt [mval (true, [EK.i, EK.i, EK.i]) y0 (AV.agg [AV.int IntKind.i64 x0, AV.int IntKind.i64 x1, AV.int IntKind.i64 x2])] 0 0) != 0)))
            (.no))
           (.br (mnot (true, [EK.i, EK.i, EK.i]) y0 (AV.agg [AV.int IntKind.i64 x0, AV.int IntKind.i64 x1, AV.int IntKind.i64 x2])) (.at ((0, false))) (.no)))
          (.no)))))
      (.br (x0 == 15)
       (.bi (br (x1 == x2) (some (x1 == 5)) (some false)) (fun y0 =>
        .at ((5, y0)))
        (.no))
       (.br (x0 == 17)
        (.br (x0 == 17)
         (.bi (br (x1 == x2) (some (x1 != 5)) (some false)) (fun y0 =>
          .at ((x1, y0)))
          (.no))
         (.bi (f_u17q) (fun y0 =>
          .br (mhas (true, [EK.i, EK.i, EK.i]) y0 (AV.agg [AV.int IntKind.i64 x0, AV.int IntKind.i64 x1, AV.int IntKind.i64 x2]))
           (.br (okE false [CS.int IntKind.i64] [mval (true, [EK.i, EK.i, EK.i]) y0 (AV.agg [AV.int IntKind.i64 x0, AV.int IntKind.i64 x1, AV.int IntKind.i64 x2])] 0)
            (.at ((intOf (cellAt [mval (true, [EK.i, EK.i, EK.i]) y0 (AV.agg [AV.int IntKind.i64 x0, AV.int IntKind.i64 x1, AV.int IntKind.i64 x2])] 0 0), intOf (cellAt [mval (true, [EK.i, EK.i, EK.i]) y0 (AV.agg [AV.int IntKind.i64 x0, AV.int IntKind.i64 x1, AV.int IntKind.i64 x2])] 0 0) != 0)))
            (.no))
           (.br (mnot (true, [EK.i, EK.i, EK.i]) y0 (AV.agg [AV.int IntKind.i64 x0, AV.int IntKind.i64 x1, AV.int IntKind.i64 x2])) (.at ((0, false))) (.no)))
          (.no)))
        (.br (x0 == 18)
         (.bi (br (x1 == x2) (some (x1 != 5)) (some false)) (fun y0 =>
          .at ((x1, y0)))
          (.no))
         (.bi (f_u17q) (fun y0 =>
          .br (mhas (true, [EK.i, EK.i, EK.i]) y0 (AV.agg [AV.int IntKind.i64 x0, AV.int IntKind.i64 x1, AV.int IntKind.i64 x2]))
           (.br (okE false [CS.int IntKind.i64] [mval (true, [EK.i, EK.i, EK.i]) y0 (AV.agg [AV.int IntKind.i64 x0, AV.int IntKind.i64 x1, AV.int IntKind.i64 x2])] 0)
            (.at ((intOf (cellAt [mval (true, [EK.i, EK.i, EK.i]) y0 (AV.agg [AV.int IntKind.i64 x0, AV.int IntKind.i64 x1, AV.int IntKind.i64 x2])] 0 0), intOf (cellAt [mval (true, [EK.i, EK.i, EK.i]) y0 (AV.agg [AV.int IntKind.i64 x0, AV.int IntKind.i64 x1, AV.int IntKind.i64 x2])] 0 0) != 0)))
            (.no))
           (.br (mnot (true, [EK.i, EK.i, EK.i]) y0 (AV.agg [AV.int IntKind.i64 x0, AV.int IntKind.i64 x1, AV.int IntKind.i64 x2])) (.at ((0, false))) (.no)))
          (.no)))))))
    (.br (x0 == 13)
     (.bi (br (x1 == x2) (some (x1 != 5)) (some false)) (fun y0 =>
      .at ((5, y0)))
      (.no))
     (.br (x0 == 14)
      (.br (x0 == 14)
       (.bi (br (x1 == x2) (some (x1 == 5)) (some false)) (fun y0 =>
        .at ((5, y0)))
        (.no))
       (.br (x0 == 17)
        (.br (x0 == 17)
         (.bi (br (x1 == x2) (some (x1 != 5)) (some false)) (fun y0 =>
          .at ((x1, y0)))
          (.no))
         (.bi (f_u17q) (fun y0 =>
          .br (mhas (true, [EK.i, EK.i, EK.i]) y0 (AV.agg [AV.int IntKind.i64 x0, AV.int IntKind.i64 x1, AV.int IntKind.i64 x2]))
           (.br (okE false [CS.int IntKind.i64] [mval (true, [EK.i, EK.i, EK.i]) y0 (AV.agg [AV.int IntKind.i64 x0, AV.int IntKind.i64 x1, AV.int IntKind.i64 x2])] 0)
            (.at ((intOf (cellAt [mval (true, [EK.i, EK.i, EK.i]) y0 (AV.agg [AV.int IntKind.i64 x0, AV.int IntKind.i64 x1, AV.int IntKind.i64 x2])] 0 0), intOf (cellAt [mval (true, [EK.i, EK.i, EK.i]) y0 (AV.agg [AV.int IntKind.i64 x0, AV.int IntKind.i64 x1, AV.int IntKind.i64 x2])] 0 0) != 0)))
            (.no))
           (.br (mnot (true, [EK.i, EK.i, EK.i]) y0 (AV.agg [AV.int IntKind.i64 x0, AV.int IntKind.i64 x1, AV.int IntKind.i64 x2])) (.at ((0, false))) (.no)))
          (.no)))
        (.br (x0 == 18)
         (.bi (br (x1 == x2) (some (x1 != 5)) (some false)) (fun y0 =>
          .at ((x1, y0)))
          (.no))
         (.bi (f_u17q) (fun y0 =>
          .br (mhas (true, [EK.i, EK.i, EK.i]) y0 (AV.agg [AV.int IntKind.i64 x0, AV.int IntKind.i64 x1, AV.int IntKind.i64 x2]))
           (.br (okE false [CS.int IntKind.i64] [mval (true, [EK.i, EK.i, EK.i]) y0 (AV.agg [AV.int IntKind.i64 x0, AV.int IntKind.i64 x1, AV.int IntKind.i64 x2])] 0)
            (.at ((intOf (cellAt [mval (true, [EK.i, EK.i, EK.i]) y0 (AV.agg [AV.int IntKind.i64 x0, AV.int IntKind.i64 x1, AV.int IntKind.i64 x2])] 0 0), intOf (cellAt [mval (true, [EK.i, EK.i, EK.i]) y0 (AV.agg [AV.int IntKind.i64 x0, AV.int IntKind.i64 x1, AV.int IntKind.i64 x2])] 0 0) != 0)))
            (.no))
           (.br (mnot (true, [EK.i, EK.i, EK.i]) y0 (AV.agg [AV.int IntKind.i64 x0, AV.int IntKind.i64 x1, AV.int IntKind.i64 x2])) (.at ((0, false))) (.no)))
          (.no)))))
      (.br (x0 == 15)
       (.bi (br (x1 == x2) (some (x1 == 5)) (some false)) (fun y0 =>
        .at ((5, y0)))
        (.no))
       (.br (x0 == 17)
        (.br (x0 == 17)
         (.bi (br (x1 == x2) (some (x1 != 5)) (some false)) (fun y0 =>
          .at ((x1, y0)))
          (.no))
         (.bi (f_u17q) (fun y0 =>
          .br (mhas (true, [EK.i, EK.i, EK.i]) y0 (AV.agg [AV.int IntKind.i64 x0, AV.int IntKind.i64 x1, AV.int IntKind.i64 x2]))
           (.br (okE false [CS.int IntKind.i64] [mval (true, [EK.i, EK.i, EK.i]) y0 (AV.agg [AV.int IntKind.i64 x0, AV.int IntKind.i64 x1, AV.int IntKind.i64 x2])] 0)
            (.at ((intOf (cellAt [mval (true, [EK.i, EK.i, EK.i]) y0 (AV.agg [AV.int IntKind.i64 x0, AV.int IntKind.i64 x1, AV.int IntKind.i64 x2])] 0 0), intOf (cellAt [mval (true, [EK.i, EK.i, EK.i]) y0 (AV.agg [AV.int IntKind.i64 x0, AV.int IntKind.i64 x1, AV.int IntKind.i64 x2])] 0 0) != 0)))
            (.no))
           (.br (mnot (true, [EK.i, EK.i, EK.i]) y0 (AV.agg [AV.int IntKind.i64 x0, AV.int IntKind.i64 x1, AV.int IntKind.i64 x2])) (.at ((0, false))) (.no)))
          (.no)))
        (.br (x0 == 18)
         (.bi (br (x1 == x2) (some (x1 != 5)) (some false)) (fun y0 =>
          .at ((x1, y0)))
          (.no))
         (.bi (f_u17q) (fun y0 =>
          .br (mhas (true, [EK.i, EK.i, EK.i]) y0 (AV.agg [AV.int IntKind.i64 x0, AV.int IntKind.i64 x1, AV.int IntKind.i64 x2]))
           (.br (okE false [CS.int IntKind.i64] [mval (true, [EK.i, EK.i, EK.i]) y0 (AV.agg [AV.int IntKind.i64 x0, AV.int IntKind.i64 x1, AV.int IntKind.i64 x2])] 0)
            (.at ((intOf (cellAt [mval (true, [EK.i, EK.i, EK.i]) y0 (AV.agg [AV.int IntKind.i64 x0, AV.int IntKind.i64 x1, AV.int IntKind.i64 x2])] 0 0), intOf (cellAt [mval (true, [EK.i, EK.i, EK.i]) y0 (AV.agg [AV.int IntKind.i64 x0, AV.int IntKind.i64 x1, AV.int IntKind.i64 x2])] 0 0) != 0)))
            (.no))
           (.br (mnot (true, [EK.i, EK.i, EK.i]) y0 (AV.agg [AV.int IntKind.i64 x0, AV.int IntKind.i64 x1, AV.int IntKind.i64 x2])) (.at ((0, false))) (.no)))
          (.no)))))))))
  (.br (x0 == 11)
   (.at ((5, x1 == x2)))
   (.br (x0 == 12)
    (.br (x0 == 12)
     (.bi (br (x1 == x2) (some (x1 != 5)) (some false)) (fun y0 =>
      .at ((5, y0)))
      (.no))
     (.br (x0 == 14)
      (.br (x0 == 14)
       (.bi (br (x1 == x2) (some (x1 == 5)) (some false)) (fun y0 =>
        .at ((5, y0)))
        (.no))
       (.br (x0 == 17)
        (.br (x0 == 17)
         (.bi (br (x1 == x2) (some (x1 != 5)) (some false)) (fun y0 =>
          .at ((x1, y0)))
          (.no))
         (.bi (f_u17q) (fun y0 =>
          .br (mhas (true, [EK.i, EK.i, EK.i]) y0 (AV.agg [AV.int IntKind.i64 x0, AV.int IntKind.i64 x1, AV.int IntKind.i64 x2]))
           (.br (okE false [CS.int IntKind.i64] [mval (true, [EK.i, EK.i, EK.i]) y0 (AV.agg [AV.int IntKind.i64 x0, AV.int IntKind.i64 x1, AV.int IntKind.i64 x2])] 0)
            (.at ((intOf (cellAt [mval (true, [EK.i, EK.i, EK.i]) y0 (AV.agg [AV.int IntKind.i64 x0, AV.int IntKind.i64 x1, AV.int IntKind.i64 x2])] 0 0), intOf (cellAt [mval (true, [EK.i, EK.i, EK.i]) y0 (AV.agg [AV.int IntKind.i64 x0, AV.int IntKind.i64 x1, AV.int IntKind.i64 x2])] 0 0) != 0)))
            (.no))
           (.br (mnot (true, [EK.i, EK.i, EK.i]) y0 (AV.agg [AV.int IntKind.i64 x0, AV.int IntKind.i64 x1, AV.int IntKind.i64 x2])) (.at ((0, false))) (.no)))
          (.no)))
        (.br (x0 == 18)
         (.bi (br (x1 == x2) (some (x1 != 5)) (some false)) (fun y0 =>
          .at ((x1, y0)))
          (.no))
         (.bi (f_u17q) (fun y0 =>
          .br (mhas (true, [EK.i, EK.i, EK.i]) y0 (AV.agg [AV.int IntKind.i64 x0, AV.int IntKind.i64 x1, AV.int IntKind.i64 x2]))
           (.br (okE false [CS.int IntKind.i64] [mval (true, [EK.i, EK.i, EK.i]) y0 (AV.agg [AV.int IntKind.i64 x0, AV.int IntKind.i64 x1, AV.int IntKind.i64 x2])] 0)
            (.at ((intOf (cellAt [mval (true, [EK.i, EK.i, EK.i]) y0 (AV.agg [AV.int IntKind.i64 x0, AV.int IntKind.i64 x1, AV.int IntKind.i64 x2])] 0 0), intOf (cellAt [mval (true, [EK.i, EK.i, EK.i]) y0 (AV.agg [AV.int IntKind.i64 x0, AV.int IntKind.i64 x1, AV.int IntKind.i64 x2])] 0 0) != 0)))
            (.no))
           (.br (mnot (true, [EK.i, EK.i, EK.i]) y0 (AV.agg [AV.int IntKind.i64 x0, AV.int IntKind.i64 x1, AV.int IntKind.i64 x2])) (.at ((0, false))) (.no)))
          (.no)))))
      (.br (x0 == 15)
       (.bi (br (x1 == x2) (some (x1 == 5)) (some false)) (fun y0 =>
        .at ((5, y0)))
        (.no))
       (.br (x0 == 17)
        (.br (x0 == 17)
         (.bi (br (x1 == x2) (some (x1 != 5)) (some false)) (fun y0 =>
          .at ((x1, y0)))
          (.no))
         (.bi (f_u17q) (fun y0 =>
          .br (mhas (true, [EK.i, EK.i, EK.i]) y0 (AV.agg [AV.int IntKind.i64 x0, AV.int IntKind.i64 x1, AV.int IntKind.i64 x2]))
           (.br (okE false [CS.int IntKind.i64] [mval (true, [EK.i, EK.i, EK.i]) y0 (AV.agg [AV.int IntKind.i64 x0, AV.int IntKind.i64 x1, AV.int IntKind.i64 x2])] 0)
            (.at ((intOf (cellAt [mval (true, [EK.i, EK.i, EK.i]) y0 (AV.agg [AV.int IntKind.i64 x0, AV.int IntKind.i64 x1, AV.int IntKind.i64 x2])] 0 0), intOf (cellAt [mval (true, [EK.i, EK.i, EK.i]) y0 (AV.agg [AV.int IntKind.i64 x0, AV.int IntKind.i64 x1, AV.int IntKind.i64 x2])] 0 0) != 0)))
            (.no))
           (.br (mnot (true, [EK.i, EK.i, EK.i]) y0 (AV.agg [AV.int IntKind.i64 x0, AV.int IntKind.i64 x1, AV.int IntKind.i64 x2])) (.at ((0, false))) (.no)))
          (.no)))
        (.br (x0 == 18)
         (.bi (br (x1 == x2) (some (x1 != 5)) (some false)) (fun y0 =>
          .at ((x1, y0)))
          (.no))
         (.bi (f_u17q) (fun y0 =>
          .br (mhas (true, [EK.i, EK.i, EK.i]) y0 (AV.agg [AV.int IntKind.i64 x0, AV.int IntKind.i64 x1, AV.int IntKind.i64 x2]))
           (.br (okE false [CS.int IntKind.i64] [mval (true, [EK.i, EK.i, EK.i]) y0 (AV.agg [AV.int IntKind.i64 x0, AV.int IntKind.i64 x1, AV.int IntKind.i64 x2])] 0)
            (.at ((intOf (cellAt [mval (true, [EK.i, EK.i, EK.i]) y0 (AV.agg [AV.int IntKind.i64 x0, AV.int IntKind.i64 x1, AV.int IntKind.i64 x2])] 0 0), intOf (cellAt [mval (true, [EK.i, EK.i, EK.i]) y0 (AV.agg [AV.int IntKind.i64 x0, AV.int IntKind.i64 x1, AV.int IntKind.i64 x2])] 0 0) != 0)))
            (.no))
           (.br (mnot (true, [EK.i, EK.i, EK.i]) y0 (AV.agg [AV.int IntKind.i64 x0, AV.int IntKind.i64 x1, AV.int IntKind.i64 x2])) (.at ((0, false))) (.no)))
          (.no)))))))
    (.br (x0 == 13)
     (.bi (br (x1 == x2) (some (x1 != 5)) (some false)) (fun y0 =>
      .at ((5, y0)))
      (.no))
     (.br (x0 == 14)
      (.br (x0 == 14)
       (.bi (br (x1 == x2) (some (x1 == 5)) (some false)) (fun y0 =>
        .at ((5, y0)))
        (.no))
       (.br (x0 == 17)
        (.br (x0 == 17)
         (.bi (br (x1 == x2) (some (x1 != 5)) (some false)) (fun y0 =>
          .at ((x1, y0)))
          (.no))
         (.bi (f_u17q) (fun y0 =>
          .br (mhas (true, [EK.i, EK.i, EK.i]) y0 (AV.agg [AV.int IntKind.i64 x0, AV.int IntKind.i64 x1, AV.int IntKind.i64 x2]))
           (.br (okE false [CS.int IntKind.i64] [mval (true, [EK.i, EK.i, EK.i]) y0 (AV.agg [AV.int IntKind.i64 x0, AV.int IntKind.i64 x1, AV.int IntKind.i64 x2])] 0)
            (.at ((intOf (cellAt [mval (true, [EK.i, EK.i, EK.i]) y0 (AV.agg [AV.int IntKind.i64 x0, AV.int IntKind.i64 x1, AV.int IntKind.i64 x2])] 0 0), intOf (cellAt [mval (true, [EK.i, EK.i, EK.i]) y0 (AV.agg [AV.int IntKind.i64 x0, AV.int IntKind.i64 x1, AV.int IntKind.i64 x2])] 0 0) != 0)))
            (.no))
           (.br (mnot (true, [EK.i, EK.i, EK.i]) y0 (AV.agg [AV.int IntKind.i64 x0, AV.int IntKind.i64 x1, AV.int IntKind.i64 x2])) (.at ((0, false))) (.no)))
          (.no)))
        (.br (x0 == 18)
         (.bi (br (x1 == x2) (some (x1 != 5)) (some false)) (fun y0 =>
          .at ((x1, y0)))
          (.no))
         (.bi (f_u17q) (fun y0 =>
          .br (mhas (true, [EK.i, EK.i, EK.i]) y0 (AV.agg [AV.int IntKind.i64 x0, AV.int IntKind.i64 x1, AV.int IntKind.i64 x2]))
           (.br (okE false [CS.int IntKind.i64] [mval (true, [EK.i, EK.i, EK.i]) y0 (AV.agg [AV.int IntKind.i64 x0, AV.int IntKind.i64 x1, AV.int IntKind.i64 x2])] 0)
            (.at ((intOf (cellAt [mval (true, [EK.i, EK.i, EK.i]) y0 (AV.agg [AV.int IntKind.i64 x0, AV.int IntKind.i64 x1, AV.int IntKind.i64 x2])] 0 0), intOf (cellAt [mval (true, [EK.i, EK.i, EK.i]) y0 (AV.agg [AV.int IntKind.i64 x0, AV.int IntKind.i64 x1, AV.int IntKind.i64 x2])] 0 0) != 0)))
            (.no))
           (.br (mnot (true, [EK.i, EK.i, EK.i]) y0 (AV.agg [AV.int IntKind.i64 x0, AV.int IntKind.i64 x1, AV.int IntKind.i64 x2])) (.at ((0, false))) (.no)))
          (.no)))))
      (.br (x0 == 15)
       (.bi (br (x1 == x2) (some (x1 == 5)) (some false)) (fun y0 =>
        .at ((5, y0)))
        (.no))
       (.br (x0 == 17)
        (.br (x0 == 17)
         (.bi (br (x1 == x2) (some (x1 != 5)) (some false)) (fun y0 =>
          .at ((x1, y0)))
          (.no))
         (.bi (f_u17q) (fun y0 =>
          .br (mhas (true, [EK.i, EK.i, EK.i]) y0 (AV.agg [AV.int IntKind.i64 x0, AV.int IntKind.i64 x1, AV.int IntKind.i64 x2]))
           (.br (okE false [CS.int IntKind.i64] [mval (true, [EK.i, EK.i, EK.i]) y0 (AV.agg [AV.int IntKind.i64 x0, AV.int IntKind.i64 x1, AV.int IntKind.i64 x2])] 0)
            (.at ((intOf (cellAt [mval (true, [EK.i, EK.i, EK.i]) y0 (AV.agg [AV.int IntKind.i64 x0, AV.int IntKind.i64 x1, AV.int IntKind.i64 x2])] 0 0), intOf (cellAt [mval (true, [EK.i, EK.i, EK.i]) y0 (AV.agg [AV.int IntKind.i64 x0, AV.int IntKind.i64 x1, AV.int IntKind.i64 x2])] 0 0) != 0)))
            (.no))
           (.br (mnot (true, [EK.i, EK.i, EK.i]) y0 (AV.agg [AV.int IntKind.i64 x0, AV.int IntKind.i64 x1, AV.int IntKind.i64 x2])) (.at ((0, false))) (.no)))
          (.no)))
        (.br (x0 == 18)
         (.bi (br (x1 == x2) (some (x1 != 5)) (some false)) (fun y0 =>
          .at ((x1, y0)))
          (.no))
         (.bi (f_u17q) (fun y0 =>
          .br (mhas (true, [EK.i, EK.i, EK.i]) y0 (AV.agg [AV.int IntKind.i64 x0, AV.int IntKind.i64 x1, AV.int IntKind.i64 x2]))
           (.br (okE false [CS.int IntKind.i64] [mval (true, [EK.i, EK.i, EK.i]) y0 (AV.agg [AV.int IntKind.i64 x0, AV.int IntKind.i64 x1, AV.int IntKind.i64 x2])] 0)
            (.at ((intOf (cellAt [mval (true, [EK.i, EK.i, EK.i]) y0 (AV.agg [AV.int IntKind.i64 x0, AV.int IntKind.i64 x1, AV.int IntKind.i64 x2])] 0 0), intOf (cellAt [mval (true, [EK.i, EK.i, EK.i]) y0 (AV.agg [AV.int IntKind.i64 x0, AV.int IntKind.i64 x1, AV.int IntKind.i64 x2])] 0 0) != 0)))
            (.no))
           (.br (mnot (true, [EK.i, EK.i, EK.i]) y0 (AV.agg [AV.int IntKind.i64 x0, AV.int IntKind.i64 x1, AV.int IntKind.i64 x2])) (.at ((0, false))) (.no)))
          (.no)))))))))
noncomputable def f_u79q (x0 : Int) (x1 : Int) (x2 : Int) : Option B_u79q := lock (tr_u79q x0 x1 x2).ev
theorem f_u79q_eq (x0 : Int) (x1 : Int) (x2 : Int) : f_u79q x0 x1 x2 = (tr_u79q x0 x1 x2).ev := lock_eq _
theorem c_u79q : FH IP 16 p_u79q r_u79q (fun (v : Int × Int × Int) => (f_u79q v.1 v.2.1 v.2.2 : Option B_u79q)) := fun_FH (F := F16) (L := []) (t := fun (v : Int × Int × Int) => tr_u79q v.1 v.2.1 v.2.2) T3_ok (LOk_of (l := []) (by kernel_rfl) trivial) (by kernel_rfl) (fun v => by kernel_rfl) (fun v => f_u79q_eq v.1 v.2.1 v.2.2)
noncomputable def T4 : Tab := (16, FE p_u79q r_u79q (fun (v : Int × Int × Int) => (f_u79q v.1 v.2.1 v.2.2 : Option B_u79q))) :: T3
theorem T4_ok : TabOk IP T4 := ⟨FE_ok c_u79q, T3_ok⟩
abbrev B_u39q : Type := Int × Bool
def p_u39q : PArgs := ⟨[.int .i64, .view 1], []⟩
def r_u39q : List PRes := [⟨false, .tup [.int .i64, .bool], []⟩]
noncomputable def tr_u39q (x0 : Int) (x1 : List AV) : DT B_u39q :=
 .bi (pj 0 (l_u24q (x0, x1, x1, (↑x1.length : Int), 0))) (fun y0 =>
  .at ((0, false)))
  (.bi (pj 1 (l_u24q (x0, x1, x1, (↑x1.length : Int), 0))) (fun y0 =>
   .br ((↑y0.snd.fst.length : Int) == 1)
    (.br (okAt [CS.int IntKind.i64] y0.snd.fst 0)
     (.bi (f_u78q y0.fst (intOf (cellAt y0.snd.fst 0 0))) (fun y1 =>
      .br (!y1.snd) (.at ((0, false))) (.at ((y1.fst, true))))
      (.no))
     (.no))
    (.br ((↑y0.snd.fst.length : Int) == 2)
     (.br (okAt [CS.int IntKind.i64] y0.snd.fst 0)
      (.br (okAt [CS.int IntKind.i64] y0.snd.fst 1)
       (.bi (f_u79q y0.fst (intOf (cellAt y0.snd.fst 0 0)) (intOf (cellAt y0.snd.fst 1 0))) (fun y1 =>
        .br (!y1.snd) (.at ((0, false))) (.at ((y1.fst, true))))
        (.no))
       (.no))
      (.no))
     (.br ((↑y0.snd.fst.length : Int) == 3)
      (.br (okAt [CS.int IntKind.i64] y0.snd.fst 1)
       (.br (y0.fst == 19)
        (.br (okAt [CS.int IntKind.i64] y0.snd.fst 0)
         (.br (intOf (cellAt y0.snd.fst 0 0) == 5)
          (.br (okAt [CS.int IntKind.i64] y0.snd.fst 1)
           (.br (okAt [CS.int IntKind.i64] y0.snd.fst 2)
            (.br (!intOf (cellAt y0.snd.fst 1 0) == intOf (cellAt y0.snd.fst 2 0)) (.at ((0, false))) (.at ((intOf (cellAt y0.snd.fst 1 0), true))))
            (.no))
           (.no))
          (.at ((0, false))))
         (.no))
        (.at ((0, false))))
       (.no))
      (.at ((0, false))))))
   (.no))
noncomputable def f_u39q (x0 : Int) (x1 : List AV) : Option B_u39q := lock (tr_u39q x0 x1).ev
theorem f_u39q_eq (x0 : Int) (x1 : List AV) : f_u39q x0 x1 = (tr_u39q x0 x1).ev := lock_eq _
theorem c_u39q : FH IP 6 p_u39q r_u39q (fun (v : Int × List AV) => (f_u39q v.1 v.2 : Option B_u39q)) := fun_FH (F := F6) (L := [(1000600, ll_u24q)]) (t := fun (v : Int × List AV) => tr_u39q v.1 v.2) T4_ok (LOk_of (l := [loopAt F6 0]) (by kernel_rfl) ⟨sel_one (by kernel_rfl) t_u24q, trivial⟩) (by kernel_rfl) (fun v => by kernel_rfl) (fun v => f_u39q_eq v.1 v.2)
noncomputable def T5 : Tab := (6, FE p_u39q r_u39q (fun (v : Int × List AV) => (f_u39q v.1 v.2 : Option B_u39q))) :: T4
theorem T5_ok : TabOk IP T5 := ⟨FE_ok c_u39q, T4_ok⟩
abbrev B_u71q : Type := Int
def p_u71q : PArgs := ⟨[.agg [.int .i64, .int .i64, .str, .view 4]], []⟩
def r_u71q : List PRes := [⟨false, .int .i64, []⟩]
abbrev GT_u71q : Type := Int → Int → (List UInt8) → (List AV) → Option B_u71q
def GH_u71q (G_u71q : GT_u71q) : Prop := FH IP 24 p_u71q r_u71q (fun (v : Int × Int × List UInt8 × List AV) => (G_u71q v.1 v.2.1 v.2.2.1 v.2.2.2 : Option B_u71q))
noncomputable def TG_u71q (G_u71q : GT_u71q) : Tab := (24, FE p_u71q r_u71q (fun (v : Int × Int × List UInt8 × List AV) => (G_u71q v.1 v.2.1 v.2.2.1 v.2.2.2 : Option B_u71q))) :: T5
theorem TG_u71q_ok (G_u71q : GT_u71q) (hG : GH_u71q G_u71q) : TabOk IP (TG_u71q G_u71q) := ⟨FE_ok (hG), T5_ok⟩
abbrev TT_u45q : Type := Int × List AV × Int × Int
def hs_u45q : List PSt := [⟨[(1002400, .junk), (3, .int .i64), (7, .view 4), (8, .int .i64), (9, .int .i64)], [], 0, 0⟩]
noncomputable def x_u45q_0 (x0 : Int) (x1 : List AV) (x2 : Int) (x3 : Int) : X × St := (X.exit 0, { tm := [(3, AV.int IntKind.i64 x0)], hp := [], nx := 0, k := 0 })
noncomputable def x_u45q : List (TT_u45q → X × St) := [fun w => x_u45q_0 w.1 w.2.1 w.2.2.1 w.2.2.2]
noncomputable def st_u45q_0 (G_u71q : GT_u71q) (x0 : Int) (x1 : List AV) (x2 : Int) (x3 : Int) : DT (Rd TT_u45q) :=
 .br (decide (x3 < x2))
  (.br (okAt [CS.int IntKind.i64, CS.int IntKind.i64, CS.str, CS.slice 4] x1 x3)
   (.bi (G_u71q (intOf (cellAt x1 x3 0)) (intOf (cellAt x1 x3 1)) (strOf (cellAt x1 x3 2)) (viewOf (cellAt x1 x3 3))) (fun y0 =>
    .at (.next ((IntKind.i64.wrap (x0 + y0), x1, x2, IntKind.i64.wrap (x3 + 1)))))
    (.no))
   (.no))
  (.at (.done 0))
noncomputable def st_u45q (G_u71q : GT_u71q) : TT_u45q → DT (Rd TT_u45q) := (fun v => st_u45q_0 G_u71q v.1 v.2.1 v.2.2.1 v.2.2.2)
noncomputable def l_u45q (G_u71q : GT_u71q) (v : TT_u45q) : Option (Nat × TT_u45q) := lock (iterO (fun v => (st_u45q G_u71q v).ev) v)
theorem l_u45q_eq (G_u71q : GT_u71q) (v : TT_u45q) : l_u45q G_u71q v = iterO (fun v => (st_u45q G_u71q v).ev) v := lock_eq _
noncomputable def ll_u45q (G_u71q : GT_u71q) : LEnt := LE (τ := TT_u45q) (hD hs_u45q) (l_u45q G_u71q) x_u45q
theorem t_u45q (G_u71q : GT_u71q) (hG : GH_u71q G_u71q) : Go.Eng.Told IP (loopAt F24 0).1 (loopAt F24 0).2 (ll_u45q G_u71q) := loop_LE (inferInstance : Inhabited TT_u45q) (hs := hs_u45q) (st := st_u45q G_u71q) (L := []) (TG_u71q_ok G_u71q hG) (LOk_of (l := []) (by kernel_rfl) trivial) (l_u45q_eq G_u71q) (fun v => by kernel_rfl) (fun v => by kernel_rfl)
noncomputable def tr_u71q (G_u71q : GT_u71q) (x0 : Int) (x1 : Int) (x2 : List UInt8) (x3 : List AV) : DT B_u71q :=
 .bi (pj 0 (l_u45q G_u71q (1, x3, (↑x3.length : Int), 0))) (fun y0 =>
  .at (y0.fst))
  (.no)
noncomputable def N_u71q : Nat → GT_u71q
  | 0 => fun _ _ _ _ => none
  | n + 1 => fun x0 x1 x2 x3 => (tr_u71q ((N_u71q n)) x0 x1 x2 x3).ev
noncomputable def f_u71q (x0 : Int) (x1 : Int) (x2 : List UInt8) (x3 : List AV) : Option B_u71q := limO fun n => (N_u71q n) x0 x1 x2 x3
theorem N_u71q_ok : ∀ n, GH_u71q ((N_u71q n))
  | 0 => (fun v y h => nomatch h)
  | n + 1 => have hG := N_u71q_ok n
    fun_FH (F := F24) (L := [(1002400, ll_u45q ((N_u71q n)))]) (t := fun (v : Int × Int × List UInt8 × List AV) => tr_u71q ((N_u71q n)) v.1 v.2.1 v.2.2.1 v.2.2.2) (TG_u71q_ok ((N_u71q n)) hG) (LOk_of (l := [loopAt F24 0]) (by kernel_rfl) ⟨sel_one (by kernel_rfl) (t_u45q ((N_u71q n)) hG), trivial⟩) (by kernel_rfl) (fun v => by kernel_rfl) (fun v => rfl)
theorem c_u71q : FH IP 24 p_u71q r_u71q (fun (v : Int × Int × List UInt8 × List AV) => (f_u71q v.1 v.2.1 v.2.2.1 v.2.2.2 : Option B_u71q)) := lim_FH (p := p_u71q) (rs := r_u71q) (s := fun n (v : Int × Int × List UInt8 × List AV) => (N_u71q n) v.1 v.2.1 v.2.2.1 v.2.2.2) fun n => (N_u71q_ok n)
noncomputable def T6 : Tab := (24, FE p_u71q r_u71q (fun (v : Int × Int × List UInt8 × List AV) => (f_u71q v.1 v.2.1 v.2.2.1 v.2.2.2 : Option B_u71q))) :: T5
theorem T6_ok : TabOk IP T6 := ⟨FE_ok c_u71q, T5_ok⟩
abbrev B_u72q : Type := Int
def p_u72q : PArgs := ⟨[.agg [.int .i64, .int .i64, .str, .view 4]], []⟩
def r_u72q : List PRes := [⟨false, .int .i64, []⟩]
abbrev GT_u72q : Type := Int → Int → (List UInt8) → (List AV) → Option B_u72q
def GH_u72q (G_u72q : GT_u72q) : Prop := FH IP 25 p_u72q r_u72q (fun (v : Int × Int × List UInt8 × List AV) => (G_u72q v.1 v.2.1 v.2.2.1 v.2.2.2 : Option B_u72q))
noncomputable def TG_u72q (G_u72q : GT_u72q) : Tab := (25, FE p_u72q r_u72q (fun (v : Int × Int × List UInt8 × List AV) => (G_u72q v.1 v.2.1 v.2.2.1 v.2.2.2 : Option B_u72q))) :: T6
theorem TG_u72q_ok (G_u72q : GT_u72q) (hG : GH_u72q G_u72q) : TabOk IP (TG_u72q G_u72q) := ⟨FE_ok (hG), T6_ok⟩
abbrev TT_u46q : Type := Int × List AV × Int × Int
def hs_u46q : List PSt := [⟨[(1002500, .junk), (3, .int .i64), (7, .view 4), (8, .int .i64), (9, .int .i64)], [], 0, 0⟩]
noncomputable def x_u46q_0 (x0 : Int) (x1 : List AV) (x2 : Int) (x3 : Int) : X × St := (X.exit 0, { tm := [(3, AV.int IntKind.i64 x0)], hp := [], nx := 0, k := 0 })
noncomputable def x_u46q : List (TT_u46q → X × St) := [fun w => x_u46q_0 w.1 w.2.1 w.2.2.1 w.2.2.2]
noncomputable def st_u46q_0 (G_u72q : GT_u72q) (x0 : Int) (x1 : List AV) (x2 : Int) (x3 : Int) : DT (Rd TT_u46q) :=
 .br (decide (x3 < x2))
  (.br (okAt [CS.int IntKind.i64, CS.int IntKind.i64, CS.str, CS.slice 4] x1 x3)
   (.bi (G_u72q (intOf (cellAt x1 x3 0)) (intOf (cellAt x1 x3 1)) (strOf (cellAt x1 x3 2)) (viewOf (cellAt x1 x3 3))) (fun y0 =>
    .at (.next ((if y0 > x0 then y0 else x0, x1, x2, IntKind.i64.wrap (x3 + 1)))))
    (.no))
   (.no))
  (.at (.done 0))
noncomputable def st_u46q (G_u72q : GT_u72q) : TT_u46q → DT (Rd TT_u46q) := (fun v => st_u46q_0 G_u72q v.1 v.2.1 v.2.2.1 v.2.2.2)
noncomputable def l_u46q (G_u72q : GT_u72q) (v : TT_u46q) : Option (Nat × TT_u46q) := lock (iterO (fun v => (st_u46q G_u72q v).ev) v)
theorem l_u46q_eq (G_u72q : GT_u72q) (v : TT_u46q) : l_u46q G_u72q v = iterO (fun v => (st_u46q G_u72q v).ev) v := lock_eq _
noncomputable def ll_u46q (G_u72q : GT_u72q) : LEnt := LE (τ := TT_u46q) (hD hs_u46q) (l_u46q G_u72q) x_u46q
theorem t_u46q (G_u72q : GT_u72q) (hG : GH_u72q G_u72q) : Go.Eng.Told IP (loopAt F25 0).1 (loopAt F25 0).2 (ll_u46q G_u72q) := loop_LE (inferInstance : Inhabited TT_u46q) (hs := hs_u46q) (st := st_u46q G_u72q) (L := []) (TG_u72q_ok G_u72q hG) (LOk_of (l := []) (by kernel_rfl) trivial) (l_u46q_eq G_u72q) (fun v => by kernel_rfl) (fun v => by kernel_rfl)
noncomputable def tr_u72q (G_u72q : GT_u72q) (x0 : Int) (x1 : Int) (x2 : List UInt8) (x3 : List AV) : DT B_u72q :=
 .bi (pj 0 (l_u46q G_u72q (0, x3, (↑x3.length : Int), 0))) (fun y0 =>
  .at (IntKind.i64.wrap (y0.fst + 1)))
  (.no)
noncomputable def N_u72q : Nat → GT_u72q
  | 0 => fun _ _ _ _ => none
  | n + 1 => fun x0 x1 x2 x3 => (tr_u72q ((N_u72q n)) x0 x1 x2 x3).ev
noncomputable def f_u72q (x0 : Int) (x1 : Int) (x2 : List UInt8) (x3 : List AV) : Option B_u72q := limO fun n => (N_u72q n) x0 x1 x2 x3
theorem N_u72q_ok : ∀ n, GH_u72q ((N_u72q n))
  | 0 => (fun v y h => nomatch h)
  | n + 1 => have hG := N_u72q_ok n
    fun_FH (F := F25) (L := [(1002500, ll_u46q ((N_u72q n)))]) (t := fun (v : Int × Int × List UInt8 × List AV) => tr_u72q ((N_u72q n)) v.1 v.2.1 v.2.2.1 v.2.2.2) (TG_u72q_ok ((N_u72q n)) hG) (LOk_of (l := [loopAt F25 0]) (by kernel_rfl) ⟨sel_one (by kernel_rfl) (t_u46q ((N_u72q n)) hG), trivial⟩) (by kernel_rfl) (fun v => by kernel_rfl) (fun v => rfl)
theorem c_u72q : FH IP 25 p_u72q r_u72q (fun (v : Int × Int × List UInt8 × List AV) => (f_u72q v.1 v.2.1 v.2.2.1 v.2.2.2 : Option B_u72q)) := lim_FH (p := p_u72q) (rs := r_u72q) (s := fun n (v : Int × Int × List UInt8 × List AV) => (N_u72q n) v.1 v.2.1 v.2.2.1 v.2.2.2) fun n => (N_u72q_ok n)
noncomputable def T7 : Tab := (25, FE p_u72q r_u72q (fun (v : Int × Int × List UInt8 × List AV) => (f_u72q v.1 v.2.1 v.2.2.1 v.2.2.2 : Option B_u72q))) :: T6
theorem T7_ok : TabOk IP T7 := ⟨FE_ok c_u72q, T6_ok⟩
abbrev B_u33q : Type := Int
def p_u33q : PArgs := ⟨[.int .i64], []⟩
def r_u33q : List PRes := [⟨false, .int .i64, []⟩]
noncomputable def tr_u33q (x0 : Int) : DT B_u33q :=
 .br (x0 == 1)
  (.br (x0 == 1)
   (.at (0))
   (.br (x0 == 9)
    (.br (x0 == 9)
     (.at (1))
     (.br (x0 == 19)
      (.at (3))
      (.bi (br (decide (x0 ≥ 5)) (some (decide (x0 ≤ 18))) (some false)) (fun y0 =>
       .br (y0) (.at (2)) (.at (-1)))
       (.no))))
    (.br (x0 == 16)
     (.at (1))
     (.br (x0 == 19)
      (.at (3))
      (.bi (br (decide (x0 ≥ 5)) (some (decide (x0 ≤ 18))) (some false)) (fun y0 =>
       .br (y0) (.at (2)) (.at (-1)))
       (.no))))))
  (.br (x0 == 2)
   (.br (x0 == 2)
    (.at (0))
    (.br (x0 == 9)
     (.br (x0 == 9)
      (.at (1))
      (.br (x0 == 19)
       (.at (3))
       (.bi (br (decide (x0 ≥ 5)) (some (decide (x0 ≤ 18))) (some false)) (fun y0 =>
        .br (y0) (.at (2)) (.at (-1)))
        (.no))))
     (.br (x0 == 16)
      (.at (1))
      (.br (x0 == 19)
       (.at (3))
       (.bi (br (decide (x0 ≥ 5)) (some (decide (x0 ≤ 18))) (some false)) (fun y0 =>
        .br (y0) (.at (2)) (.at (-1)))
        (.no))))))
   (.br (x0 == 3)
    (.br (x0 == 3)
     (.at (0))
     (.br (x0 == 9)
      (.br (x0 == 9)
       (.at (1))
       (.br (x0 == 19)
        (.at (3))
        (.bi (br (decide (x0 ≥ 5)) (some (decide (x0 ≤ 18))) (some false)) (fun y0 =>
         .br (y0) (.at (2)) (.at (-1)))
         (.no))))
      (.br (x0 == 16)
       (.at (1))
       (.br (x0 == 19)
        (.at (3))
        (.bi (br (decide (x0 ≥ 5)) (some (decide (x0 ≤ 18))) (some false)) (fun y0 =>
         .br (y0) (.at (2)) (.at (-1)))
         (.no))))))
    (.br (x0 == 4)
     (.at (0))
     (.br (x0 == 9)
      (.br (x0 == 9)
       (.at (1))
       (.br (x0 == 19)
        (.at (3))
        (.bi (br (decide (x0 ≥ 5)) (some (decide (x0 ≤ 18))) (some false)) (fun y0 =>
         .br (y0) (.at (2)) (.at (-1)))
         (.no))))
      (.br (x0 == 16)
       (.at (1))
       (.br (x0 == 19)
        (.at (3))
        (.bi (br (decide (x0 ≥ 5)) (some (decide (x0 ≤ 18))) (some false)) (fun y0 =>
         .br (y0) (.at (2)) (.at (-1)))
         (.no))))))))
noncomputable def f_u33q (x0 : Int) : Option B_u33q := lock (tr_u33q x0).ev
theorem f_u33q_eq (x0 : Int) : f_u33q x0 = (tr_u33q x0).ev := lock_eq _
theorem c_u33q : FH IP 33 p_u33q r_u33q (fun (v : Int) => (f_u33q v : Option B_u33q)) := fun_FH (F := F33) (L := []) (t := fun (v : Int) => tr_u33q v) T7_ok (LOk_of (l := []) (by kernel_rfl) trivial) (by kernel_rfl) (fun v => by kernel_rfl) (fun v => f_u33q_eq v)
noncomputable def T8 : Tab := (33, FE p_u33q r_u33q (fun (v : Int) => (f_u33q v : Option B_u33q))) :: T7
theorem T8_ok : TabOk IP T8 := ⟨FE_ok c_u33q, T7_ok⟩
abbrev B_u60q : Type := Bool
def p_u60q : PArgs := ⟨[.agg [.int .i64, .int .i64, .str, .view 4]], []⟩
def r_u60q : List PRes := [⟨false, .bool, []⟩]
noncomputable def tr_u60q (x0 : Int) (x1 : Int) (x2 : List UInt8) (x3 : List AV) : DT B_u60q :=
 .br (x0 == 1)
  (.bi (f_u33q x0) (fun y0 =>
   .br (y0 == (↑x3.length : Int))
    (.br (decide (x1 ≥ 0))
     (.br (decide (x1 ≤ 9223372036854775807))
      (.br (x2 == []) (.at (true)) (.at (x0 == 4)))
      (.at (false)))
     (.at (false)))
    (.at (false)))
   (.no))
  (.br (x0 == 2)
   (.bi (f_u33q x0) (fun y0 =>
    .br (y0 == (↑x3.length : Int))
     (.br (decide (x1 ≥ 0))
      (.br (decide (x1 ≤ 1000000000000))
       (.br (x2 == []) (.at (true)) (.at (x0 == 4)))
       (.at (false)))
      (.at (false)))
     (.at (false)))
    (.no))
   (.br (x0 == 3)
    (.bi (f_u33q x0) (fun y0 =>
     .br (y0 == (↑x3.length : Int))
      (.br (decide (x1 ≥ 0))
       (.br (decide (x1 ≤ 1000000))
        (.br (x2 == []) (.at (true)) (.at (x0 == 4)))
        (.at (false)))
       (.at (false)))
      (.at (false)))
     (.no))
    (.bi (f_u33q x0) (fun y0 =>
     .br (y0 == (↑x3.length : Int))
      (.br (decide (x1 ≥ 0))
       (.br (decide (x1 ≤ 0))
        (.br (x2 == []) (.at (true)) (.at (x0 == 4)))
        (.at (false)))
       (.at (false)))
      (.at (false)))
     (.no))))
noncomputable def f_u60q (x0 : Int) (x1 : Int) (x2 : List UInt8) (x3 : List AV) : Option B_u60q := lock (tr_u60q x0 x1 x2 x3).ev
theorem f_u60q_eq (x0 : Int) (x1 : Int) (x2 : List UInt8) (x3 : List AV) : f_u60q x0 x1 x2 x3 = (tr_u60q x0 x1 x2 x3).ev := lock_eq _
theorem c_u60q : FH IP 27 p_u60q r_u60q (fun (v : Int × Int × List UInt8 × List AV) => (f_u60q v.1 v.2.1 v.2.2.1 v.2.2.2 : Option B_u60q)) := fun_FH (F := F27) (L := []) (t := fun (v : Int × Int × List UInt8 × List AV) => tr_u60q v.1 v.2.1 v.2.2.1 v.2.2.2) T8_ok (LOk_of (l := []) (by kernel_rfl) trivial) (by kernel_rfl) (fun v => by kernel_rfl) (fun v => f_u60q_eq v.1 v.2.1 v.2.2.1 v.2.2.2)
noncomputable def T9 : Tab := (27, FE p_u60q r_u60q (fun (v : Int × Int × List UInt8 × List AV) => (f_u60q v.1 v.2.1 v.2.2.1 v.2.2.2 : Option B_u60q))) :: T8
theorem T9_ok : TabOk IP T9 := ⟨FE_ok c_u60q, T8_ok⟩
abbrev B_u73q : Type := Bool
def p_u73q : PArgs := ⟨[.agg [.int .i64, .int .i64, .str, .view 4], .fn (.func 27) []], []⟩
def r_u73q : List PRes := [⟨false, .bool, []⟩]
abbrev GT_u73q : Type := Int → Int → (List UInt8) → (List AV) → Option B_u73q
abbrev B_u1q : Type := Bool
def p_u1q : PArgs := ⟨[.view 4, .fn (.func 32) [.ptr [.fn (.func 27) []]]], []⟩
def r_u1q : List PRes := [⟨false, .bool, []⟩]
abbrev GT_u1q : Type := (List AV) → Option B_u1q
abbrev B_u5q : Type := Int
def p_u5q : PArgs := ⟨[.view 4, .fn (.func 32) [.ptr [.fn (.func 27) []]]], []⟩
def r_u5q : List PRes := [⟨false, .int .i64, []⟩]
abbrev GT_u5q : Type := (List AV) → Option B_u5q
abbrev B_u47q : Type := Bool
def p_u47q : PArgs := ⟨[.agg [.int .i64, .int .i64, .str, .view 4], .ptr [.fn (.func 27) []]], []⟩
def r_u47q : List PRes := [⟨false, .bool, []⟩]
abbrev GT_u47q : Type := Int → Int → (List UInt8) → (List AV) → Option B_u47q
def GH_u73q (G_u73q : GT_u73q) (G_u1q : GT_u1q) (G_u5q : GT_u5q) (G_u47q : GT_u47q) : Prop := FH IP 26 p_u73q r_u73q (fun (v : Int × Int × List UInt8 × List AV) => (G_u73q v.1 v.2.1 v.2.2.1 v.2.2.2 : Option B_u73q)) ∧ FH IP 31 p_u1q r_u1q (fun (v : List AV) => (G_u1q v : Option B_u1q)) ∧ FH IP 35 p_u5q r_u5q (fun (v : List AV) => (G_u5q v : Option B_u5q)) ∧ FH IP 32 p_u47q r_u47q (fun (v : Int × Int × List UInt8 × List AV) => (G_u47q v.1 v.2.1 v.2.2.1 v.2.2.2 : Option B_u47q))
noncomputable def TG_u73q (G_u73q : GT_u73q) (G_u1q : GT_u1q) (G_u5q : GT_u5q) (G_u47q : GT_u47q) : Tab := (26, FE p_u73q r_u73q (fun (v : Int × Int × List UInt8 × List AV) => (G_u73q v.1 v.2.1 v.2.2.1 v.2.2.2 : Option B_u73q))) :: (31, FE p_u1q r_u1q (fun (v : List AV) => (G_u1q v : Option B_u1q))) :: (35, FE p_u5q r_u5q (fun (v : List AV) => (G_u5q v : Option B_u5q))) :: (32, FE p_u47q r_u47q (fun (v : Int × Int × List UInt8 × List AV) => (G_u47q v.1 v.2.1 v.2.2.1 v.2.2.2 : Option B_u47q))) :: T9
theorem TG_u73q_ok (G_u73q : GT_u73q) (G_u1q : GT_u1q) (G_u5q : GT_u5q) (G_u47q : GT_u47q) (hG : GH_u73q G_u73q G_u1q G_u5q G_u47q) : TabOk IP (TG_u73q G_u73q G_u1q G_u5q G_u47q) := ⟨FE_ok (hG.1), FE_ok (hG.2.1), FE_ok (hG.2.2.1), FE_ok (hG.2.2.2), T9_ok⟩
abbrev TT_u3q : Type := List AV × Int × Int
def hs_u3q : List PSt := [⟨[(1003500, .junk), (0, .view 4), (1, .fn (.func 32) [.ptr [.fn (.func 27) []]]), (7, .int .i64), (8, .int .i64)], [], 0, 0⟩]
noncomputable def x_u3q_0 (x0 : List AV) (x1 : Int) (x2 : Int) : X × St := (X.ret, { tm := [(4, AV.int IntKind.i64 x2)], hp := [], nx := 0, k := 0 })
noncomputable def x_u3q_1 (x0 : List AV) (x1 : Int) (x2 : Int) : X × St := (X.exit 0, { tm := [(4, AV.junk)], hp := [], nx := 0, k := 0 })
noncomputable def x_u3q : List (TT_u3q → X × St) := [fun w => x_u3q_0 w.1 w.2.1 w.2.2, fun w => x_u3q_1 w.1 w.2.1 w.2.2]
noncomputable def st_u3q_0 (G_u73q : GT_u73q) (G_u1q : GT_u1q) (G_u5q : GT_u5q) (G_u47q : GT_u47q) (x0 : List AV) (x1 : Int) (x2 : Int) : DT (Rd TT_u3q) :=
 .br (decide (x2 < x1))
  (.br (okAt [CS.int IntKind.i64, CS.int IntKind.i64, CS.str, CS.slice 4] x0 x2)
   (.bi (G_u47q (intOf (cellAt x0 x2 0)) (intOf (cellAt x0 x2 1)) (strOf (cellAt x0 x2 2)) (viewOf (cellAt x0 x2 3))) (fun y0 =>
    .br (y0) (.at (.done 0)) (.at (.next ((x0, x1, IntKind.i64.wrap (x2 + 1))))))
    (.no))
   (.no))
  (.at (.done 1))
noncomputable def st_u3q (G_u73q : GT_u73q) (G_u1q : GT_u1q) (G_u5q : GT_u5q) (G_u47q : GT_u47q) : TT_u3q → DT (Rd TT_u3q) := (fun v => st_u3q_0 G_u73q G_u1q G_u5q G_u47q v.1 v.2.1 v.2.2)
noncomputable def l_u3q (G_u73q : GT_u73q) (G_u1q : GT_u1q) (G_u5q : GT_u5q) (G_u47q : GT_u47q) (v : TT_u3q) : Option (Nat × TT_u3q) := lock (iterO (fun v => (st_u3q G_u73q G_u1q G_u5q G_u47q v).ev) v)
theorem l_u3q_eq (G_u73q : GT_u73q) (G_u1q : GT_u1q) (G_u5q : GT_u5q) (G_u47q : GT_u47q) (v : TT_u3q) : l_u3q G_u73q G_u1q G_u5q G_u47q v = iterO (fun v => (st_u3q G_u73q G_u1q G_u5q G_u47q v).ev) v := lock_eq _
noncomputable def ll_u3q (G_u73q : GT_u73q) (G_u1q : GT_u1q) (G_u5q : GT_u5q) (G_u47q : GT_u47q) : LEnt := LE (τ := TT_u3q) (hD hs_u3q) (l_u3q G_u73q G_u1q G_u5q G_u47q) x_u3q
theorem t_u3q (G_u73q : GT_u73q) (G_u1q : GT_u1q) (G_u5q : GT_u5q) (G_u47q : GT_u47q) (hG : GH_u73q G_u73q G_u1q G_u5q G_u47q) : Go.Eng.Told IP (loopAt F35 0).1 (loopAt F35 0).2 (ll_u3q G_u73q G_u1q G_u5q G_u47q) := loop_LE (inferInstance : Inhabited TT_u3q) (hs := hs_u3q) (st := st_u3q G_u73q G_u1q G_u5q G_u47q) (L := []) (TG_u73q_ok G_u73q G_u1q G_u5q G_u47q hG) (LOk_of (l := []) (by kernel_rfl) trivial) (l_u3q_eq G_u73q G_u1q G_u5q G_u47q) (fun v => by kernel_rfl) (fun v => by kernel_rfl)
noncomputable def tr_u73q (G_u73q : GT_u73q) (G_u1q : GT_u1q) (G_u5q : GT_u5q) (G_u47q : GT_u47q) (x0 : Int) (x1 : Int) (x2 : List UInt8) (x3 : List AV) : DT B_u73q :=
 .bi (f_u60q x0 x1 x2 x3) (fun y0 =>
  .bi (br y0 (br (sm (G_u1q x3)) (some !gv (G_u1q x3)) none) (some false)) (fun y1 =>
   .at (y1))
   (.no))
  (.no)
noncomputable def tr_u1q (G_u73q : GT_u73q) (G_u1q : GT_u1q) (G_u5q : GT_u5q) (G_u47q : GT_u47q) (x0 : List AV) : DT B_u1q :=
 .bi (G_u5q x0) (fun y0 =>
  .at (decide (y0 ≥ 0)))
  (.no)
noncomputable def tr_u5q (G_u73q : GT_u73q) (G_u1q : GT_u1q) (G_u5q : GT_u5q) (G_u47q : GT_u47q) (x0 : List AV) : DT B_u5q :=
 .bi (pj 0
     (l_u3q G_u73q G_u1q G_u5q G_u47q (x0, (↑x0.length : Int), 0))) (fun y0 =>
  .at (y0.snd.snd))
  (.bi (pj 1
      (l_u3q G_u73q G_u1q G_u5q G_u47q (x0, (↑x0.length : Int), 0))) (fun y0 =>
   .at (-1))
   (.no))
noncomputable def tr_u47q (G_u73q : GT_u73q) (G_u1q : GT_u1q) (G_u5q : GT_u5q) (G_u47q : GT_u47q) (x0 : Int) (x1 : Int) (x2 : List UInt8) (x3 : List AV) : DT B_u47q :=
 .bi (G_u73q x0 x1 x2 x3) (fun y0 =>
  .at (!y0))
  (.no)
end Go.Proofs.H11d

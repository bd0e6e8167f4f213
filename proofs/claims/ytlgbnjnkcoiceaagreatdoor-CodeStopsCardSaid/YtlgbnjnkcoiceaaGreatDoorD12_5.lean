/- Functions over plain data. Printed by a program of mine. -/
import Derived.Test.YtlgbnjnkcoiceaaGreatDoorD12_4
import Derived.KernelRfl
set_option linter.unusedVariables false
set_option linter.unusedSimpArgs false
set_option linter.unnecessarySimpa false
namespace Go.Proofs.H12
open Go Go.Eng
set_option maxRecDepth 100000
noncomputable section
abbrev B_u39q : Type := Int × Int × List AV × List AV × Int × List AV × List AV
def p_u39q : PArgs := ⟨[.ref 0 0 0], [(0, .box [.int .i64, .view 2, .view 3, .nils 2, .int .i64, .nils 1] false)]⟩
def r_u39q : List PRes := [⟨false, .int .i64, [(0, .box [.int .i64, .view 2, .view 3, .own 1 0, .int .i64, .own 2 0] false), (1, .arr 2 false), (2, .arr 1 false)]⟩]
def tr_u39q (x0 : Int) (x1 x2 : List AV) (x3 : Int) : DT B_u39q :=
 .br (decide (0 ≤ IntKind.i64.wrap ((↑x2.length : Int) + 1)) && decide (IntKind.i64.wrap ((↑x2.length : Int) + 1) ≤ IntKind.i64.wrap ((↑x2.length : Int) + 1)) &&
       room (IntKind.i64.wrap ((↑x2.length : Int) + 1)).toNat 32 &&
     decide (IntKind.i64.wrap ((↑x2.length : Int) + 1) ≤ 4611686018427387904))
  (.br (decide (0 ≤ IntKind.i64.wrap ((↑x2.length : Int) + 1)) && decide (IntKind.i64.wrap ((↑x2.length : Int) + 1) ≤ IntKind.i64.wrap ((↑x2.length : Int) + 1)) &&
        room (IntKind.i64.wrap ((↑x2.length : Int) + 1)).toNat 1 &&
      decide (IntKind.i64.wrap ((↑x2.length : Int) + 1) ≤ 4611686018427387904))
   (.bi (f_u37q 0 [] x0 x1 x2 x3 (List.replicate (IntKind.i64.wrap ((↑x2.length : Int) + 1)).toNat (AV.agg [AV.bool false, AV.view 1 []]))
       (List.replicate (IntKind.i64.wrap ((↑x2.length : Int) + 1)).toNat (AV.bool false))) (fun y0 =>
    .bi (pj 0 (l_u29q ((↑x2.length : Int), (↑x2.length : Int), 0, y0.1, y0.2.1, y0.2.2.1, y0.2.2.2.1, y0.2.2.2.2.1, y0.2.2.2.2.2))) (fun y1 =>
     .at ((9, y1.2.2.2.1, y1.2.2.2.2.1, y1.2.2.2.2.2.1, y1.2.2.2.2.2.2.1, y1.2.2.2.2.2.2.2.1, y1.2.2.2.2.2.2.2.2)))
     (.bi (pj 1 (l_u29q ((↑x2.length : Int), (↑x2.length : Int), 0, y0.1, y0.2.1, y0.2.2.1, y0.2.2.2.1, y0.2.2.2.2.1, y0.2.2.2.2.2))) (fun y1 =>
      .at ((9, (gv
            (f_u38q y1.2.2.1 y1.2.2.2.1 y1.2.2.2.2.1 y1.2.2.2.2.2.1 y1.2.2.2.2.2.2.1
              y1.2.2.2.2.2.2.2.1 y1.2.2.2.2.2.2.2.2)).2.2.2.2.1, (gv
              (f_u38q y1.2.2.1 y1.2.2.2.1 y1.2.2.2.2.1 y1.2.2.2.2.2.1 y1.2.2.2.2.2.2.1
                y1.2.2.2.2.2.2.2.1 y1.2.2.2.2.2.2.2.2)).2.2.2.2.2.1, (gv
                (f_u38q y1.2.2.1 y1.2.2.2.1 y1.2.2.2.2.1 y1.2.2.2.2.2.1 y1.2.2.2.2.2.2.1
                  y1.2.2.2.2.2.2.2.1 y1.2.2.2.2.2.2.2.2)).2.2.2.2.2.2.1, (gv
                  (f_u38q y1.2.2.1 y1.2.2.2.1 y1.2.2.2.2.1 y1.2.2.2.2.2.1 y1.2.2.2.2.2.2.1
                    y1.2.2.2.2.2.2.2.1 y1.2.2.2.2.2.2.2.2)).2.2.2.2.2.2.2.1, (gv
                    (f_u38q y1.2.2.1 y1.2.2.2.1 y1.2.2.2.2.1 y1.2.2.2.2.2.1 y1.2.2.2.2.2.2.1
                      y1.2.2.2.2.2.2.2.1 y1.2.2.2.2.2.2.2.2)).2.2.2.2.2.2.2.2.1, (gv
                    (f_u38q y1.2.2.1 y1.2.2.2.1 y1.2.2.2.2.1 y1.2.2.2.2.2.1 y1.2.2.2.2.2.2.1
                      y1.2.2.2.2.2.2.2.1 y1.2.2.2.2.2.2.2.2)).2.2.2.2.2.2.2.2.2)))
      (.bi (pj 2 (l_u29q ((↑x2.length : Int), (↑x2.length : Int), 0, y0.1, y0.2.1, y0.2.2.1, y0.2.2.2.1, y0.2.2.2.2.1, y0.2.2.2.2.2))) (fun y1 =>
       .at ((5, (gv
            (f_u38q y1.2.2.1 y1.2.2.2.1 y1.2.2.2.2.1 y1.2.2.2.2.2.1 y1.2.2.2.2.2.2.1
              y1.2.2.2.2.2.2.2.1 y1.2.2.2.2.2.2.2.2)).2.2.2.2.1, (gv
              (f_u38q y1.2.2.1 y1.2.2.2.1 y1.2.2.2.2.1 y1.2.2.2.2.2.1 y1.2.2.2.2.2.2.1
                y1.2.2.2.2.2.2.2.1 y1.2.2.2.2.2.2.2.2)).2.2.2.2.2.1, (gv
                (f_u38q y1.2.2.1 y1.2.2.2.1 y1.2.2.2.2.1 y1.2.2.2.2.2.1 y1.2.2.2.2.2.2.1
                  y1.2.2.2.2.2.2.2.1 y1.2.2.2.2.2.2.2.2)).2.2.2.2.2.2.1, (gv
                  (f_u38q y1.2.2.1 y1.2.2.2.1 y1.2.2.2.2.1 y1.2.2.2.2.2.1 y1.2.2.2.2.2.2.1
                    y1.2.2.2.2.2.2.2.1 y1.2.2.2.2.2.2.2.2)).2.2.2.2.2.2.2.1, (gv
                    (f_u38q y1.2.2.1 y1.2.2.2.1 y1.2.2.2.2.1 y1.2.2.2.2.2.1 y1.2.2.2.2.2.2.1
                      y1.2.2.2.2.2.2.2.1 y1.2.2.2.2.2.2.2.2)).2.2.2.2.2.2.2.2.1, (gv
                    (f_u38q y1.2.2.1 y1.2.2.2.1 y1.2.2.2.2.1 y1.2.2.2.2.2.1 y1.2.2.2.2.2.2.1
                      y1.2.2.2.2.2.2.2.1 y1.2.2.2.2.2.2.2.2)).2.2.2.2.2.2.2.2.2)))
       (.bi (pj 3 (l_u29q ((↑x2.length : Int), (↑x2.length : Int), 0, y0.1, y0.2.1, y0.2.2.1, y0.2.2.2.1, y0.2.2.2.2.1, y0.2.2.2.2.2))) (fun y1 =>
        .br (inB y1.2.2.2.2.2.2.2.1.length y1.1)
         (.br (okP [CS.bool] y1.2.2.2.2.2.2.2.1 y1.1.toNat 0)
          (.br (!boolOf (cellN y1.2.2.2.2.2.2.2.1 y1.1.toNat 0))
           (.at ((9, y1.2.2.2.1, y1.2.2.2.2.1, y1.2.2.2.2.2.1, y1.2.2.2.2.2.2.1, y1.2.2.2.2.2.2.2.1, y1.2.2.2.2.2.2.2.2)))
           (.br (inB y1.2.2.2.2.2.2.2.2.length y1.1)
            (.br (okP [CS.bool] y1.2.2.2.2.2.2.2.2 y1.1.toNat 0)
             (.br (boolOf (cellN y1.2.2.2.2.2.2.2.2 y1.1.toNat 0))
              (.at ((9, y1.2.2.2.1, y1.2.2.2.2.1, y1.2.2.2.2.2.1, y1.2.2.2.2.2.2.1, y1.2.2.2.2.2.2.2.1, y1.2.2.2.2.2.2.2.2)))
              (.br (inB y1.2.2.2.2.2.2.2.1.length y1.1)
               (.br (okP [CS.slice 1] y1.2.2.2.2.2.2.2.1 y1.1.toNat 1)
                (.br ((↑(viewOf (cellN y1.2.2.2.2.2.2.2.1 y1.1.toNat 1)).length : Int) != 1)
                 (.at ((9, y1.2.2.2.1, y1.2.2.2.2.1, y1.2.2.2.2.2.1, y1.2.2.2.2.2.2.1, y1.2.2.2.2.2.2.2.1, y1.2.2.2.2.2.2.2.2)))
                 (.br (inB y1.2.2.2.2.2.2.2.1.length y1.1)
                  (.br (okP [CS.slice 1] y1.2.2.2.2.2.2.2.1 y1.1.toNat 1)
                   (.br (okAt [CS.int IntKind.i64] (viewOf (cellN y1.2.2.2.2.2.2.2.1 y1.1.toNat 1)) 0)
                    (.br (intOf (cellAt (viewOf (cellN y1.2.2.2.2.2.2.2.1 y1.1.toNat 1)) 0 0) != y1.2.2.2.1)
                     (.at ((9, y1.2.2.2.1, y1.2.2.2.2.1, y1.2.2.2.2.2.1, y1.2.2.2.2.2.2.1, y1.2.2.2.2.2.2.2.1, y1.2.2.2.2.2.2.2.2)))
                     (.at ((0, y1.2.2.2.1, y1.2.2.2.2.1, y1.2.2.2.2.2.1, y1.2.2.2.2.2.2.1, y1.2.2.2.2.2.2.2.1, y1.2.2.2.2.2.2.2.2))))
                    (.no))
                   (.no))
                  (.no)))
                (.no))
               (.no)))
             (.no))
            (.no)))
          (.no))
         (.no))
        (.no)))))
    (.no))
   (.no))
  (.no)
def f_u39q (x0 : Int) (x1 x2 : List AV) (x3 : Int) : Option B_u39q := lock (tr_u39q x0 x1 x2 x3).ev
theorem f_u39q_eq (x0 : Int) (x1 x2 : List AV) (x3 : Int) : f_u39q x0 x1 x2 x3 = (tr_u39q x0 x1 x2 x3).ev := lock_eq _
theorem c_u39q : FH IP 52 p_u39q r_u39q (k4 f_u39q) := fun_FH (F := F52) (L := [(1005200, ll_u29q)]) (t := (k4 tr_u39q)) T68_ok (LOk_of (l := [loopAt F52 0]) (by kernel_rfl) ⟨sel_one (by kernel_rfl) t_u29q, trivial⟩) (by kernel_rfl) (fun v => by kernel_rfl) (fun _ => lock_eq _)
def T69 : Tab := (52, FE p_u39q r_u39q (k4 f_u39q)) :: T68
theorem T69_ok : TabOk IP T69 := ⟨FE_ok c_u39q, T68_ok⟩
abbrev B_u82q : Type := Int × Int
def p_u82q : PArgs := ⟨[.agg [.int .i64, .view 2, .view 3]], []⟩
def r_u82q : List PRes := [⟨false, .tup [.int .i64, .int .i64], []⟩]
def tr_u82q (x0 : Int) (x1 x2 : List AV) : DT B_u82q :=
 .br (decide ((↑x2.length : Int) > 128))
  (.at ((0, 5)))
  (.bi (f_u113q x1) (fun y0 =>
   .br (y0 != 0)
    (.at ((0, y0)))
    (.bi (f_u39q x0 x1 x2 0) (fun y1 =>
     .br (y1.1 != 0) (.at ((0, y1.1))) (.at ((y1.2.2.2.2.1, 0))))
     (.no)))
   (.no))
def f_u82q (x0 : Int) (x1 x2 : List AV) : Option B_u82q := lock (tr_u82q x0 x1 x2).ev
theorem f_u82q_eq (x0 : Int) (x1 x2 : List AV) : f_u82q x0 x1 x2 = (tr_u82q x0 x1 x2).ev := lock_eq _
theorem c_u82q : FH IP 34 p_u82q r_u82q (k3 f_u82q) := fun_FH (F := F34) (L := []) (t := (k3 tr_u82q)) T69_ok (LOk_of (l := []) (by kernel_rfl) trivial) (by kernel_rfl) (fun v => by kernel_rfl) (fun _ => lock_eq _)
def T70 : Tab := (34, FE p_u82q r_u82q (k3 f_u82q)) :: T69
theorem T70_ok : TabOk IP T70 := ⟨FE_ok c_u82q, T69_ok⟩
abbrev B_u57q : Type := Int
def p_u57q : PArgs := ⟨[.agg [.int .i64, .view 2, .view 3]], []⟩
def r_u57q : List PRes := [⟨false, .int .i64, []⟩]
def tr_u57q (x0 : Int) (x1 x2 : List AV) : DT B_u57q :=
 .bi (f_u82q x0 x1 x2) (fun y0 =>
  .at (y0.2))
  (.no)
def f_u57q (x0 : Int) (x1 x2 : List AV) : Option B_u57q := lock (tr_u57q x0 x1 x2).ev
theorem f_u57q_eq (x0 : Int) (x1 x2 : List AV) : f_u57q x0 x1 x2 = (tr_u57q x0 x1 x2).ev := lock_eq _
theorem c_u57q : FH IP 16 p_u57q r_u57q (k3 f_u57q) := fun_FH (F := F16) (L := []) (t := (k3 tr_u57q)) T70_ok (LOk_of (l := []) (by kernel_rfl) trivial) (by kernel_rfl) (fun v => by kernel_rfl) (fun _ => lock_eq _)
def T71 : Tab := (16, FE p_u57q r_u57q (k3 f_u57q)) :: T70
theorem T71_ok : TabOk IP T71 := ⟨FE_ok c_u57q, T70_ok⟩
abbrev B_u129q : Type := Int
def p_u129q : PArgs := ⟨[.agg [.int .i64, .view 2, .view 3]], []⟩
def r_u129q : List PRes := [⟨false, .int .i64, []⟩]
def tr_u129q (x0 : Int) (x1 x2 : List AV) : DT B_u129q :=
 .bi (f_u82q x0 x1 x2) (fun y0 =>
  .at (y0.1))
  (.no)
def f_u129q (x0 : Int) (x1 x2 : List AV) : Option B_u129q := lock (tr_u129q x0 x1 x2).ev
theorem f_u129q_eq (x0 : Int) (x1 x2 : List AV) : f_u129q x0 x1 x2 = (tr_u129q x0 x1 x2).ev := lock_eq _
theorem c_u129q : FH IP 18 p_u129q r_u129q (k3 f_u129q) := fun_FH (F := F18) (L := []) (t := (k3 tr_u129q)) T71_ok (LOk_of (l := []) (by kernel_rfl) trivial) (by kernel_rfl) (fun v => by kernel_rfl) (fun _ => lock_eq _)
def T72 : Tab := (18, FE p_u129q r_u129q (k3 f_u129q)) :: T71
theorem T72_ok : TabOk IP T72 := ⟨FE_ok c_u129q, T71_ok⟩
abbrev TT_u13q : Type := List AV × List AV × Int × Int
def hs_u13q : List PSt := [⟨[(1003800, .junk), (0, .view 2), (1, .view 2), (12, .int .i64), (13, .int .i64)], [], 0, 0⟩]
def x_u13q_0 (x0 x1 : List AV) (x2 x3 : Int) : X × St := (X.ret, { tm := [(4, AV.bool false)], hp := [], nx := 0, k := 0 })
def x_u13q_1 (x0 x1 : List AV) (x2 x3 : Int) : X × St := (X.exit 0, { tm := [(4, AV.junk)], hp := [], nx := 0, k := 0 })
def x_u13q : List (TT_u13q → X × St) := [(k4 x_u13q_0), (k4 x_u13q_1)]
def st_u13q_0 (x0 x1 : List AV) (x2 x3 : Int) : DT (Rd TT_u13q) :=
 .br (decide (x3 < x2))
  (.br (okAt [CS.str, CS.int IntKind.i64] x0 x3)
   (.br (okAt [CS.str, CS.int IntKind.i64] x1 x3)
    (.br (if true = true then !(strOf (cellAt x0 x3 0) == strOf (cellAt x1 x3 0) && (intOf (cellAt x0 x3 1) == intOf (cellAt x1 x3 1) && true))
      else strOf (cellAt x0 x3 0) == strOf (cellAt x1 x3 0) && (intOf (cellAt x0 x3 1) == intOf (cellAt x1 x3 1) && true))
     (.at (.done 0))
     (.at (.next ((x0, x1, x2, IntKind.i64.wrap (x3 + 1))))))
    (.no))
   (.no))
  (.at (.done 1))
def st_u13q : TT_u13q → DT (Rd TT_u13q) := (fun v => st_u13q_0 v.1 v.2.1 v.2.2.1 v.2.2.2)
def l_u13q (v : TT_u13q) : Option (Nat × TT_u13q) := lock (iterO (fun v => (st_u13q v).ev) v)
theorem l_u13q_eq (v : TT_u13q) : l_u13q v = iterO (fun v => (st_u13q v).ev) v := lock_eq _
def ll_u13q : LEnt := LE (τ := TT_u13q) (hD hs_u13q) (l_u13q) x_u13q
theorem t_u13q : Go.Eng.Told IP (loopAt F38 0).1 (loopAt F38 0).2 (ll_u13q) := loop_LE (inferInstance : Inhabited TT_u13q) (hs := hs_u13q) (st := st_u13q) (L := []) T72_ok (LOk_of (l := []) (by kernel_rfl) trivial) (l_u13q_eq) (fun v => by kernel_rfl) (fun v => by kernel_rfl)
abbrev B_u15q : Type := Bool
def p_u15q : PArgs := ⟨[.view 2, .view 2], []⟩
def r_u15q : List PRes := [⟨false, .bool, []⟩]
def tr_u15q (x0 x1 : List AV) : DT B_u15q :=
 .br ((↑x0.length : Int) != (↑x1.length : Int))
  (.at (false))
  (.bi (pj 0 (l_u13q (x0, x1, (↑x0.length : Int), 0))) (fun y0 =>
   .at (false))
   (.bi (pj 1 (l_u13q (x0, x1, (↑x0.length : Int), 0))) (fun y0 =>
    .at (true))
    (.no)))
def f_u15q (x0 x1 : List AV) : Option B_u15q := lock (tr_u15q x0 x1).ev
theorem f_u15q_eq (x0 x1 : List AV) : f_u15q x0 x1 = (tr_u15q x0 x1).ev := lock_eq _
theorem c_u15q : FH IP 38 p_u15q r_u15q (k2 f_u15q) := fun_FH (F := F38) (L := [(1003800, ll_u13q)]) (t := (k2 tr_u15q)) T72_ok (LOk_of (l := [loopAt F38 0]) (by kernel_rfl) ⟨sel_one (by kernel_rfl) t_u13q, trivial⟩) (by kernel_rfl) (fun v => by kernel_rfl) (fun _ => lock_eq _)
def T73 : Tab := (38, FE p_u15q r_u15q (k2 f_u15q)) :: T72
theorem T73_ok : TabOk IP T73 := ⟨FE_ok c_u15q, T72_ok⟩
abbrev TT_u5q : Type := List AV × List AV × Int × Int
def hs_u5q : List PSt := [⟨[(1003900, .junk), (0, .view 3), (1, .view 3), (12, .int .i64), (13, .int .i64)], [], 0, 0⟩]
def x_u5q_0 (x0 x1 : List AV) (x2 x3 : Int) : X × St := (X.ret, { tm := [(4, AV.bool false)], hp := [], nx := 0, k := 0 })
def x_u5q_1 (x0 x1 : List AV) (x2 x3 : Int) : X × St := (X.exit 0, { tm := [(4, AV.junk)], hp := [], nx := 0, k := 0 })
def x_u5q : List (TT_u5q → X × St) := [(k4 x_u5q_0), (k4 x_u5q_1)]
def st_u5q_0 (x0 x1 : List AV) (x2 x3 : Int) : DT (Rd TT_u5q) :=
 .br (decide (x3 < x2))
  (.br (okAt [CS.int IntKind.i64, CS.int IntKind.i64, CS.int IntKind.i64] x0 x3)
   (.br (okAt [CS.int IntKind.i64, CS.int IntKind.i64, CS.int IntKind.i64] x1 x3)
    (.br (if true = true then
        !(intOf (cellAt x0 x3 0) == intOf (cellAt x1 x3 0) && (intOf (cellAt x0 x3 1) == intOf (cellAt x1 x3 1) && (intOf (cellAt x0 x3 2) == intOf (cellAt x1 x3 2) && true)))
      else intOf (cellAt x0 x3 0) == intOf (cellAt x1 x3 0) && (intOf (cellAt x0 x3 1) == intOf (cellAt x1 x3 1) && (intOf (cellAt x0 x3 2) == intOf (cellAt x1 x3 2) && true)))
     (.at (.done 0))
     (.at (.next ((x0, x1, x2, IntKind.i64.wrap (x3 + 1))))))
    (.no))
   (.no))
  (.at (.done 1))
def st_u5q : TT_u5q → DT (Rd TT_u5q) := (fun v => st_u5q_0 v.1 v.2.1 v.2.2.1 v.2.2.2)
def l_u5q (v : TT_u5q) : Option (Nat × TT_u5q) := lock (iterO (fun v => (st_u5q v).ev) v)
theorem l_u5q_eq (v : TT_u5q) : l_u5q v = iterO (fun v => (st_u5q v).ev) v := lock_eq _
def ll_u5q : LEnt := LE (τ := TT_u5q) (hD hs_u5q) (l_u5q) x_u5q
theorem t_u5q : Go.Eng.Told IP (loopAt F39 0).1 (loopAt F39 0).2 (ll_u5q) := loop_LE (inferInstance : Inhabited TT_u5q) (hs := hs_u5q) (st := st_u5q) (L := []) T73_ok (LOk_of (l := []) (by kernel_rfl) trivial) (l_u5q_eq) (fun v => by kernel_rfl) (fun v => by kernel_rfl)
abbrev B_u8q : Type := Bool
def p_u8q : PArgs := ⟨[.view 3, .view 3], []⟩
def r_u8q : List PRes := [⟨false, .bool, []⟩]
def tr_u8q (x0 x1 : List AV) : DT B_u8q :=
 .br ((↑x0.length : Int) != (↑x1.length : Int))
  (.at (false))
  (.bi (pj 0 (l_u5q (x0, x1, (↑x0.length : Int), 0))) (fun y0 =>
   .at (false))
   (.bi (pj 1 (l_u5q (x0, x1, (↑x0.length : Int), 0))) (fun y0 =>
    .at (true))
    (.no)))
def f_u8q (x0 x1 : List AV) : Option B_u8q := lock (tr_u8q x0 x1).ev
theorem f_u8q_eq (x0 x1 : List AV) : f_u8q x0 x1 = (tr_u8q x0 x1).ev := lock_eq _
theorem c_u8q : FH IP 39 p_u8q r_u8q (k2 f_u8q) := fun_FH (F := F39) (L := [(1003900, ll_u5q)]) (t := (k2 tr_u8q)) T73_ok (LOk_of (l := [loopAt F39 0]) (by kernel_rfl) ⟨sel_one (by kernel_rfl) t_u5q, trivial⟩) (by kernel_rfl) (fun v => by kernel_rfl) (fun _ => lock_eq _)
def T74 : Tab := (39, FE p_u8q r_u8q (k2 f_u8q)) :: T73
theorem T74_ok : TabOk IP T74 := ⟨FE_ok c_u8q, T73_ok⟩
abbrev B_u156q : Type := Bool
def p_u156q : PArgs := ⟨[.agg [.int .i64, .view 2, .view 3], .agg [.int .i64, .view 2, .view 3]], []⟩
def r_u156q : List PRes := [⟨false, .bool, []⟩]
def tr_u156q (x0 : Int) (x1 x2 : List AV) (x3 : Int) (x4 x5 : List AV) : DT B_u156q :=
 .bi (br (x0 == x3) (br (sm (f_u15q x1 x4)) (some (gv (f_u15q x1 x4))) none) (some false)) (fun y0 =>
  .bi (br y0 (br (sm (f_u8q x2 x5)) (some (gv (f_u8q x2 x5))) none) (some false)) (fun y1 =>
   .at (y1))
   (.no))
  (.no)
def f_u156q (x0 : Int) (x1 x2 : List AV) (x3 : Int) (x4 x5 : List AV) : Option B_u156q := lock (tr_u156q x0 x1 x2 x3 x4 x5).ev
theorem f_u156q_eq (x0 : Int) (x1 x2 : List AV) (x3 : Int) (x4 x5 : List AV) : f_u156q x0 x1 x2 x3 x4 x5 = (tr_u156q x0 x1 x2 x3 x4 x5).ev := lock_eq _
theorem c_u156q : FH IP 22 p_u156q r_u156q (k6 f_u156q) := fun_FH (F := F22) (L := []) (t := (k6 tr_u156q)) T74_ok (LOk_of (l := []) (by kernel_rfl) trivial) (by kernel_rfl) (fun v => by kernel_rfl) (fun _ => lock_eq _)
def T75 : Tab := (22, FE p_u156q r_u156q (k6 f_u156q)) :: T74
theorem T75_ok : TabOk IP T75 := ⟨FE_ok c_u156q, T74_ok⟩
abbrev B_u59q : Type := List UInt8
def p_u59q : PArgs := ⟨[.int .i64], []⟩
def r_u59q : List PRes := [⟨false, .str, []⟩]
def tr_u59q (x0 : Int) : DT B_u59q :=
 .br (decide (IntKind.i64.wrap (x0 - 5) = Int.ofNat 0))
  (.at ([97, 100, 100]))
  (.br (decide (IntKind.i64.wrap (x0 - 5) = Int.ofNat 1))
   (.at ([115, 117, 98]))
   (.br (decide (IntKind.i64.wrap (x0 - 5) = Int.ofNat 2))
    (.at ([109, 117, 108]))
    (.br (decide (IntKind.i64.wrap (x0 - 5) = Int.ofNat 3))
     (.at ([100, 105, 118]))
     (.br (decide (IntKind.i64.wrap (x0 - 5) = Int.ofNat 4))
      (.at ([110, 101, 103]))
      (.br (decide (IntKind.i64.wrap (x0 - 5) = Int.ofNat 5))
       (.at ([101, 113]))
       (.br (decide (IntKind.i64.wrap (x0 - 5) = Int.ofNat 6))
        (.at ([110, 101]))
        (.br (decide (IntKind.i64.wrap (x0 - 5) = Int.ofNat 7))
         (.at ([108, 116]))
         (.br (decide (IntKind.i64.wrap (x0 - 5) = Int.ofNat 8))
          (.at ([108, 101]))
          (.br (decide (IntKind.i64.wrap (x0 - 5) = Int.ofNat 9))
           (.at ([97, 110, 100]))
           (.br (decide (IntKind.i64.wrap (x0 - 5) = Int.ofNat 10))
            (.at ([111, 114]))
            (.br (decide (IntKind.i64.wrap (x0 - 5) = Int.ofNat 11))
             (.at ([110, 111, 116]))
             (.br (decide (IntKind.i64.wrap (x0 - 5) = Int.ofNat 12))
              (.at ([109, 105, 110]))
              (.br (decide (IntKind.i64.wrap (x0 - 5) = Int.ofNat 13)) (.at ([109, 97, 120])) (.no))))))))))))))
def f_u59q (x0 : Int) : Option B_u59q := lock (tr_u59q x0).ev
theorem f_u59q_eq (x0 : Int) : f_u59q x0 = (tr_u59q x0).ev := lock_eq _
theorem c_u59q : FH IP 57 p_u59q r_u59q f_u59q := fun_FH (F := F57) (L := []) (t := tr_u59q) T75_ok (LOk_of (l := []) (by kernel_rfl) trivial) (by kernel_rfl) (fun v => by kernel_rfl) (fun _ => lock_eq _)
def T76 : Tab := (57, FE p_u59q r_u59q f_u59q) :: T75
theorem T76_ok : TabOk IP T76 := ⟨FE_ok c_u59q, T75_ok⟩
abbrev B_u157q : Type := List UInt8
def p_u157q : PArgs := ⟨[.agg [.int .i64, .view 2, .view 3], .agg [.int .i64, .int .i64, .int .i64]], []⟩
def r_u157q : List PRes := [⟨false, .str, []⟩]
def tr_u157q (x0 : Int) (x1 x2 : List AV) (x3 x4 x5 : Int) : DT B_u157q :=
 .br (x3 == 1)
  (.br (decide (IntKind.i64.wrap (x4 - 1) = Int.ofNat 0))
   (.br (decide (-9223372036854775808 ≤ x5) && decide (x5 ≤ 9223372036854775807))
    (.br (decide (12 + (Lib.itoa x5).length ≤ 4611686018427387904)) (.at ([112, 117, 115, 104, 32] ++ [110, 117, 109, 98, 101, 114] ++ [32] ++ Lib.itoa x5)) (.no))
    (.no))
   (.br (decide (IntKind.i64.wrap (x4 - 1) = Int.ofNat 1))
    (.br (decide (-9223372036854775808 ≤ x5) && decide (x5 ≤ 9223372036854775807))
     (.br (decide (12 + (Lib.itoa x5).length ≤ 4611686018427387904)) (.at ([112, 117, 115, 104, 32] ++ [97, 109, 111, 117, 110, 116] ++ [32] ++ Lib.itoa x5)) (.no))
     (.no))
    (.br (decide (IntKind.i64.wrap (x4 - 1) = Int.ofNat 2))
     (.br (decide (-9223372036854775808 ≤ x5) && decide (x5 ≤ 9223372036854775807))
      (.br (decide (10 + (Lib.itoa x5).length ≤ 4611686018427387904)) (.at ([112, 117, 115, 104, 32] ++ [114, 97, 116, 101] ++ [32] ++ Lib.itoa x5)) (.no))
      (.no))
     (.no))))
  (.br (x3 == 2)
   (.br (okAt [CS.str, CS.int IntKind.i64] x1 x4)
    (.br (decide (5 + (strOf (cellAt x1 x4 0)).length ≤ 4611686018427387904)) (.at ([108, 111, 97, 100, 32] ++ strOf (cellAt x1 x4 0))) (.no))
    (.no))
   (.br (x3 == 4)
    (.br (decide (-9223372036854775808 ≤ x4) && decide (x4 ≤ 9223372036854775807))
     (.br (decide (5 + (Lib.itoa x4).length ≤ 4611686018427387904)) (.at ([106, 117, 109, 112, 32] ++ Lib.itoa x4)) (.no))
     (.no))
    (.br (x3 == 5)
     (.br (decide (-9223372036854775808 ≤ x4) && decide (x4 ≤ 9223372036854775807))
      (.br (decide (6 + (Lib.itoa x4).length ≤ 4611686018427387904)) (.at ([102, 97, 108, 115, 101, 32] ++ Lib.itoa x4)) (.no))
      (.no))
     (.bi (f_u59q x4) (fun y0 =>
      .at (y0))
      (.no)))))
def f_u157q (x0 : Int) (x1 x2 : List AV) (x3 x4 x5 : Int) : Option B_u157q := lock (tr_u157q x0 x1 x2 x3 x4 x5).ev
theorem f_u157q_eq (x0 : Int) (x1 x2 : List AV) (x3 x4 x5 : Int) : f_u157q x0 x1 x2 x3 x4 x5 = (tr_u157q x0 x1 x2 x3 x4 x5).ev := lock_eq _
theorem c_u157q : FH IP 36 p_u157q r_u157q (k6 f_u157q) := fun_FH (F := F36) (L := []) (t := (k6 tr_u157q)) T76_ok (LOk_of (l := []) (by kernel_rfl) trivial) (by kernel_rfl) (fun v => by kernel_rfl) (fun _ => lock_eq _)
def T77 : Tab := (36, FE p_u157q r_u157q (k6 f_u157q)) :: T76
theorem T77_ok : TabOk IP T77 := ⟨FE_ok c_u157q, T76_ok⟩
abbrev TT_u81q : Type := List UInt8 × List AV × Int × Int × Int × List AV × List AV
def hs_u81q : List PSt := [⟨[(1002000, .junk), (1, .ref 0 0 0), (3, .str), (10, .view 3), (11, .int .i64), (12, .int .i64)], [(0, .box [.int .i64, .view 2, .view 3] false)], 1, 0⟩]
def x_u81q_0 (x0 : List UInt8) (x1 : List AV) (x2 x3 x4 : Int) (x5 x6 : List AV) : X × St := (X.exit 0, { tm := [(3, AV.str x0)], hp := [], nx := 0, k := 0 })
def x_u81q : List (TT_u81q → X × St) := [(k7 x_u81q_0)]
def st_u81q_0 (x0 : List UInt8) (x1 : List AV) (x2 x3 x4 : Int) (x5 x6 : List AV) : DT (Rd TT_u81q) :=
 .br (decide (x3 < x2))
  (.br (okAt [CS.int IntKind.i64, CS.int IntKind.i64, CS.int IntKind.i64] x1 x3)
   (.bi (f_u157q x4 x5 x6 (intOf (cellAt x1 x3 0)) (intOf (cellAt x1 x3 1)) (intOf (cellAt x1 x3 2))) (fun y0 =>
    .br (decide (y0.length + 1 ≤ 4611686018427387904))
     (.br (decide (x0.length + (y0 ++ [10]).length ≤ 4611686018427387904)) (.at (.next ((x0 ++ (y0 ++ [10]), x1, x2, IntKind.i64.wrap (x3 + 1), x4, x5, x6)))) (.no))
     (.no))
    (.no))
   (.no))
  (.at (.done 0))
def st_u81q : TT_u81q → DT (Rd TT_u81q) := (fun v => st_u81q_0 v.1 v.2.1 v.2.2.1 v.2.2.2.1 v.2.2.2.2.1 v.2.2.2.2.2.1 v.2.2.2.2.2.2)
def l_u81q (v : TT_u81q) : Option (Nat × TT_u81q) := lock (iterO (fun v => (st_u81q v).ev) v)
theorem l_u81q_eq (v : TT_u81q) : l_u81q v = iterO (fun v => (st_u81q v).ev) v := lock_eq _
def ll_u81q : LEnt := LE (τ := TT_u81q) (hD hs_u81q) (l_u81q) x_u81q
theorem t_u81q : Go.Eng.Told IP (loopAt F20 0).1 (loopAt F20 0).2 (ll_u81q) := loop_LE (inferInstance : Inhabited TT_u81q) (hs := hs_u81q) (st := st_u81q) (L := []) T77_ok (LOk_of (l := []) (by kernel_rfl) trivial) (l_u81q_eq) (fun v => by kernel_rfl) (fun v => by kernel_rfl)
abbrev B_u130q : Type := List UInt8
def p_u130q : PArgs := ⟨[.agg [.int .i64, .view 2, .view 3]], []⟩
def r_u130q : List PRes := [⟨false, .str, []⟩]
def tr_u130q (x0 : Int) (x1 x2 : List AV) : DT B_u130q :=
 .bi (f_u57q x0 x1 x2) (fun y0 =>
  .br (y0 != 0)
   (.at ([]))
   (.bi (pj 0 (l_u81q ([], x2, (↑x2.length : Int), 0, x0, x1, x2))) (fun y1 =>
    .at (y1.1))
    (.no)))
  (.no)
def f_u130q (x0 : Int) (x1 x2 : List AV) : Option B_u130q := lock (tr_u130q x0 x1 x2).ev
theorem f_u130q_eq (x0 : Int) (x1 x2 : List AV) : f_u130q x0 x1 x2 = (tr_u130q x0 x1 x2).ev := lock_eq _
theorem c_u130q : FH IP 20 p_u130q r_u130q (k3 f_u130q) := fun_FH (F := F20) (L := [(1002000, ll_u81q)]) (t := (k3 tr_u130q)) T77_ok (LOk_of (l := [loopAt F20 0]) (by kernel_rfl) ⟨sel_one (by kernel_rfl) t_u81q, trivial⟩) (by kernel_rfl) (fun v => by kernel_rfl) (fun _ => lock_eq _)
def T78 : Tab := (20, FE p_u130q r_u130q (k3 f_u130q)) :: T77
theorem T78_ok : TabOk IP T78 := ⟨FE_ok c_u130q, T77_ok⟩
abbrev B_u141q : Type := Bool
def p_u141q : PArgs := ⟨[], []⟩
def r_u141q : List PRes := [⟨false, .bool, []⟩]
def tr_u141q : DT B_u141q :=
 .bi (f_u115q) (fun y0 =>
  .bi (f_u80q y0.1 y0.2.1 y0.2.2.1 y0.2.2.2.1 y0.2.2.2.2) (fun y1 =>
   .bi (br (y1.2.2.2 != 0) (some true) (br (sm (f_u57q y1.1 y1.2.1 y1.2.2.1)) (some (gv (f_u57q y1.1 y1.2.1 y1.2.2.1) != 0)) none)) (fun y2 =>
    .bi (br y2 (some true) (br (sm (f_u129q y1.1 y1.2.1 y1.2.2.1)) (some (gv (f_u129q y1.1 y1.2.1 y1.2.2.1) != 2)) none)) (fun y3 =>
     .bi (br y3 (some true)
         (br (sm (f_u156q y1.1 y1.2.1 y1.2.2.1 y1.1 y1.2.1 y1.2.2.1))
           (some !gv (f_u156q y1.1 y1.2.1 y1.2.2.1 y1.1 y1.2.1 y1.2.2.1)) none)) (fun y4 =>
      .br (y4)
       (.at (false))
       (.br (Decidable.rec (fun h => (fun x => false) h) (fun h => (fun x => true) h) (Int.decLe 1 (↑y0.2.2.2.2.length : Int)) && true)
        (.bi (f_u80q y0.1 y0.2.1 y0.2.2.1 y0.2.2.2.1 (List.take 1 y0.2.2.2.2)) (fun y5 =>
         .bi (br (y5.2.2.2 == 4)
             (br (sm (f_u130q y1.1 y1.2.1 y1.2.2.1))
               (some
                 (gv (f_u130q y1.1 y1.2.1 y1.2.2.1) ==
                   have y :=
                     have y :=
                       have y :=
                         have y := [111, 117, 110, 116, 10];
                         100 :: 32 :: 97 :: 109 :: y;
                       have y := 10 :: 108 :: 111 :: 97 :: y;
                       109 :: 112 :: 32 :: 55 :: y;
                     have y :=
                       have y := 32 :: 51 :: 10 :: 106 :: 117 :: y;
                       111 :: 117 :: 110 :: 116 :: y;
                     have y := 104 :: 32 :: 97 :: 109 :: y;
                     10 :: 112 :: 117 :: 115 :: y;
                   have y :=
                     have y :=
                       have y := 108 :: 115 :: 101 :: 32 :: 54 :: y;
                       116 :: 10 :: 102 :: 97 :: y;
                     have y := 32 :: 53 :: 10 :: 108 :: y;
                     109 :: 98 :: 101 :: 114 :: y;
                   have y :=
                     have y := 104 :: 32 :: 110 :: 117 :: y;
                     10 :: 112 :: 117 :: 115 :: y;
                   have y := 32 :: 97 :: 103 :: 101 :: y;
                   108 :: 111 :: 97 :: 100 :: y))
               none)
             (some false)) (fun y6 =>
          .br (y6)
           (.bi (br (sm (f_u57q 2 [] [AV.agg [AV.int IntKind.i64 1, AV.int IntKind.i64 1, AV.int IntKind.i64 1]]))
               (some (gv (f_u57q 2 [] [AV.agg [AV.int IntKind.i64 1, AV.int IntKind.i64 1, AV.int IntKind.i64 1]]) == 9)) none) (fun y7 =>
            .at (y7))
            (.no))
           (.at (false)))
          (.no))
         (.no))
        (.no)))
      (.no))
     (.no))
    (.no))
   (.no))
  (.no)
def f_u141q : Option B_u141q := lock (tr_u141q).ev
theorem f_u141q_eq : f_u141q = (tr_u141q).ev := lock_eq _
theorem c_u141q : FH IP 11 p_u141q r_u141q (fun _ => f_u141q) := fun_FH (F := F11) (L := []) (t := (fun _ => tr_u141q)) T78_ok (LOk_of (l := []) (by kernel_rfl) trivial) (by kernel_rfl) (fun v => by kernel_rfl) (fun _ => lock_eq _)
def T79 : Tab := (11, FE p_u141q r_u141q (fun _ => f_u141q)) :: T78
theorem T79_ok : TabOk IP T79 := ⟨FE_ok c_u141q, T78_ok⟩
abbrev TT_u116q : Type := List UInt8 × Int
def hs_u116q : List PSt := [⟨[(1006300, .junk), (0, .str), (3, .int .i64)], [], 0, 0⟩]
def x_u116q_0 (x0 : List UInt8) (x1 : Int) : X × St := (X.ret, { tm := [(2, AV.bool false)], hp := [], nx := 0, k := 0 })
def x_u116q_1 (x0 : List UInt8) (x1 : Int) : X × St := (X.exit 0, { tm := [(2, AV.junk)], hp := [], nx := 0, k := 0 })
def x_u116q : List (TT_u116q → X × St) := [(k2 x_u116q_0), (k2 x_u116q_1)]
def st_u116q_0 (x0 : List UInt8) (x1 : Int) : DT (Rd TT_u116q) :=
 .br (decide (x1 < (↑x0.length : Int)))
  (.br (inB x0.length x1)
   (.bi (br (decide (byteAt x0 x1 < 97)) (some true) (br (inB x0.length x1) (some (decide (byteAt x0 x1 > 122))) none)) (fun y0 =>
    .bi (br y0 (br (inB x0.length x1) (br (decide (byteAt x0 x1 < 48)) (some true) (br (inB x0.length x1) (some (decide (byteAt x0 x1 > 57))) none)) none) (some false)) (fun y1 =>
     .bi (br y1 (br (inB x0.length x1) (some (byteAt x0 x1 != 95)) none) (some false)) (fun y2 =>
      .br (y2) (.at (.done 0)) (.at (.next ((x0, IntKind.i64.wrap (x1 + 1))))))
      (.no))
     (.no))
    (.no))
   (.no))
  (.at (.done 1))
def st_u116q : TT_u116q → DT (Rd TT_u116q) := (fun v => st_u116q_0 v.1 v.2)
def l_u116q (v : TT_u116q) : Option (Nat × TT_u116q) := lock (iterO (fun v => (st_u116q v).ev) v)
theorem l_u116q_eq (v : TT_u116q) : l_u116q v = iterO (fun v => (st_u116q v).ev) v := lock_eq _
def ll_u116q : LEnt := LE (τ := TT_u116q) (hD hs_u116q) (l_u116q) x_u116q
theorem t_u116q : Go.Eng.Told IP (loopAt F63 0).1 (loopAt F63 0).2 (ll_u116q) := loop_LE (inferInstance : Inhabited TT_u116q) (hs := hs_u116q) (st := st_u116q) (L := []) T79_ok (LOk_of (l := []) (by kernel_rfl) trivial) (l_u116q_eq) (fun v => by kernel_rfl) (fun v => by kernel_rfl)
abbrev B_u160q : Type := Bool
def p_u160q : PArgs := ⟨[.str], []⟩
def r_u160q : List PRes := [⟨false, .bool, []⟩]
def tr_u160q (x0 : List UInt8) : DT B_u160q :=
 .bi (br (decide ((↑x0.length : Int) < 1)) (some true) (some (decide ((↑x0.length : Int) > 16)))) (fun y0 =>
  .bi (br y0 (some true) (br (inB x0.length 0) (some (decide (byteAt x0 0 < 97))) none)) (fun y1 =>
   .bi (br y1 (some true) (br (inB x0.length 0) (some (decide (byteAt x0 0 > 122))) none)) (fun y2 =>
    .br (y2)
     (.at (false))
     (.bi (pj 0 (l_u116q (x0, 0))) (fun y3 =>
      .at (false))
      (.bi (pj 1 (l_u116q (x0, 0))) (fun y3 =>
       .at (true))
       (.no))))
    (.no))
   (.no))
  (.no)
def f_u160q (x0 : List UInt8) : Option B_u160q := lock (tr_u160q x0).ev
theorem c_u160q : FH IP 63 p_u160q r_u160q f_u160q := fun_FH (F := F63) (L := [(1006300, ll_u116q)]) (t := tr_u160q) T79_ok (LOk_of (l := [loopAt F63 0]) (by kernel_rfl) ⟨sel_one (by kernel_rfl) t_u116q, trivial⟩) (by kernel_rfl) (fun v => by kernel_rfl) (fun _ => lock_eq _)
def T80 : Tab := (63, FE p_u160q r_u160q f_u160q) :: T79
theorem T80_ok : TabOk IP T80 := ⟨FE_ok c_u160q, T79_ok⟩
abbrev B_u143q : Type := List AV
def p_u143q : PArgs := ⟨[], []⟩
def r_u143q : List PRes := [⟨false, .view 1, []⟩]
def tr_u143q : DT B_u143q :=
 .at ([AV.str [112, 114, 111, 100, 117, 99, 116], AV.str [99, 117, 114, 114, 101, 110, 99, 121], AV.str [99, 97, 108, 101, 110, 100, 97, 114], AV.str [102, 114, 111, 109],
  AV.str [101, 118, 101, 114, 121], AV.str [111, 118, 101, 114, 100, 114, 97, 102, 116], AV.str [116, 97, 120], AV.str [99, 114, 101, 100, 105, 116],
  AV.str [100, 101, 98, 105, 116], AV.str [109, 97, 114, 103, 105, 110, 97, 108], AV.str [119, 104, 111, 108, 101], AV.str [97, 99, 116, 51, 54, 48],
  AV.str [97, 99, 116, 51, 54, 53], AV.str [97, 99, 116, 117, 97, 108], AV.str [116, 104, 105, 114, 116, 121], AV.str [100, 111, 119, 110], AV.str [117, 112],
  AV.str [102, 108, 111, 111, 114], AV.str [99, 101, 105, 108], AV.str [104, 97, 108, 102, 95, 117, 112], AV.str [104, 97, 108, 102, 95, 101, 118, 101, 110],
  AV.str [107, 101, 101, 112], AV.str [100, 114, 111, 112], AV.str [102, 101, 101], AV.str [108, 105, 109, 105, 116], AV.str [119, 104, 101, 110],
  AV.str [97, 109, 111, 117, 110, 116, 95, 111, 102], AV.str [115, 105, 110, 103, 108, 101], AV.str [100, 97, 105, 108, 121], AV.str [109, 111, 110, 116, 104, 108, 121],
  AV.str [109, 111, 110, 116, 104], AV.str [114, 101, 116, 117, 114, 110], AV.str [99, 108, 111, 115, 101], AV.str [101, 118, 101, 110, 116], AV.str [105, 102],
  AV.str [116, 104, 101, 110], AV.str [101, 108, 115, 101], AV.str [97, 110, 100], AV.str [111, 114], AV.str [110, 111, 116], AV.str [109, 105, 110], AV.str [109, 97, 120]])
def f_u143q : Option B_u143q := lock (tr_u143q).ev
theorem c_u143q : FH IP 81 p_u143q r_u143q (fun _ => f_u143q) := fun_FH (F := F81) (L := []) (t := (fun _ => tr_u143q)) T80_ok (LOk_of (l := []) (by kernel_rfl) trivial) (by kernel_rfl) (fun v => by kernel_rfl) (fun _ => lock_eq _)
def T81 : Tab := (81, FE p_u143q r_u143q (fun _ => f_u143q)) :: T80
theorem T81_ok : TabOk IP T81 := ⟨FE_ok c_u143q, T80_ok⟩
abbrev TT_u117q : Type := List UInt8 × List AV × Int
def hs_u117q : List PSt := [⟨[(1006400, .junk), (0, .str), (3, .view 1), (4, .int .i64)], [], 0, 0⟩]
def x_u117q_0 (x0 : List UInt8) (x1 : List AV) (x2 : Int) : X × St := (X.ret, { tm := [(2, AV.bool true)], hp := [], nx := 0, k := 0 })
def x_u117q_1 (x0 : List UInt8) (x1 : List AV) (x2 : Int) : X × St := (X.exit 0, { tm := [(2, AV.junk)], hp := [], nx := 0, k := 0 })
def x_u117q : List (TT_u117q → X × St) := [(k3 x_u117q_0), (k3 x_u117q_1)]
def st_u117q_0 (x0 : List UInt8) (x1 : List AV) (x2 : Int) : DT (Rd TT_u117q) :=
 .br (decide (x2 < (↑x1.length : Int)))
  (.br (okAt [CS.str] x1 x2)
   (.br (strOf (cellAt x1 x2 0) == x0) (.at (.done 0)) (.at (.next ((x0, x1, IntKind.i64.wrap (x2 + 1))))))
   (.no))
  (.at (.done 1))
def st_u117q : TT_u117q → DT (Rd TT_u117q) := (fun v => st_u117q_0 v.1 v.2.1 v.2.2)
def l_u117q (v : TT_u117q) : Option (Nat × TT_u117q) := lock (iterO (fun v => (st_u117q v).ev) v)
theorem l_u117q_eq (v : TT_u117q) : l_u117q v = iterO (fun v => (st_u117q v).ev) v := lock_eq _
def ll_u117q : LEnt := LE (τ := TT_u117q) (hD hs_u117q) (l_u117q) x_u117q
theorem t_u117q : Go.Eng.Told IP (loopAt F64 0).1 (loopAt F64 0).2 (ll_u117q) := loop_LE (inferInstance : Inhabited TT_u117q) (hs := hs_u117q) (st := st_u117q) (L := []) T81_ok (LOk_of (l := []) (by kernel_rfl) trivial) (l_u117q_eq) (fun v => by kernel_rfl) (fun v => by kernel_rfl)
abbrev B_u161q : Type := Bool
def p_u161q : PArgs := ⟨[.str], []⟩
def r_u161q : List PRes := [⟨false, .bool, []⟩]
def tr_u161q (x0 : List UInt8) : DT B_u161q :=
 .bi (f_u143q) (fun y0 =>
  .bi (pj 0 (l_u117q (x0, y0, 0))) (fun y1 =>
   .at (true))
   (.bi (pj 1 (l_u117q (x0, y0, 0))) (fun y1 =>
    .at (false))
    (.no)))
  (.no)
def f_u161q (x0 : List UInt8) : Option B_u161q := lock (tr_u161q x0).ev
theorem c_u161q : FH IP 64 p_u161q r_u161q f_u161q := fun_FH (F := F64) (L := [(1006400, ll_u117q)]) (t := tr_u161q) T81_ok (LOk_of (l := [loopAt F64 0]) (by kernel_rfl) ⟨sel_one (by kernel_rfl) t_u117q, trivial⟩) (by kernel_rfl) (fun v => by kernel_rfl) (fun _ => lock_eq _)
def T82 : Tab := (64, FE p_u161q r_u161q f_u161q) :: T81
theorem T82_ok : TabOk IP T82 := ⟨FE_ok c_u161q, T81_ok⟩
abbrev B_u73q : Type := Bool
def p_u73q : PArgs := ⟨[.str], []⟩
def r_u73q : List PRes := [⟨false, .bool, []⟩]
def tr_u73q (x0 : List UInt8) : DT B_u73q :=
 .bi (f_u160q x0) (fun y0 =>
  .bi (br y0 (br (sm (f_u161q x0)) (some !gv (f_u161q x0)) none) (some false)) (fun y1 =>
   .at (y1))
   (.no))
  (.no)
def f_u73q (x0 : List UInt8) : Option B_u73q := lock (tr_u73q x0).ev
theorem c_u73q : FH IP 42 p_u73q r_u73q f_u73q := fun_FH (F := F42) (L := []) (t := tr_u73q) T82_ok (LOk_of (l := []) (by kernel_rfl) trivial) (by kernel_rfl) (fun v => by kernel_rfl) (fun _ => lock_eq _)
def T83 : Tab := (42, FE p_u73q r_u73q f_u73q) :: T82
theorem T83_ok : TabOk IP T83 := ⟨FE_ok c_u73q, T82_ok⟩
abbrev TT_u122q : Type := List AV × Int × Int
def hs_u122q : List PSt := [⟨[(1002401, .junk), (0, .view 2), (3, .int .i64), (4, .int .i64)], [], 0, 0⟩]
def x_u122q_0 (x0 : List AV) (x1 x2 : Int) : X × St := (X.ret, { tm := [(0, AV.view 2 x0), (2, AV.int IntKind.i64 12), (3, AV.int IntKind.i64 x1)], hp := [], nx := 0, k := 0 })
def x_u122q_1 (x0 : List AV) (x1 x2 : Int) : X × St := (X.exit 2, { tm := [(0, AV.view 2 x0), (2, AV.junk), (3, AV.int IntKind.i64 x1)], hp := [], nx := 0, k := 0 })
def x_u122q : List (TT_u122q → X × St) := [(k3 x_u122q_0), (k3 x_u122q_1)]
def st_u122q_0 (x0 : List AV) (x1 x2 : Int) : DT (Rd TT_u122q) :=
 .br (decide (x2 < x1))
  (.br (okAt [CS.str, CS.int IntKind.i64] x0 x2)
   (.br (okAt [CS.str, CS.int IntKind.i64] x0 x1)
    (.br (strOf (cellAt x0 x2 0) == strOf (cellAt x0 x1 0)) (.at (.done 0)) (.at (.next ((x0, x1, IntKind.i64.wrap (x2 + 1))))))
    (.no))
   (.no))
  (.at (.done 1))
def st_u122q : TT_u122q → DT (Rd TT_u122q) := (fun v => st_u122q_0 v.1 v.2.1 v.2.2)
def l_u122q (v : TT_u122q) : Option (Nat × TT_u122q) := lock (iterO (fun v => (st_u122q v).ev) v)
theorem l_u122q_eq (v : TT_u122q) : l_u122q v = iterO (fun v => (st_u122q v).ev) v := lock_eq _
def ll_u122q : LEnt := LE (τ := TT_u122q) (hD hs_u122q) (l_u122q) x_u122q
theorem t_u122q : Go.Eng.Told IP (loopAt F24 1).1 (loopAt F24 1).2 (ll_u122q) := loop_LE (inferInstance : Inhabited TT_u122q) (hs := hs_u122q) (st := st_u122q) (L := []) T83_ok (LOk_of (l := []) (by kernel_rfl) trivial) (l_u122q_eq) (fun v => by kernel_rfl) (fun v => by kernel_rfl)
abbrev B_u164q : Type := Bool
def p_u164q : PArgs := ⟨[.int .i64], []⟩
def r_u164q : List PRes := [⟨false, .bool, []⟩]
def tr_u164q (x0 : Int) : DT B_u164q :=
 .bi (br (decide (x0 ≥ 1)) (some (decide (x0 ≤ 5))) (some false)) (fun y0 =>
  .at (y0))
  (.no)
def f_u164q (x0 : Int) : Option B_u164q := lock (tr_u164q x0).ev
theorem c_u164q : FH IP 43 p_u164q r_u164q f_u164q := fun_FH (F := F43) (L := []) (t := tr_u164q) T83_ok (LOk_of (l := []) (by kernel_rfl) trivial) (by kernel_rfl) (fun v => by kernel_rfl) (fun _ => lock_eq _)
def T84 : Tab := (43, FE p_u164q r_u164q f_u164q) :: T83
theorem T84_ok : TabOk IP T84 := ⟨FE_ok c_u164q, T83_ok⟩
abbrev TT_u121q : Type := List AV × Int
def hs_u121q : List PSt := [⟨[(1002400, .junk), (0, .view 2), (3, .int .i64)], [], 0, 0⟩]
def x_u121q_0 (x0 : List AV) (x1 : Int) : X × St := (X.ret, { tm := [(2, AV.int IntKind.i64 4)], hp := [], nx := 0, k := 0 })
def x_u121q_1 (x0 : List AV) (x1 : Int) : X × St := (X.ret, { tm := [(2, AV.int IntKind.i64 12)], hp := [], nx := 0, k := 0 })
def x_u121q_2 (x0 : List AV) (x1 : Int) : X × St := (X.ret, { tm := [(2, AV.int IntKind.i64 3)], hp := [], nx := 0, k := 0 })
def x_u121q_3 (x0 : List AV) (x1 : Int) : X × St := (X.exit 0, { tm := [(2, AV.junk)], hp := [], nx := 0, k := 0 })
def x_u121q : List (TT_u121q → X × St) := [(k2 x_u121q_0), (k2 x_u121q_1), (k2 x_u121q_2), (k2 x_u121q_3)]
def st_u121q_0 (x0 : List AV) (x1 : Int) : DT (Rd TT_u121q) :=
 .br (decide (x1 < (↑x0.length : Int)))
  (.br (okAt [CS.str, CS.int IntKind.i64] x0 x1)
   (.bi (f_u73q (strOf (cellAt x0 x1 0))) (fun y0 =>
    .br (!y0)
     (.at (.done 0))
     (.bi (pj 0 (l_u122q (x0, x1, 0))) (fun y1 =>
      .at (.done 1))
      (.bi (pj 1 (l_u122q (x0, x1, 0))) (fun y1 =>
       .br (okAt [CS.str, CS.int IntKind.i64] y1.1 y1.2.1)
        (.bi (f_u164q (intOf (cellAt y1.1 y1.2.1 1))) (fun y2 =>
         .br (!y2) (.at (.done 2)) (.at (.next ((y1.1, IntKind.i64.wrap (y1.2.1 + 1))))))
         (.no))
        (.no))
       (.no))))
    (.no))
   (.no))
  (.at (.done 3))
def st_u121q : TT_u121q → DT (Rd TT_u121q) := (fun v => st_u121q_0 v.1 v.2)
def l_u121q (v : TT_u121q) : Option (Nat × TT_u121q) := lock (iterO (fun v => (st_u121q v).ev) v)
theorem l_u121q_eq (v : TT_u121q) : l_u121q v = iterO (fun v => (st_u121q v).ev) v := lock_eq _
def ll_u121q : LEnt := LE (τ := TT_u121q) (hD hs_u121q) (l_u121q) x_u121q
theorem t_u121q : Go.Eng.Told IP (loopAt F24 0).1 (loopAt F24 0).2 (ll_u121q) := loop_LE (inferInstance : Inhabited TT_u121q) (hs := hs_u121q) (st := st_u121q) (L := [(1002401, ll_u122q)]) T84_ok (LOk_of (l := [loopAt F24 1]) (by kernel_rfl) ⟨sel_one (by kernel_rfl) t_u122q, trivial⟩) (l_u121q_eq) (fun v => by kernel_rfl) (fun v => by kernel_rfl)
abbrev B_u165q : Type := Int
def p_u165q : PArgs := ⟨[.view 2], []⟩
def r_u165q : List PRes := [⟨false, .int .i64, []⟩]
def tr_u165q (x0 : List AV) : DT B_u165q :=
 .br (decide ((↑x0.length : Int) > 64))
  (.at (5))
  (.bi (pj 0 (l_u121q (x0, 0))) (fun y0 =>
   .at (4))
   (.bi (pj 1 (l_u121q (x0, 0))) (fun y0 =>
    .at (12))
    (.bi (pj 2 (l_u121q (x0, 0))) (fun y0 =>
     .at (3))
     (.bi (pj 3 (l_u121q (x0, 0))) (fun y0 =>
      .at (0))
      (.no)))))
def f_u165q (x0 : List AV) : Option B_u165q := lock (tr_u165q x0).ev
theorem c_u165q : FH IP 24 p_u165q r_u165q f_u165q := fun_FH (F := F24) (L := [(1002400, ll_u121q)]) (t := tr_u165q) T84_ok (LOk_of (l := [loopAt F24 0, loopAt F24 1]) (by kernel_rfl) ⟨sel_one (by kernel_rfl) t_u121q, sel_no (by kernel_rfl), trivial⟩) (by kernel_rfl) (fun v => by kernel_rfl) (fun _ => lock_eq _)
def T85 : Tab := (24, FE p_u165q r_u165q f_u165q) :: T84
theorem T85_ok : TabOk IP T85 := ⟨FE_ok c_u165q, T84_ok⟩
abbrev B_u148q : Type := Int
def p_u148q : PArgs := ⟨[.agg [.int .i64, .int .i64, .str, .view 4], .int .i64], []⟩
def r_u148q : List PRes := [⟨false, .int .i64, []⟩]
abbrev GT_u148q : Type := Int → Int → (List UInt8) → (List AV) → Int → Option B_u148q
def GH_u148q (G_u148q : GT_u148q) : Prop := FH IP 76 p_u148q r_u148q (k5 G_u148q)
def TG_u148q (G_u148q : GT_u148q) : Tab := (76, FE p_u148q r_u148q (k5 G_u148q)) :: T85
theorem TG_u148q_ok (G_u148q : GT_u148q) (hG : GH_u148q G_u148q) : TabOk IP (TG_u148q G_u148q) := ⟨FE_ok (hG), T85_ok⟩
abbrev TT_u100q : Type := Int × Int × Int × Int × Int × List UInt8 × List AV
def hs_u100q : List PSt := [⟨[(1007600, .junk), (1, .int .i64), (2, .ref 0 0 0), (5, .int .i64), (6, .int .i64)], [(0, .box [.int .i64, .int .i64, .str, .view 4] false)], 1, 0⟩]
def x_u100q_0 (x0 x1 : Int) (x2 x3 x4 : Int) (x5 : List UInt8) (x6 : List AV) : X × St := (X.exit 0, { tm := [(5, AV.int IntKind.i64 x1)], hp := [], nx := 0, k := 0 })
def x_u100q : List (TT_u100q → X × St) := [(k7 x_u100q_0)]
def st_u100q_0 (G_u148q : GT_u148q) (x0 x1 : Int) (x2 x3 x4 : Int) (x5 : List UInt8) (x6 : List AV) : DT (Rd TT_u100q) :=
 .bi (br (decide (x2 < (↑x6.length : Int))) (some (decide (x1 ≤ x0))) (some false)) (fun y0 =>
  .br (y0)
   (.br (okAt [CS.int IntKind.i64, CS.int IntKind.i64, CS.str, CS.slice 4] x6 x2)
    (.bi (G_u148q (intOf (cellAt x6 x2 0)) (intOf (cellAt x6 x2 1)) (strOf (cellAt x6 x2 2)) (viewOf (cellAt x6 x2 3)) (IntKind.i64.wrap (x0 - x1))) (fun y1 =>
     .at (.next ((x0, IntKind.i64.wrap (x1 + y1), IntKind.i64.wrap (x2 + 1), x3, x4, x5, x6))))
     (.no))
    (.no))
   (.at (.done 0)))
  (.no)
def st_u100q (G_u148q : GT_u148q) : TT_u100q → DT (Rd TT_u100q) := (fun v => st_u100q_0 G_u148q v.1 v.2.1 v.2.2.1 v.2.2.2.1 v.2.2.2.2.1 v.2.2.2.2.2.1 v.2.2.2.2.2.2)
def l_u100q (G_u148q : GT_u148q) (v : TT_u100q) : Option (Nat × TT_u100q) := lock (iterO (fun v => (st_u100q G_u148q v).ev) v)
theorem l_u100q_eq (G_u148q : GT_u148q) (v : TT_u100q) : l_u100q G_u148q v = iterO (fun v => (st_u100q G_u148q v).ev) v := lock_eq _
def ll_u100q (G_u148q : GT_u148q) : LEnt := LE (τ := TT_u100q) (hD hs_u100q) (l_u100q G_u148q) x_u100q
theorem t_u100q (G_u148q : GT_u148q) (hG : GH_u148q G_u148q) : Go.Eng.Told IP (loopAt F76 0).1 (loopAt F76 0).2 (ll_u100q G_u148q) := loop_LE (inferInstance : Inhabited TT_u100q) (hs := hs_u100q) (st := st_u100q G_u148q) (L := []) (TG_u148q_ok G_u148q hG) (LOk_of (l := []) (by kernel_rfl) trivial) (l_u100q_eq G_u148q) (fun v => by kernel_rfl) (fun v => by kernel_rfl)
def tr_u148q (G_u148q : GT_u148q) (x0 x1 : Int) (x2 : List UInt8) (x3 : List AV) (x4 : Int) : DT B_u148q :=
 .bi (pj 0 (l_u100q G_u148q (x4, 1, 0, x0, x1, x2, x3))) (fun y0 =>
  .at (y0.2.1))
  (.no)
def N_u148q : Nat → GT_u148q
  | 0 => fun _ _ _ _ _ => none
  | n + 1 => fun x0 x1 x2 x3 x4 => (tr_u148q ((N_u148q n)) x0 x1 x2 x3 x4).ev
def f_u148q (x0 x1 : Int) (x2 : List UInt8) (x3 : List AV) (x4 : Int) : Option B_u148q := limO fun n => (N_u148q n) x0 x1 x2 x3 x4
theorem N_u148q_ok : ∀ n, GH_u148q ((N_u148q n))
  | 0 => (fun v y h => nomatch h)
  | n + 1 => have hG := N_u148q_ok n
    fun_FH (F := F76) (L := [(1007600, ll_u100q ((N_u148q n)))]) (t := (k5 (tr_u148q ((N_u148q n))))) (TG_u148q_ok ((N_u148q n)) hG) (LOk_of (l := [loopAt F76 0]) (by kernel_rfl) ⟨sel_one (by kernel_rfl) (t_u100q ((N_u148q n)) hG), trivial⟩) (by kernel_rfl) (fun v => by kernel_rfl) (fun v => rfl)
theorem c_u148q : FH IP 76 p_u148q r_u148q (k5 f_u148q) := lim_FH (p := p_u148q) (rs := r_u148q) (s := fun n => (k5 ((N_u148q n)))) fun n => (N_u148q_ok n)
def T86 : Tab := (76, FE p_u148q r_u148q (k5 f_u148q)) :: T85
theorem T86_ok : TabOk IP T86 := ⟨FE_ok c_u148q, T85_ok⟩
abbrev B_u145q : Type := Bool
def p_u145q : PArgs := ⟨[.agg [.int .i64, .int .i64, .str, .view 4], .int .i64], []⟩
def r_u145q : List PRes := [⟨false, .bool, []⟩]
def tr_u145q (x0 x1 : Int) (x2 : List UInt8) (x3 : List AV) (x4 : Int) : DT B_u145q :=
 .bi (f_u148q x0 x1 x2 x3 x4) (fun y0 =>
  .at (decide (y0 > x4)))
  (.no)
def f_u145q (x0 x1 : Int) (x2 : List UInt8) (x3 : List AV) (x4 : Int) : Option B_u145q := lock (tr_u145q x0 x1 x2 x3 x4).ev
theorem c_u145q : FH IP 58 p_u145q r_u145q (k5 f_u145q) := fun_FH (F := F58) (L := []) (t := (k5 tr_u145q)) T86_ok (LOk_of (l := []) (by kernel_rfl) trivial) (by kernel_rfl) (fun v => by kernel_rfl) (fun _ => lock_eq _)
def T87 : Tab := (58, FE p_u145q r_u145q (k5 f_u145q)) :: T86
theorem T87_ok : TabOk IP T87 := ⟨FE_ok c_u145q, T86_ok⟩
abbrev B_u144q : Type := Int
def p_u144q : PArgs := ⟨[.agg [.int .i64, .int .i64, .str, .view 4]], []⟩
def r_u144q : List PRes := [⟨false, .int .i64, []⟩]
abbrev GT_u144q : Type := Int → Int → (List UInt8) → (List AV) → Option B_u144q
def GH_u144q (G_u144q : GT_u144q) : Prop := FH IP 59 p_u144q r_u144q (k4 G_u144q)
def TG_u144q (G_u144q : GT_u144q) : Tab := (59, FE p_u144q r_u144q (k4 G_u144q)) :: T87
theorem TG_u144q_ok (G_u144q : GT_u144q) (hG : GH_u144q G_u144q) : TabOk IP (TG_u144q G_u144q) := ⟨FE_ok (hG), T87_ok⟩
abbrev TT_u96q : Type := Int × Int × Int × Int × List UInt8 × List AV
def hs_u96q : List PSt := [⟨[(1005900, .junk), (1, .ref 0 0 0), (3, .int .i64), (4, .int .i64)], [(0, .box [.int .i64, .int .i64, .str, .view 4] false)], 1, 0⟩]
def x_u96q_0 (x0 x1 : Int) (x2 x3 : Int) (x4 : List UInt8) (x5 : List AV) : X × St := (X.exit 0, { tm := [(3, AV.int IntKind.i64 x0)], hp := [], nx := 0, k := 0 })
def x_u96q : List (TT_u96q → X × St) := [(k6 x_u96q_0)]
def st_u96q_0 (G_u144q : GT_u144q) (x0 x1 : Int) (x2 x3 : Int) (x4 : List UInt8) (x5 : List AV) : DT (Rd TT_u96q) :=
 .br (decide (x1 < (↑x5.length : Int)))
  (.br (okAt [CS.int IntKind.i64, CS.int IntKind.i64, CS.str, CS.slice 4] x5 x1)
   (.bi (G_u144q (intOf (cellAt x5 x1 0)) (intOf (cellAt x5 x1 1)) (strOf (cellAt x5 x1 2)) (viewOf (cellAt x5 x1 3))) (fun y0 =>
    .at (.next ((if y0 > x0 then y0 else x0, IntKind.i64.wrap (x1 + 1), x2, x3, x4, x5))))
    (.no))
   (.no))
  (.at (.done 0))
def st_u96q (G_u144q : GT_u144q) : TT_u96q → DT (Rd TT_u96q) := (fun v => st_u96q_0 G_u144q v.1 v.2.1 v.2.2.1 v.2.2.2.1 v.2.2.2.2.1 v.2.2.2.2.2)
def l_u96q (G_u144q : GT_u144q) (v : TT_u96q) : Option (Nat × TT_u96q) := lock (iterO (fun v => (st_u96q G_u144q v).ev) v)
theorem l_u96q_eq (G_u144q : GT_u144q) (v : TT_u96q) : l_u96q G_u144q v = iterO (fun v => (st_u96q G_u144q v).ev) v := lock_eq _
def ll_u96q (G_u144q : GT_u144q) : LEnt := LE (τ := TT_u96q) (hD hs_u96q) (l_u96q G_u144q) x_u96q
theorem t_u96q (G_u144q : GT_u144q) (hG : GH_u144q G_u144q) : Go.Eng.Told IP (loopAt F59 0).1 (loopAt F59 0).2 (ll_u96q G_u144q) := loop_LE (inferInstance : Inhabited TT_u96q) (hs := hs_u96q) (st := st_u96q G_u144q) (L := []) (TG_u144q_ok G_u144q hG) (LOk_of (l := []) (by kernel_rfl) trivial) (l_u96q_eq G_u144q) (fun v => by kernel_rfl) (fun v => by kernel_rfl)
def tr_u144q (G_u144q : GT_u144q) (x0 x1 : Int) (x2 : List UInt8) (x3 : List AV) : DT B_u144q :=
 .bi (pj 0 (l_u96q G_u144q (0, 0, x0, x1, x2, x3))) (fun y0 =>
  .at (IntKind.i64.wrap (y0.1 + 1)))
  (.no)
end
end Go.Proofs.H12

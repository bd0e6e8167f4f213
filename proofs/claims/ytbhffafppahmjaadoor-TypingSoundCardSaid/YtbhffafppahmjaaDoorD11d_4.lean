/- Functions over plain data. Printed by a program of mine. -/
import Derived.Test.YtbhffafppahmjaaDoorD11d_3
import Derived.KernelRfl
set_option linter.unusedVariables false
set_option linter.unusedSimpArgs false
set_option linter.unnecessarySimpa false
namespace Go.Proofs.H11d
open Go Go.Eng
set_option maxRecDepth 100000
abbrev TT_u40q : Type := List AV × List AV × Int × Int
def hs_u40q : List PSt := [⟨[(1001300, .junk), (0, .view 2), (10, .view 2), (11, .int .i64), (12, .int .i64)], [], 0, 0⟩]
noncomputable def x_u40q_0 (x0 : List AV) (x1 : List AV) (x2 : Int) (x3 : Int) : X × St := (X.ret, { tm := [(2, AV.int IntKind.i64 4)], hp := [], nx := 0, k := 0 })
noncomputable def x_u40q_1 (x0 : List AV) (x1 : List AV) (x2 : Int) (x3 : Int) : X × St := (X.ret, { tm := [(2, AV.int IntKind.i64 12)], hp := [], nx := 0, k := 0 })
noncomputable def x_u40q_2 (x0 : List AV) (x1 : List AV) (x2 : Int) (x3 : Int) : X × St := (X.ret, { tm := [(2, AV.int IntKind.i64 3)], hp := [], nx := 0, k := 0 })
noncomputable def x_u40q_3 (x0 : List AV) (x1 : List AV) (x2 : Int) (x3 : Int) : X × St := (X.exit 0, { tm := [(2, AV.junk)], hp := [], nx := 0, k := 0 })
noncomputable def x_u40q : List (TT_u40q → X × St) := [fun w => x_u40q_0 w.1 w.2.1 w.2.2.1 w.2.2.2, fun w => x_u40q_1 w.1 w.2.1 w.2.2.1 w.2.2.2, fun w => x_u40q_2 w.1 w.2.1 w.2.2.1 w.2.2.2, fun w => x_u40q_3 w.1 w.2.1 w.2.2.1 w.2.2.2]
noncomputable def st_u40q_0 (x0 : List AV) (x1 : List AV) (x2 : Int) (x3 : Int) : DT (Rd TT_u40q) :=
 .br (decide (x3 < x2))
  (.br (okAt [CS.str, CS.int IntKind.i64] x1 x3)
   (.bi (f_u31q 4 0 (strOf (cellAt x1 x3 0)) []) (fun y0 =>
    .br (y0 != 0)
     (.at (.done 0))
     (.br (leB x3 x0.length && true)
      (.bi (pj 0 (l_u41q (x0, x1, x2, x3, List.take x3.toNat x0, (↑(List.take x3.toNat x0).length : Int), 0, strOf (cellAt x1 x3 0), intOf (cellAt x1 x3 1)))) (fun y1 =>
       .at (.done 1))
       (.bi (pj 1 (l_u41q (x0, x1, x2, x3, List.take x3.toNat x0, (↑(List.take x3.toNat x0).length : Int), 0, strOf (cellAt x1 x3 0), intOf (cellAt x1 x3 1)))) (fun y1 =>
        .bi (f_u55q y1.snd.snd.snd.snd.snd.snd.snd.snd) (fun y2 =>
         .br (!y2) (.at (.done 2)) (.at (.next ((y1.fst, y1.snd.fst, y1.snd.snd.fst, IntKind.i64.wrap (y1.snd.snd.snd.fst + 1))))))
         (.no))
        (.no)))
      (.no)))
    (.no))
   (.no))
  (.at (.done 3))
noncomputable def st_u40q : TT_u40q → DT (Rd TT_u40q) := (fun v => st_u40q_0 v.1 v.2.1 v.2.2.1 v.2.2.2)
noncomputable def l_u40q (v : TT_u40q) : Option (Nat × TT_u40q) := lock (iterO (fun v => (st_u40q v).ev) v)
theorem l_u40q_eq (v : TT_u40q) : l_u40q v = iterO (fun v => (st_u40q v).ev) v := lock_eq _
noncomputable def ll_u40q : LEnt := LE (τ := TT_u40q) (hD hs_u40q) (l_u40q) x_u40q
theorem t_u40q : Go.Eng.Told IP (loopAt F13 0).1 (loopAt F13 0).2 (ll_u40q) := loop_LE (inferInstance : Inhabited TT_u40q) (hs := hs_u40q) (st := st_u40q) (L := [(1001301, ll_u41q)]) T51_ok (LOk_of (l := [loopAt F13 1]) (by kernel_rfl) ⟨sel_one (by kernel_rfl) t_u41q, trivial⟩) (l_u40q_eq) (fun v => by kernel_rfl) (fun v => by kernel_rfl)
abbrev B_u65q : Type := Int
def p_u65q : PArgs := ⟨[.view 2], []⟩
def r_u65q : List PRes := [⟨false, .int .i64, []⟩]
noncomputable def tr_u65q (x0 : List AV) : DT B_u65q :=
 .br (decide ((↑x0.length : Int) > 64))
  (.at (5))
  (.bi (pj 0 (l_u40q (x0, x0, (↑x0.length : Int), 0))) (fun y0 =>
   .at (4))
   (.bi (pj 1 (l_u40q (x0, x0, (↑x0.length : Int), 0))) (fun y0 =>
    .at (12))
    (.bi (pj 2 (l_u40q (x0, x0, (↑x0.length : Int), 0))) (fun y0 =>
     .at (3))
     (.bi (pj 3 (l_u40q (x0, x0, (↑x0.length : Int), 0))) (fun y0 =>
      .at (0))
      (.no)))))
noncomputable def f_u65q (x0 : List AV) : Option B_u65q := lock (tr_u65q x0).ev
theorem f_u65q_eq (x0 : List AV) : f_u65q x0 = (tr_u65q x0).ev := lock_eq _
theorem c_u65q : FH IP 13 p_u65q r_u65q (fun (v : List AV) => (f_u65q v : Option B_u65q)) := fun_FH (F := F13) (L := [(1001300, ll_u40q)]) (t := fun (v : List AV) => tr_u65q v) T51_ok (LOk_of (l := [loopAt F13 0, loopAt F13 1]) (by kernel_rfl) ⟨sel_one (by kernel_rfl) t_u40q, sel_no (by kernel_rfl), trivial⟩) (by kernel_rfl) (fun v => by kernel_rfl) (fun v => f_u65q_eq v)
noncomputable def T52 : Tab := (13, FE p_u65q r_u65q (fun (v : List AV) => (f_u65q v : Option B_u65q))) :: T51
theorem T52_ok : TabOk IP T52 := ⟨FE_ok c_u65q, T51_ok⟩
abbrev B_u85q : Type := Bool
def p_u85q : PArgs := ⟨[], []⟩
def r_u85q : List PRes := [⟨false, .bool, []⟩]
noncomputable def tr_u85q : DT B_u85q :=
 .bi (f_u39q 7 [AV.int IntKind.i64 2, AV.int IntKind.i64 3]) (fun y0 =>
  .bi (f_u39q 7 [AV.int IntKind.i64 2, AV.int IntKind.i64 2]) (fun y1 =>
   .bi (f_u39q 6 [AV.int IntKind.i64 4, AV.int IntKind.i64 4]) (fun y2 =>
    .bi (f_u83q 5 0 []
        [AV.agg
            [AV.int IntKind.i64 5, AV.int IntKind.i64 0, AV.str [],
              AV.view 4 [AV.agg [AV.int IntKind.i64 4, AV.int IntKind.i64 0, AV.str [120], AV.view 4 []], AV.agg [AV.int IntKind.i64 2, AV.int IntKind.i64 1, AV.str [], AV.view 4 []]]],
          AV.agg [AV.int IntKind.i64 1, AV.int IntKind.i64 1, AV.str [], AV.view 4 []]]
        []) (fun y3 =>
     .bi (f_u83q 5 0 []
         [AV.agg
             [AV.int IntKind.i64 5, AV.int IntKind.i64 0, AV.str [],
               AV.view 4 [AV.agg [AV.int IntKind.i64 1, AV.int IntKind.i64 1, AV.str [], AV.view 4 []], AV.agg [AV.int IntKind.i64 2, AV.int IntKind.i64 1, AV.str [], AV.view 4 []]]],
           AV.agg [AV.int IntKind.i64 4, AV.int IntKind.i64 0, AV.str [120], AV.view 4 []]]
         []) (fun y4 =>
      .bi (f_u83q 12 0 [] [AV.agg [AV.int IntKind.i64 4, AV.int IntKind.i64 0, AV.str [120], AV.view 4 []], AV.agg [AV.int IntKind.i64 1, AV.int IntKind.i64 1, AV.str [], AV.view 4 []]]
          [AV.agg [AV.str [120], AV.int IntKind.i64 1]]) (fun y5 =>
       .bi (br (y0.fst == 2) (some y0.snd) (some false)) (fun y6 =>
        .bi (br y6 (some !y1.snd) (some false)) (fun y7 =>
         .bi (br y7 (some (y2.fst == 1)) (some false)) (fun y8 =>
          .bi (br y8 (some y2.snd) (some false)) (fun y9 =>
           .bi (br y9 (some (y3.snd == 4)) (some false)) (fun y10 =>
            .bi (br y10 (some (y4.snd == 3)) (some false)) (fun y11 =>
             .bi (br y11 (some (y5.fst == 5)) (some false)) (fun y12 =>
              .bi (br y12 (some (y5.snd == 0)) (some false)) (fun y13 =>
               .br (y13)
                (.bi (br (sm (f_u65q [AV.agg [AV.str [120], AV.int IntKind.i64 1], AV.agg [AV.str [120], AV.int IntKind.i64 1]]))
                    (some (gv (f_u65q [AV.agg [AV.str [120], AV.int IntKind.i64 1], AV.agg [AV.str [120], AV.int IntKind.i64 1]]) == 12)) none) (fun y14 =>
                 .at (y14))
                 (.no))
                (.at (false)))
               (.no))
              (.no))
             (.no))
            (.no))
           (.no))
          (.no))
         (.no))
        (.no))
       (.no))
      (.no))
     (.no))
    (.no))
   (.no))
  (.no)
noncomputable def f_u85q : Option B_u85q := lock (tr_u85q).ev
theorem f_u85q_eq : f_u85q = (tr_u85q).ev := lock_eq _
theorem c_u85q : FH IP 5 p_u85q r_u85q (fun (v : Unit) => (f_u85q : Option B_u85q)) := fun_FH (F := F5) (L := []) (t := fun (v : Unit) => tr_u85q) T52_ok (LOk_of (l := []) (by kernel_rfl) trivial) (by kernel_rfl) (fun v => by kernel_rfl) (fun v => f_u85q_eq)
noncomputable def T53 : Tab := (5, FE p_u85q r_u85q (fun (v : Unit) => (f_u85q : Option B_u85q))) :: T52
theorem T53_ok : TabOk IP T53 := ⟨FE_ok c_u85q, T52_ok⟩
abbrev B_u86q : Type := Bool
def p_u86q : PArgs := ⟨[.int .i64], []⟩
def r_u86q : List PRes := [⟨false, .bool, []⟩]
noncomputable def tr_u86q (x0 : Int) : DT B_u86q :=
 .bi (br (decide (x0 ≥ 1)) (some (decide (x0 ≤ 5))) (some false)) (fun y0 =>
  .at (y0))
  (.no)
noncomputable def f_u86q (x0 : Int) : Option B_u86q := lock (tr_u86q x0).ev
theorem f_u86q_eq (x0 : Int) : f_u86q x0 = (tr_u86q x0).ev := lock_eq _
theorem c_u86q : FH IP 12 p_u86q r_u86q (fun (v : Int) => (f_u86q v : Option B_u86q)) := fun_FH (F := F12) (L := []) (t := fun (v : Int) => tr_u86q v) T53_ok (LOk_of (l := []) (by kernel_rfl) trivial) (by kernel_rfl) (fun v => by kernel_rfl) (fun v => f_u86q_eq v)
noncomputable def T54 : Tab := (12, FE p_u86q r_u86q (fun (v : Int) => (f_u86q v : Option B_u86q))) :: T53
theorem T54_ok : TabOk IP T54 := ⟨FE_ok c_u86q, T53_ok⟩
abbrev TT_u44q : Type := Int × List AV × Int
def hs_u44q : List PSt := [⟨[(1000700, .junk), (0, .int .i64), (1, .view 1), (6, .int .i64)], [], 0, 0⟩]
noncomputable def x_u44q_0 (x0 : Int) (x1 : List AV) (x2 : Int) : X × St := (X.ret, { tm := [(0, AV.int IntKind.i64 x0), (1, AV.view 1 x1), (4, AV.int IntKind.i64 0), (5, AV.bool false)], hp := [], nx := 0, k := 0 })
noncomputable def x_u44q_1 (x0 : Int) (x1 : List AV) (x2 : Int) : X × St := (X.exit 0, { tm := [(0, AV.int IntKind.i64 x0), (1, AV.view 1 x1), (4, AV.junk), (5, AV.junk)], hp := [], nx := 0, k := 0 })
noncomputable def x_u44q : List (TT_u44q → X × St) := [fun w => x_u44q_0 w.1 w.2.1 w.2.2, fun w => x_u44q_1 w.1 w.2.1 w.2.2]
noncomputable def st_u44q_0 (x0 : Int) (x1 : List AV) (x2 : Int) : DT (Rd TT_u44q) :=
 .br (decide (x2 < (↑x1.length : Int)))
  (.br (okAt [CS.int IntKind.i64] x1 x2)
   (.bi (f_u86q (intOf (cellAt x1 x2 0))) (fun y0 =>
    .br (!y0) (.at (.done 0)) (.at (.next ((x0, x1, IntKind.i64.wrap (x2 + 1))))))
    (.no))
   (.no))
  (.at (.done 1))
noncomputable def st_u44q : TT_u44q → DT (Rd TT_u44q) := (fun v => st_u44q_0 v.1 v.2.1 v.2.2)
noncomputable def l_u44q (v : TT_u44q) : Option (Nat × TT_u44q) := lock (iterO (fun v => (st_u44q v).ev) v)
theorem l_u44q_eq (v : TT_u44q) : l_u44q v = iterO (fun v => (st_u44q v).ev) v := lock_eq _
noncomputable def ll_u44q : LEnt := LE (τ := TT_u44q) (hD hs_u44q) (l_u44q) x_u44q
theorem t_u44q : Go.Eng.Told IP (loopAt F7 0).1 (loopAt F7 0).2 (ll_u44q) := loop_LE (inferInstance : Inhabited TT_u44q) (hs := hs_u44q) (st := st_u44q) (L := []) T54_ok (LOk_of (l := []) (by kernel_rfl) trivial) (l_u44q_eq) (fun v => by kernel_rfl) (fun v => by kernel_rfl)
abbrev B_u70q : Type := Bool
def p_u70q : PArgs := ⟨[.int .i64], []⟩
def r_u70q : List PRes := [⟨false, .bool, []⟩]
noncomputable def tr_u70q (x0 : Int) : DT B_u70q :=
 .bi (br (x0 == 1) (some true) (some (x0 == 2))) (fun y0 =>
  .bi (br y0 (some true) (some (x0 == 3))) (fun y1 =>
   .at (y1))
   (.no))
  (.no)
noncomputable def f_u70q (x0 : Int) : Option B_u70q := lock (tr_u70q x0).ev
theorem f_u70q_eq (x0 : Int) : f_u70q x0 = (tr_u70q x0).ev := lock_eq _
theorem c_u70q : FH IP 22 p_u70q r_u70q (fun (v : Int) => (f_u70q v : Option B_u70q)) := fun_FH (F := F22) (L := []) (t := fun (v : Int) => tr_u70q v) T54_ok (LOk_of (l := []) (by kernel_rfl) trivial) (by kernel_rfl) (fun v => by kernel_rfl) (fun v => f_u70q_eq v)
noncomputable def T55 : Tab := (22, FE p_u70q r_u70q (fun (v : Int) => (f_u70q v : Option B_u70q))) :: T54
theorem T55_ok : TabOk IP T55 := ⟨FE_ok c_u70q, T54_ok⟩
abbrev B_u58q : Type := Int × Bool
def p_u58q : PArgs := ⟨[.int .i64, .int .i64], []⟩
def r_u58q : List PRes := [⟨false, .tup [.int .i64, .bool], []⟩]
noncomputable def tr_u58q (x0 : Int) (x1 : Int) : DT B_u58q :=
 .bi (f_u70q x0) (fun y0 =>
  .bi (br (!y0) (some true) (br (sm (f_u70q x1)) (some !gv (f_u70q x1)) none)) (fun y1 =>
   .br (y1)
    (.at ((0, false)))
    (.br (x0 == 1)
     (.at ((x1, true)))
     (.br (x1 == 1) (.at ((x0, true))) (.at ((2, x0 != x1))))))
   (.no))
  (.no)
noncomputable def f_u58q (x0 : Int) (x1 : Int) : Option B_u58q := lock (tr_u58q x0 x1).ev
theorem f_u58q_eq (x0 : Int) (x1 : Int) : f_u58q x0 x1 = (tr_u58q x0 x1).ev := lock_eq _
theorem c_u58q : FH IP 30 p_u58q r_u58q (fun (v : Int × Int) => (f_u58q v.1 v.2 : Option B_u58q)) := fun_FH (F := F30) (L := []) (t := fun (v : Int × Int) => tr_u58q v.1 v.2) T55_ok (LOk_of (l := []) (by kernel_rfl) trivial) (by kernel_rfl) (fun v => by kernel_rfl) (fun v => f_u58q_eq v.1 v.2)
noncomputable def T56 : Tab := (30, FE p_u58q r_u58q (fun (v : Int × Int) => (f_u58q v.1 v.2 : Option B_u58q))) :: T55
theorem T56_ok : TabOk IP T56 := ⟨FE_ok c_u58q, T55_ok⟩
abbrev B_u87q : Type := Int × Bool
def p_u87q : PArgs := ⟨[.int .i64, .int .i64, .int .i64], []⟩
def r_u87q : List PRes := [⟨false, .tup [.int .i64, .bool], []⟩]
noncomputable def tr_u87q (x0 : Int) (x1 : Int) (x2 : Int) : DT B_u87q :=
 .br (x0 == 5)
  (.br (x1 == 4)
   (.at ((x1, x2 == 1)))
   (.bi (br (x1 == x2) (br (sm (f_u70q x1)) (some (gv (f_u70q x1))) none) (some false)) (fun y0 =>
    .at ((x1, y0)))
    (.no)))
  (.br (x0 == 6)
   (.bi (br (x1 == 4) (some (x2 == 4)) (some false)) (fun y0 =>
    .br (y0)
     (.at ((1, true)))
     (.br (x1 == 4)
      (.at ((x1, x2 == 1)))
      (.bi (br (x1 == x2) (br (sm (f_u70q x1)) (some (gv (f_u70q x1))) none) (some false)) (fun y1 =>
       .at ((x1, y1)))
       (.no))))
    (.no))
   (.br (x0 == 7)
    (.bi (f_u58q x1 x2) (fun y0 =>
     .at ((y0.fst, y0.snd)))
     (.no))
    (.br (x0 == 8)
     (.bi (br (x1 == 2) (some (x2 == 2)) (some false)) (fun y0 =>
      .br (y0)
       (.at ((1, true)))
       (.bi (f_u70q x1) (fun y1 =>
        .bi (br y1 (some (x2 == 1)) (some false)) (fun y2 =>
         .at ((x1, y2)))
         (.no))
        (.no)))
      (.no))
     (.br (x0 == 10)
      (.br (x0 == 10)
       (.at ((5, x1 == x2)))
       (.br (x0 == 12)
        (.br (x0 == 12)
         (.bi (br (x1 == x2) (some (x1 != 5)) (some false)) (fun y0 =>
          .at ((5, y0)))
          (.no))
         (.br (x0 == 14)
          (.br (x0 == 14)
           (.bi (br (x1 == 5) (some (x2 == 5)) (some false)) (fun y0 =>
            .at ((5, y0)))
            (.no))
           (.br (x0 == 17)
            (.br (x0 == 17)
             (.bi (br (x1 == x2) (some (x1 != 5)) (some false)) (fun y0 =>
              .at ((x1, y0)))
              (.no))
             (.at ((0, false))))
            (.br (x0 == 18)
             (.bi (br (x1 == x2) (some (x1 != 5)) (some false)) (fun y0 =>
              .at ((x1, y0)))
              (.no))
             (.at ((0, false))))))
          (.br (x0 == 15)
           (.bi (br (x1 == 5) (some (x2 == 5)) (some false)) (fun y0 =>
            .at ((5, y0)))
            (.no))
           (.br (x0 == 17)
            (.br (x0 == 17)
             (.bi (br (x1 == x2) (some (x1 != 5)) (some false)) (fun y0 =>
              .at ((x1, y0)))
              (.no))
             (.at ((0, false))))
            (.br (x0 == 18)
             (.bi (br (x1 == x2) (some (x1 != 5)) (some false)) (fun y0 =>
              .at ((x1, y0)))
              (.no))
             (.at ((0, false))))))))
        (.br (x0 == 13)
         (.bi (br (x1 == x2) (some (x1 != 5)) (some false)) (fun y0 =>
          .at ((5, y0)))
          (.no))
         (.br (x0 == 14)
          (.br (x0 == 14)
           (.bi (br (x1 == 5) (some (x2 == 5)) (some false)) (fun y0 =>
            .at ((5, y0)))
            (.no))
           (.br (x0 == 17)
            (.br (x0 == 17)
             (.bi (br (x1 == x2) (some (x1 != 5)) (some false)) (fun y0 =>
              .at ((x1, y0)))
              (.no))
             (.at ((0, false))))
            (.br (x0 == 18)
             (.bi (br (x1 == x2) (some (x1 != 5)) (some false)) (fun y0 =>
              .at ((x1, y0)))
              (.no))
             (.at ((0, false))))))
          (.br (x0 == 15)
           (.bi (br (x1 == 5) (some (x2 == 5)) (some false)) (fun y0 =>
            .at ((5, y0)))
            (.no))
           (.br (x0 == 17)
            (.br (x0 == 17)
             (.bi (br (x1 == x2) (some (x1 != 5)) (some false)) (fun y0 =>
              .at ((x1, y0)))
              (.no))
             (.at ((0, false))))
            (.br (x0 == 18)
             (.bi (br (x1 == x2) (some (x1 != 5)) (some false)) (fun y0 =>
              .at ((x1, y0)))
              (.no))
             (.at ((0, false))))))))))
      (.br (x0 == 11)
       (.at ((5, x1 == x2)))
       (.br (x0 == 12)
        (.br (x0 == 12)
         (.bi (br (x1 == x2) (some (x1 != 5)) (some false)) (fun y0 =>
          .at ((5, y0)))
          (.no))
         (.br (x0 == 14)
          (.br (x0 == 14)
           (.bi (br (x1 == 5) (some (x2 == 5)) (some false)) (fun y0 =>
            .at ((5, y0)))
            (.no))
           (.br (x0 == 17)
            (.br (x0 == 17)
             (.bi (br (x1 == x2) (some (x1 != 5)) (some false)) (fun y0 =>
              .at ((x1, y0)))
              (.no))
             (.at ((0, false))))
            (.br (x0 == 18)
             (.bi (br (x1 == x2) (some (x1 != 5)) (some false)) (fun y0 =>
              .at ((x1, y0)))
              (.no))
             (.at ((0, false))))))
          (.br (x0 == 15)
           (.bi (br (x1 == 5) (some (x2 == 5)) (some false)) (fun y0 =>
            .at ((5, y0)))
            (.no))
           (.br (x0 == 17)
            (.br (x0 == 17)
             (.bi (br (x1 == x2) (some (x1 != 5)) (some false)) (fun y0 =>
              .at ((x1, y0)))
              (.no))
             (.at ((0, false))))
            (.br (x0 == 18)
             (.bi (br (x1 == x2) (some (x1 != 5)) (some false)) (fun y0 =>
              .at ((x1, y0)))
              (.no))
             (.at ((0, false))))))))
        (.br (x0 == 13)
         (.bi (br (x1 == x2) (some (x1 != 5)) (some false)) (fun y0 =>
          .at ((5, y0)))
          (.no))
         (.br (x0 == 14)
          (.br (x0 == 14)
           (.bi (br (x1 == 5) (some (x2 == 5)) (some false)) (fun y0 =>
            .at ((5, y0)))
            (.no))
           (.br (x0 == 17)
            (.br (x0 == 17)
             (.bi (br (x1 == x2) (some (x1 != 5)) (some false)) (fun y0 =>
              .at ((x1, y0)))
              (.no))
             (.at ((0, false))))
            (.br (x0 == 18)
             (.bi (br (x1 == x2) (some (x1 != 5)) (some false)) (fun y0 =>
              .at ((x1, y0)))
              (.no))
             (.at ((0, false))))))
          (.br (x0 == 15)
           (.bi (br (x1 == 5) (some (x2 == 5)) (some false)) (fun y0 =>
            .at ((5, y0)))
            (.no))
           (.br (x0 == 17)
            (.br (x0 == 17)
             (.bi (br (x1 == x2) (some (x1 != 5)) (some false)) (fun y0 =>
              .at ((x1, y0)))
              (.no))
             (.at ((0, false))))
            (.br (x0 == 18)
             (.bi (br (x1 == x2) (some (x1 != 5)) (some false)) (fun y0 =>
              .at ((x1, y0)))
              (.no))
             (.at ((0, false))))))))))))))
noncomputable def f_u87q (x0 : Int) (x1 : Int) (x2 : Int) : Option B_u87q := lock (tr_u87q x0 x1 x2).ev
theorem f_u87q_eq (x0 : Int) (x1 : Int) (x2 : Int) : f_u87q x0 x1 x2 = (tr_u87q x0 x1 x2).ev := lock_eq _
theorem c_u87q : FH IP 23 p_u87q r_u87q (fun (v : Int × Int × Int) => (f_u87q v.1 v.2.1 v.2.2 : Option B_u87q)) := fun_FH (F := F23) (L := []) (t := fun (v : Int × Int × Int) => tr_u87q v.1 v.2.1 v.2.2) T56_ok (LOk_of (l := []) (by kernel_rfl) trivial) (by kernel_rfl) (fun v => by kernel_rfl) (fun v => f_u87q_eq v.1 v.2.1 v.2.2)
noncomputable def T57 : Tab := (23, FE p_u87q r_u87q (fun (v : Int × Int × Int) => (f_u87q v.1 v.2.1 v.2.2 : Option B_u87q))) :: T56
theorem T57_ok : TabOk IP T57 := ⟨FE_ok c_u87q, T56_ok⟩
abbrev B_u69q : Type := Int × Bool
def p_u69q : PArgs := ⟨[.int .i64, .view 1], []⟩
def r_u69q : List PRes := [⟨false, .tup [.int .i64, .bool], []⟩]
noncomputable def tr_u69q (x0 : Int) (x1 : List AV) : DT B_u69q :=
 .bi (br (x0 == 9) (some ((↑x1.length : Int) == 1)) (some false)) (fun y0 =>
  .br (y0)
   (.br (okAt [CS.int IntKind.i64] x1 0)
    (.br (okAt [CS.int IntKind.i64] x1 0)
     (.bi (f_u70q (intOf (cellAt x1 0 0))) (fun y1 =>
      .at ((intOf (cellAt x1 0 0), y1)))
      (.no))
     (.no))
    (.no))
   (.bi (br (x0 == 16) (some ((↑x1.length : Int) == 1)) (some false)) (fun y1 =>
    .br (y1)
     (.br (okAt [CS.int IntKind.i64] x1 0) (.at ((5, intOf (cellAt x1 0 0) == 5))) (.no))
     (.bi (br (x0 == 19) (some ((↑x1.length : Int) == 3)) (some false)) (fun y2 =>
      .br (y2)
       (.br (okAt [CS.int IntKind.i64] x1 1)
        (.br (okAt [CS.int IntKind.i64] x1 0)
         (.br (intOf (cellAt x1 0 0) == 5)
          (.br (okAt [CS.int IntKind.i64] x1 1)
           (.br (okAt [CS.int IntKind.i64] x1 2) (.at ((intOf (cellAt x1 1 0), intOf (cellAt x1 1 0) == intOf (cellAt x1 2 0)))) (.no))
           (.no))
          (.at ((intOf (cellAt x1 1 0), false))))
         (.no))
        (.no))
       (.br ((↑x1.length : Int) == 2)
        (.br (okAt [CS.int IntKind.i64] x1 0)
         (.br (okAt [CS.int IntKind.i64] x1 1)
          (.bi (f_u87q x0 (intOf (cellAt x1 0 0)) (intOf (cellAt x1 1 0))) (fun y3 =>
           .at ((y3.fst, y3.snd)))
           (.no))
          (.no))
         (.no))
        (.at ((0, false)))))
      (.no)))
    (.no)))
  (.no)
noncomputable def f_u69q (x0 : Int) (x1 : List AV) : Option B_u69q := lock (tr_u69q x0 x1).ev
theorem f_u69q_eq (x0 : Int) (x1 : List AV) : f_u69q x0 x1 = (tr_u69q x0 x1).ev := lock_eq _
theorem c_u69q : FH IP 17 p_u69q r_u69q (fun (v : Int × List AV) => (f_u69q v.1 v.2 : Option B_u69q)) := fun_FH (F := F17) (L := []) (t := fun (v : Int × List AV) => tr_u69q v.1 v.2) T57_ok (LOk_of (l := []) (by kernel_rfl) trivial) (by kernel_rfl) (fun v => by kernel_rfl) (fun v => f_u69q_eq v.1 v.2)
noncomputable def T58 : Tab := (17, FE p_u69q r_u69q (fun (v : Int × List AV) => (f_u69q v.1 v.2 : Option B_u69q))) :: T57
theorem T58_ok : TabOk IP T58 := ⟨FE_ok c_u69q, T57_ok⟩
abbrev B_u68q : Type := Int × Bool
def p_u68q : PArgs := ⟨[.int .i64, .view 1], []⟩
def r_u68q : List PRes := [⟨false, .tup [.int .i64, .bool], []⟩]
noncomputable def tr_u68q (x0 : Int) (x1 : List AV) : DT B_u68q :=
 .br (decide ((↑x1.length : Int) > 3))
  (.at ((0, false)))
  (.bi (pj 0 (l_u44q (x0, x1, 0))) (fun y0 =>
   .at ((0, false)))
   (.bi (pj 1 (l_u44q (x0, x1, 0))) (fun y0 =>
    .bi (f_u69q y0.fst y0.snd.fst) (fun y1 =>
     .br (!y1.snd) (.at ((0, false))) (.at ((y1.fst, true))))
     (.no))
    (.no)))
noncomputable def f_u68q (x0 : Int) (x1 : List AV) : Option B_u68q := lock (tr_u68q x0 x1).ev
theorem f_u68q_eq (x0 : Int) (x1 : List AV) : f_u68q x0 x1 = (tr_u68q x0 x1).ev := lock_eq _
theorem c_u68q : FH IP 7 p_u68q r_u68q (fun (v : Int × List AV) => (f_u68q v.1 v.2 : Option B_u68q)) := fun_FH (F := F7) (L := [(1000700, ll_u44q)]) (t := fun (v : Int × List AV) => tr_u68q v.1 v.2) T58_ok (LOk_of (l := [loopAt F7 0]) (by kernel_rfl) ⟨sel_one (by kernel_rfl) t_u44q, trivial⟩) (by kernel_rfl) (fun v => by kernel_rfl) (fun v => f_u68q_eq v.1 v.2)
noncomputable def T59 : Tab := (7, FE p_u68q r_u68q (fun (v : Int × List AV) => (f_u68q v.1 v.2 : Option B_u68q))) :: T58
theorem T59_ok : TabOk IP T59 := ⟨FE_ok c_u68q, T58_ok⟩
abbrev B_u14q : Type := Bool
def p_u14q : PArgs := ⟨[.int .i64, .view 1], []⟩
def r_u14q : List PRes := [⟨false, .bool, []⟩]
noncomputable def tr_u14q (x0 : Int) (x1 : List AV) : DT B_u14q :=
 .br (decide ((↑x1.length : Int) > 100))
  (.bi (f_u85q) (fun y0 =>
   .at (y0))
   (.no))
  (.bi (f_u39q x0 x1) (fun y0 =>
   .bi (f_u68q x0 x1) (fun y1 =>
    .bi (br (y0.fst == y1.fst) (some (if false = true then !y0.snd == y1.snd else y0.snd == y1.snd)) (some false)) (fun y2 =>
     .bi (br y2 (br (sm f_u85q) (some (gv f_u85q)) none) (some false)) (fun y3 =>
      .at (y3))
      (.no))
     (.no))
    (.no))
   (.no))
noncomputable def f_u14q (x0 : Int) (x1 : List AV) : Option B_u14q := lock (tr_u14q x0 x1).ev
theorem f_u14q_eq (x0 : Int) (x1 : List AV) : f_u14q x0 x1 = (tr_u14q x0 x1).ev := lock_eq _
theorem c_u14q : FH IP 3 p_u14q r_u14q (fun (v : Int × List AV) => (f_u14q v.1 v.2 : Option B_u14q)) := fun_FH (F := F3) (L := []) (t := fun (v : Int × List AV) => tr_u14q v.1 v.2) T59_ok (LOk_of (l := []) (by kernel_rfl) trivial) (by kernel_rfl) (fun v => by kernel_rfl) (fun v => f_u14q_eq v.1 v.2)
noncomputable def T60 : Tab := (3, FE p_u14q r_u14q (fun (v : Int × List AV) => (f_u14q v.1 v.2 : Option B_u14q))) :: T59
theorem T60_ok : TabOk IP T60 := ⟨FE_ok c_u14q, T59_ok⟩
abbrev B_u82q : Type := Int
def p_u82q : PArgs := ⟨[.agg [.int .i64, .int .i64, .str, .view 4], .int .i64], []⟩
def r_u82q : List PRes := [⟨false, .int .i64, []⟩]
abbrev GT_u82q : Type := Int → Int → (List UInt8) → (List AV) → Int → Option B_u82q
def GH_u82q (G_u82q : GT_u82q) : Prop := FH IP 18 p_u82q r_u82q (fun (v : Int × Int × List UInt8 × List AV × Int) => (G_u82q v.1 v.2.1 v.2.2.1 v.2.2.2.1 v.2.2.2.2 : Option B_u82q))
noncomputable def TG_u82q (G_u82q : GT_u82q) : Tab := (18, FE p_u82q r_u82q (fun (v : Int × Int × List UInt8 × List AV × Int) => (G_u82q v.1 v.2.1 v.2.2.1 v.2.2.2.1 v.2.2.2.2 : Option B_u82q))) :: T60
theorem TG_u82q_ok (G_u82q : GT_u82q) (hG : GH_u82q G_u82q) : TabOk IP (TG_u82q G_u82q) := ⟨FE_ok (hG), T60_ok⟩
abbrev TT_u57q : Type := Int × Int × Int × Int × Int × List UInt8 × List AV
def hs_u57q : List PSt := [⟨[(1001800, .junk), (1, .int .i64), (2, .ref 0 0 0), (5, .int .i64), (6, .int .i64)], [(0, .box [.int .i64, .int .i64, .str, .view 4] false)], 1, 0⟩]
noncomputable def x_u57q_0 (x0 : Int) (x1 : Int) (x2 : Int) (x3 : Int) (x4 : Int) (x5 : List UInt8) (x6 : List AV) : X × St := (X.exit 0, { tm := [(5, AV.int IntKind.i64 x1)], hp := [], nx := 0, k := 0 })
noncomputable def x_u57q : List (TT_u57q → X × St) := [fun w => x_u57q_0 w.1 w.2.1 w.2.2.1 w.2.2.2.1 w.2.2.2.2.1 w.2.2.2.2.2.1 w.2.2.2.2.2.2]
noncomputable def st_u57q_0 (G_u82q : GT_u82q) (x0 : Int) (x1 : Int) (x2 : Int) (x3 : Int) (x4 : Int) (x5 : List UInt8) (x6 : List AV) : DT (Rd TT_u57q) :=
 .bi (br (decide (x2 < (↑x6.length : Int))) (some (decide (x1 ≤ x0))) (some false)) (fun y0 =>
  .br (y0)
   (.br (okAt [CS.int IntKind.i64, CS.int IntKind.i64, CS.str, CS.slice 4] x6 x2)
    (.bi (G_u82q (intOf (cellAt x6 x2 0)) (intOf (cellAt x6 x2 1)) (strOf (cellAt x6 x2 2)) (viewOf (cellAt x6 x2 3)) (IntKind.i64.wrap (x0 - x1))) (fun y1 =>
     .at (.next ((x0, IntKind.i64.wrap (x1 + y1), IntKind.i64.wrap (x2 + 1), x3, x4, x5, x6))))
     (.no))
    (.no))
   (.at (.done 0)))
  (.no)
noncomputable def st_u57q (G_u82q : GT_u82q) : TT_u57q → DT (Rd TT_u57q) := (fun v => st_u57q_0 G_u82q v.1 v.2.1 v.2.2.1 v.2.2.2.1 v.2.2.2.2.1 v.2.2.2.2.2.1 v.2.2.2.2.2.2)
noncomputable def l_u57q (G_u82q : GT_u82q) (v : TT_u57q) : Option (Nat × TT_u57q) := lock (iterO (fun v => (st_u57q G_u82q v).ev) v)
theorem l_u57q_eq (G_u82q : GT_u82q) (v : TT_u57q) : l_u57q G_u82q v = iterO (fun v => (st_u57q G_u82q v).ev) v := lock_eq _
noncomputable def ll_u57q (G_u82q : GT_u82q) : LEnt := LE (τ := TT_u57q) (hD hs_u57q) (l_u57q G_u82q) x_u57q
theorem t_u57q (G_u82q : GT_u82q) (hG : GH_u82q G_u82q) : Go.Eng.Told IP (loopAt F18 0).1 (loopAt F18 0).2 (ll_u57q G_u82q) := loop_LE (inferInstance : Inhabited TT_u57q) (hs := hs_u57q) (st := st_u57q G_u82q) (L := []) (TG_u82q_ok G_u82q hG) (LOk_of (l := []) (by kernel_rfl) trivial) (l_u57q_eq G_u82q) (fun v => by kernel_rfl) (fun v => by kernel_rfl)
noncomputable def tr_u82q (G_u82q : GT_u82q) (x0 : Int) (x1 : Int) (x2 : List UInt8) (x3 : List AV) (x4 : Int) : DT B_u82q :=
 .bi (pj 0 (l_u57q G_u82q (x4, 1, 0, x0, x1, x2, x3))) (fun y0 =>
  .at (y0.snd.fst))
  (.no)
noncomputable def N_u82q : Nat → GT_u82q
  | 0 => fun _ _ _ _ _ => none
  | n + 1 => fun x0 x1 x2 x3 x4 => (tr_u82q ((N_u82q n)) x0 x1 x2 x3 x4).ev
noncomputable def f_u82q (x0 : Int) (x1 : Int) (x2 : List UInt8) (x3 : List AV) (x4 : Int) : Option B_u82q := limO fun n => (N_u82q n) x0 x1 x2 x3 x4
theorem N_u82q_ok : ∀ n, GH_u82q ((N_u82q n))
  | 0 => (fun v y h => nomatch h)
  | n + 1 => have hG := N_u82q_ok n
    fun_FH (F := F18) (L := [(1001800, ll_u57q ((N_u82q n)))]) (t := fun (v : Int × Int × List UInt8 × List AV × Int) => tr_u82q ((N_u82q n)) v.1 v.2.1 v.2.2.1 v.2.2.2.1 v.2.2.2.2) (TG_u82q_ok ((N_u82q n)) hG) (LOk_of (l := [loopAt F18 0]) (by kernel_rfl) ⟨sel_one (by kernel_rfl) (t_u57q ((N_u82q n)) hG), trivial⟩) (by kernel_rfl) (fun v => by kernel_rfl) (fun v => rfl)
theorem c_u82q : FH IP 18 p_u82q r_u82q (fun (v : Int × Int × List UInt8 × List AV × Int) => (f_u82q v.1 v.2.1 v.2.2.1 v.2.2.2.1 v.2.2.2.2 : Option B_u82q)) := lim_FH (p := p_u82q) (rs := r_u82q) (s := fun n (v : Int × Int × List UInt8 × List AV × Int) => (N_u82q n) v.1 v.2.1 v.2.2.1 v.2.2.2.1 v.2.2.2.2) fun n => (N_u82q_ok n)
noncomputable def T61 : Tab := (18, FE p_u82q r_u82q (fun (v : Int × Int × List UInt8 × List AV × Int) => (f_u82q v.1 v.2.1 v.2.2.1 v.2.2.2.1 v.2.2.2.2 : Option B_u82q))) :: T60
theorem T61_ok : TabOk IP T61 := ⟨FE_ok c_u82q, T60_ok⟩
abbrev B_u81q : Type := Bool
def p_u81q : PArgs := ⟨[.agg [.int .i64, .int .i64, .str, .view 4], .int .i64], []⟩
def r_u81q : List PRes := [⟨false, .bool, []⟩]
noncomputable def tr_u81q (x0 : Int) (x1 : Int) (x2 : List UInt8) (x3 : List AV) (x4 : Int) : DT B_u81q :=
 .bi (f_u82q x0 x1 x2 x3 x4) (fun y0 =>
  .at (decide (y0 > x4)))
  (.no)
noncomputable def f_u81q (x0 : Int) (x1 : Int) (x2 : List UInt8) (x3 : List AV) (x4 : Int) : Option B_u81q := lock (tr_u81q x0 x1 x2 x3 x4).ev
theorem f_u81q_eq (x0 : Int) (x1 : Int) (x2 : List UInt8) (x3 : List AV) (x4 : Int) : f_u81q x0 x1 x2 x3 x4 = (tr_u81q x0 x1 x2 x3 x4).ev := lock_eq _
theorem c_u81q : FH IP 8 p_u81q r_u81q (fun (v : Int × Int × List UInt8 × List AV × Int) => (f_u81q v.1 v.2.1 v.2.2.1 v.2.2.2.1 v.2.2.2.2 : Option B_u81q)) := fun_FH (F := F8) (L := []) (t := fun (v : Int × Int × List UInt8 × List AV × Int) => tr_u81q v.1 v.2.1 v.2.2.1 v.2.2.2.1 v.2.2.2.2) T61_ok (LOk_of (l := []) (by kernel_rfl) trivial) (by kernel_rfl) (fun v => by kernel_rfl) (fun v => f_u81q_eq v.1 v.2.1 v.2.2.1 v.2.2.2.1 v.2.2.2.2)
noncomputable def T62 : Tab := (8, FE p_u81q r_u81q (fun (v : Int × Int × List UInt8 × List AV × Int) => (f_u81q v.1 v.2.1 v.2.2.1 v.2.2.2.1 v.2.2.2.2 : Option B_u81q))) :: T61
theorem T62_ok : TabOk IP T62 := ⟨FE_ok c_u81q, T61_ok⟩
abbrev TT_u56q : Type := List AV × Int
def hs_u56q : List PSt := [⟨[(1000900, .junk), (0, .view 2), (3, .int .i64)], [], 0, 0⟩]
noncomputable def x_u56q_0 (x0 : List AV) (x1 : Int) : X × St := (X.ret, { tm := [(0, AV.view 2 x0), (2, AV.bool false)], hp := [], nx := 0, k := 0 })
noncomputable def x_u56q_1 (x0 : List AV) (x1 : Int) : X × St := (X.exit 0, { tm := [(0, AV.view 2 x0), (2, AV.junk)], hp := [], nx := 0, k := 0 })
noncomputable def x_u56q : List (TT_u56q → X × St) := [fun w => x_u56q_0 w.1 w.2, fun w => x_u56q_1 w.1 w.2]
noncomputable def st_u56q_0 (x0 : List AV) (x1 : Int) : DT (Rd TT_u56q) :=
 .bi (br (decide (x1 < (↑x0.length : Int))) (some (decide (x1 < 101))) (some false)) (fun y0 =>
  .br (y0)
   (.br (okAt [CS.str, CS.int IntKind.i64] x0 x1)
    (.br (decide ((↑(strOf (cellAt x0 x1 0)).length : Int) > 100)) (.at (.done 0)) (.at (.next ((x0, IntKind.i64.wrap (x1 + 1))))))
    (.no))
   (.at (.done 1)))
  (.no)
noncomputable def st_u56q : TT_u56q → DT (Rd TT_u56q) := (fun v => st_u56q_0 v.1 v.2)
noncomputable def l_u56q (v : TT_u56q) : Option (Nat × TT_u56q) := lock (iterO (fun v => (st_u56q v).ev) v)
theorem l_u56q_eq (v : TT_u56q) : l_u56q v = iterO (fun v => (st_u56q v).ev) v := lock_eq _
noncomputable def ll_u56q : LEnt := LE (τ := TT_u56q) (hD hs_u56q) (l_u56q) x_u56q
theorem t_u56q : Go.Eng.Told IP (loopAt F9 0).1 (loopAt F9 0).2 (ll_u56q) := loop_LE (inferInstance : Inhabited TT_u56q) (hs := hs_u56q) (st := st_u56q) (L := []) T62_ok (LOk_of (l := []) (by kernel_rfl) trivial) (l_u56q_eq) (fun v => by kernel_rfl) (fun v => by kernel_rfl)
abbrev B_u80q : Type := Bool
def p_u80q : PArgs := ⟨[.view 2], []⟩
def r_u80q : List PRes := [⟨false, .bool, []⟩]
noncomputable def tr_u80q (x0 : List AV) : DT B_u80q :=
 .bi (pj 0 (l_u56q (x0, 0))) (fun y0 =>
  .at (false))
  (.bi (pj 1 (l_u56q (x0, 0))) (fun y0 =>
   .at (decide ((↑y0.fst.length : Int) ≤ 100)))
   (.no))
noncomputable def f_u80q (x0 : List AV) : Option B_u80q := lock (tr_u80q x0).ev
theorem f_u80q_eq (x0 : List AV) : f_u80q x0 = (tr_u80q x0).ev := lock_eq _
theorem c_u80q : FH IP 9 p_u80q r_u80q (fun (v : List AV) => (f_u80q v : Option B_u80q)) := fun_FH (F := F9) (L := [(1000900, ll_u56q)]) (t := fun (v : List AV) => tr_u80q v) T62_ok (LOk_of (l := [loopAt F9 0]) (by kernel_rfl) ⟨sel_one (by kernel_rfl) t_u56q, trivial⟩) (by kernel_rfl) (fun v => by kernel_rfl) (fun v => f_u80q_eq v)
noncomputable def T63 : Tab := (9, FE p_u80q r_u80q (fun (v : List AV) => (f_u80q v : Option B_u80q))) :: T62
theorem T63_ok : TabOk IP T63 := ⟨FE_ok c_u80q, T62_ok⟩
abbrev TT_u43q : Type := List AV × Int × Int × Int × Int × List UInt8 × List AV × Int × Int × List UInt8
def hs_u43q : List PSt := [⟨[(1001101, .junk), (1, .view 2), (2, .int .i64), (3, .ref 0 0 0), (6, .ref 1 0 0), (9, .int .i64)], [(0, .box [.int .i64, .int .i64, .str, .view 4] false), (1, .box [.int .i64, .int .i64, .str, .nils 4] false)], 2, 0⟩]
noncomputable def x_u43q_0 (x0 : List AV) (x1 : Int) (x2 : Int) (x3 : Int) (x4 : Int) (x5 : List UInt8) (x6 : List AV) (x7 : Int) (x8 : Int) (x9 : List UInt8) : X × St := (X.ret,
  { tm := [(3, AV.ref 0 0 0), (6, AV.ref 1 0 0)],
    hp :=
      [(0, Blk.box [AV.int IntKind.i64 x3, AV.int IntKind.i64 x4, AV.str x5, AV.view 4 x6] false),
        (1, Blk.box [AV.int IntKind.i64 1, AV.int IntKind.i64 x1, AV.str [], AV.nils { sz := 4, kd := NKd.nil }] false)],
    nx := 2, k := 0 })
noncomputable def x_u43q_1 (x0 : List AV) (x1 : Int) (x2 : Int) (x3 : Int) (x4 : Int) (x5 : List UInt8) (x6 : List AV) (x7 : Int) (x8 : Int) (x9 : List UInt8) : X × St := (X.ret,
  { tm := [(3, AV.ref 0 0 0), (6, AV.ref 1 0 0)],
    hp :=
      [(0, Blk.box [AV.int IntKind.i64 x3, AV.int IntKind.i64 x4, AV.str x5, AV.view 4 x6] false),
        (1, Blk.box [AV.int IntKind.i64 2, AV.int IntKind.i64 x1, AV.str [], AV.nils { sz := 4, kd := NKd.nil }] false)],
    nx := 2, k := 0 })
noncomputable def x_u43q_2 (x0 : List AV) (x1 : Int) (x2 : Int) (x3 : Int) (x4 : Int) (x5 : List UInt8) (x6 : List AV) (x7 : Int) (x8 : Int) (x9 : List UInt8) : X × St := (X.ret,
  { tm := [(3, AV.ref 0 0 0), (6, AV.ref 1 0 0)],
    hp :=
      [(0, Blk.box [AV.int IntKind.i64 x3, AV.int IntKind.i64 x4, AV.str x5, AV.view 4 x6] false),
        (1, Blk.box [AV.int IntKind.i64 3, AV.int IntKind.i64 x1, AV.str [], AV.nils { sz := 4, kd := NKd.nil }] false)],
    nx := 2, k := 0 })
noncomputable def x_u43q_3 (x0 : List AV) (x1 : Int) (x2 : Int) (x3 : Int) (x4 : Int) (x5 : List UInt8) (x6 : List AV) (x7 : Int) (x8 : Int) (x9 : List UInt8) : X × St := (X.ret,
  { tm := [(3, AV.ref 0 0 0), (6, AV.ref 1 0 0)],
    hp :=
      [(0, Blk.box [AV.int IntKind.i64 x3, AV.int IntKind.i64 x4, AV.str x5, AV.view 4 x6] false),
        (1, Blk.box [AV.int IntKind.i64 x3, AV.int IntKind.i64 x4, AV.str x5, AV.view 4 x6] false)],
    nx := 2, k := 0 })
noncomputable def x_u43q_4 (x0 : List AV) (x1 : Int) (x2 : Int) (x3 : Int) (x4 : Int) (x5 : List UInt8) (x6 : List AV) (x7 : Int) (x8 : Int) (x9 : List UInt8) : X × St := (X.exit 2,
  { tm := [(3, AV.ref 0 0 0), (6, AV.ref 1 0 0)],
    hp :=
      [(0, Blk.box [AV.int IntKind.i64 x3, AV.int IntKind.i64 x4, AV.str x5, AV.view 4 x6] false),
        (1, Blk.box [AV.int IntKind.i64 x7, AV.int IntKind.i64 x8, AV.str x9, AV.nils { sz := 4, kd := NKd.nil }] false)],
    nx := 2, k := 0 })
noncomputable def x_u43q : List (TT_u43q → X × St) := [fun w => x_u43q_0 w.1 w.2.1 w.2.2.1 w.2.2.2.1 w.2.2.2.2.1 w.2.2.2.2.2.1 w.2.2.2.2.2.2.1 w.2.2.2.2.2.2.2.1 w.2.2.2.2.2.2.2.2.1 w.2.2.2.2.2.2.2.2.2, fun w => x_u43q_1 w.1 w.2.1 w.2.2.1 w.2.2.2.1 w.2.2.2.2.1 w.2.2.2.2.2.1 w.2.2.2.2.2.2.1 w.2.2.2.2.2.2.2.1 w.2.2.2.2.2.2.2.2.1 w.2.2.2.2.2.2.2.2.2, fun w => x_u43q_2 w.1 w.2.1 w.2.2.1 w.2.2.2.1 w.2.2.2.2.1 w.2.2.2.2.2.1 w.2.2.2.2.2.2.1 w.2.2.2.2.2.2.2.1 w.2.2.2.2.2.2.2.2.1 w.2.2.2.2.2.2.2.2.2, fun w => x_u43q_3 w.1 w.2.1 w.2.2.1 w.2.2.2.1 w.2.2.2.2.1 w.2.2.2.2.2.1 w.2.2.2.2.2.2.1 w.2.2.2.2.2.2.2.1 w.2.2.2.2.2.2.2.2.1 w.2.2.2.2.2.2.2.2.2, fun w => x_u43q_4 w.1 w.2.1 w.2.2.1 w.2.2.2.1 w.2.2.2.2.1 w.2.2.2.2.2.1 w.2.2.2.2.2.2.1 w.2.2.2.2.2.2.2.1 w.2.2.2.2.2.2.2.2.1 w.2.2.2.2.2.2.2.2.2]
noncomputable def st_u43q_0 (x0 : List AV) (x1 : Int) (x2 : Int) (x3 : Int) (x4 : Int) (x5 : List UInt8) (x6 : List AV) (x7 : Int) (x8 : Int) (x9 : List UInt8) : DT (Rd TT_u43q) :=
 .br (decide (x2 < (↑x0.length : Int)))
  (.br (okAt [CS.str, CS.int IntKind.i64] x0 x2)
   (.br (!strOf (cellAt x0 x2 0) == x5)
    (.at (.next ((x0, x1, IntKind.i64.wrap (x2 + 1), x3, x4, x5, x6, x7, x8, x9))))
    (.br (okAt [CS.str, CS.int IntKind.i64] x0 x2)
     (.br (intOf (cellAt x0 x2 1) == 1)
      (.at (.done 0))
      (.br (intOf (cellAt x0 x2 1) == 2)
       (.at (.done 1))
       (.br (intOf (cellAt x0 x2 1) == 3) (.at (.done 2)) (.at (.done 3)))))
     (.no)))
   (.no))
  (.at (.done 4))
noncomputable def st_u43q : TT_u43q → DT (Rd TT_u43q) := (fun v => st_u43q_0 v.1 v.2.1 v.2.2.1 v.2.2.2.1 v.2.2.2.2.1 v.2.2.2.2.2.1 v.2.2.2.2.2.2.1 v.2.2.2.2.2.2.2.1 v.2.2.2.2.2.2.2.2.1 v.2.2.2.2.2.2.2.2.2)
noncomputable def l_u43q (v : TT_u43q) : Option (Nat × TT_u43q) := lock (iterO (fun v => (st_u43q v).ev) v)
theorem l_u43q_eq (v : TT_u43q) : l_u43q v = iterO (fun v => (st_u43q v).ev) v := lock_eq _
noncomputable def ll_u43q : LEnt := LE (τ := TT_u43q) (hD hs_u43q) (l_u43q) x_u43q
theorem t_u43q : Go.Eng.Told IP (loopAt F11 1).1 (loopAt F11 1).2 (ll_u43q) := loop_LE (inferInstance : Inhabited TT_u43q) (hs := hs_u43q) (st := st_u43q) (L := []) T63_ok (LOk_of (l := []) (by kernel_rfl) trivial) (l_u43q_eq) (fun v => by kernel_rfl) (fun v => by kernel_rfl)
abbrev B_u67q : Type := Int × Int × List UInt8 × List AV
def p_u67q : PArgs := ⟨[.agg [.int .i64, .int .i64, .str, .view 4], .view 2, .int .i64], []⟩
def r_u67q : List PRes := [⟨false, .agg [.int .i64, .int .i64, .str, .view 4], []⟩]
abbrev GT_u67q : Type := Int → Int → (List UInt8) → (List AV) → (List AV) → Int → Option B_u67q
def GH_u67q (G_u67q : GT_u67q) : Prop := FH IP 11 p_u67q r_u67q (fun (v : Int × Int × List UInt8 × List AV × List AV × Int) => (G_u67q v.1 v.2.1 v.2.2.1 v.2.2.2.1 v.2.2.2.2.1 v.2.2.2.2.2 : Option B_u67q))
noncomputable def TG_u67q (G_u67q : GT_u67q) : Tab := (11, FE p_u67q r_u67q (fun (v : Int × Int × List UInt8 × List AV × List AV × Int) => (G_u67q v.1 v.2.1 v.2.2.1 v.2.2.2.1 v.2.2.2.2.1 v.2.2.2.2.2 : Option B_u67q))) :: T63
theorem TG_u67q_ok (G_u67q : GT_u67q) (hG : GH_u67q G_u67q) : TabOk IP (TG_u67q G_u67q) := ⟨FE_ok (hG), T63_ok⟩
abbrev TT_u42q : Type := (List AV × Int × Int × Int × Int × List UInt8 × List AV × Int × Int × List UInt8 × Int × Int × List UInt8) ⊕ (List AV × Int × Int × Int × Int × List UInt8 × List AV × Int × Int × List UInt8 × Int × Int × List UInt8 × List AV)
def hs_u42q : List PSt := [⟨[(1001100, .junk), (1, .view 2), (2, .int .i64), (3, .ref 0 0 0), (6, .ref 1 0 0), (7, .ref 2 0 0), (8, .int .i64)], [(0, .box [.int .i64, .int .i64, .str, .view 4] false), (1, .box [.int .i64, .int .i64, .str, .nils 4] false), (2, .box [.int .i64, .int .i64, .str, .nils 4] false)], 3, 0⟩, ⟨[(1001100, .junk), (1, .view 2), (2, .int .i64), (3, .ref 0 0 0), (6, .ref 1 0 0), (7, .ref 2 0 0), (8, .int .i64)], [(0, .box [.int .i64, .int .i64, .str, .view 4] false), (1, .box [.int .i64, .int .i64, .str, .nils 4] false), (2, .box [.int .i64, .int .i64, .str, .own 3 0] false), (3, .arr 4 false)], 4, 0⟩]
noncomputable def x_u42q_0 (x0 : List AV) (x1 : Int) (x2 : Int) (x3 : Int) (x4 : Int) (x5 : List UInt8) (x6 : List AV) (x7 : Int) (x8 : Int) (x9 : List UInt8) (x10 : Int) (x11 : Int) (x12 : List UInt8) : X × St := (X.exit 0,
  { tm := [(6, AV.ref 0 0 0), (7, AV.ref 1 0 0)],
    hp :=
      [(0, Blk.box [AV.int IntKind.i64 x7, AV.int IntKind.i64 x8, AV.str x9, AV.nils { sz := 4, kd := NKd.nil }] false),
        (1, Blk.box [AV.int IntKind.i64 x10, AV.int IntKind.i64 x11, AV.str x12, AV.nils { sz := 4, kd := NKd.nil }] false)],
    nx := 2, k := 0 })
noncomputable def x_u42q_1 (x0 : List AV) (x1 : Int) (x2 : Int) (x3 : Int) (x4 : Int) (x5 : List UInt8) (x6 : List AV) (x7 : Int) (x8 : Int) (x9 : List UInt8) (x10 : Int) (x11 : Int) (x12 : List UInt8) (x13 : List AV) : X × St := (X.exit 0,
  { tm := [(6, AV.ref 0 0 0), (7, AV.ref 1 0 0)],
    hp :=
      [(0, Blk.box [AV.int IntKind.i64 x7, AV.int IntKind.i64 x8, AV.str x9, AV.nils { sz := 4, kd := NKd.nil }] false),
        (1, Blk.box [AV.int IntKind.i64 x10, AV.int IntKind.i64 x11, AV.str x12, AV.own 2 0 none] false), (2, Blk.arr 4 x13 false)],
    nx := 3, k := 0 })
noncomputable def x_u42q : List (TT_u42q → X × St) := [fun w => x_u42q_0 (sl w).1 (sl w).2.1 (sl w).2.2.1 (sl w).2.2.2.1 (sl w).2.2.2.2.1 (sl w).2.2.2.2.2.1 (sl w).2.2.2.2.2.2.1 (sl w).2.2.2.2.2.2.2.1 (sl w).2.2.2.2.2.2.2.2.1 (sl w).2.2.2.2.2.2.2.2.2.1 (sl w).2.2.2.2.2.2.2.2.2.2.1 (sl w).2.2.2.2.2.2.2.2.2.2.2.1 (sl w).2.2.2.2.2.2.2.2.2.2.2.2, fun w => x_u42q_1 (sr w).1 (sr w).2.1 (sr w).2.2.1 (sr w).2.2.2.1 (sr w).2.2.2.2.1 (sr w).2.2.2.2.2.1 (sr w).2.2.2.2.2.2.1 (sr w).2.2.2.2.2.2.2.1 (sr w).2.2.2.2.2.2.2.2.1 (sr w).2.2.2.2.2.2.2.2.2.1 (sr w).2.2.2.2.2.2.2.2.2.2.1 (sr w).2.2.2.2.2.2.2.2.2.2.2.1 (sr w).2.2.2.2.2.2.2.2.2.2.2.2.1 (sr w).2.2.2.2.2.2.2.2.2.2.2.2.2]
noncomputable def st_u42q_0 (G_u67q : GT_u67q) (x0 : List AV) (x1 : Int) (x2 : Int) (x3 : Int) (x4 : Int) (x5 : List UInt8) (x6 : List AV) (x7 : Int) (x8 : Int) (x9 : List UInt8) (x10 : Int) (x11 : Int) (x12 : List UInt8) : DT (Rd TT_u42q) :=
 .br (decide (x2 < (↑x6.length : Int)))
  (.br (okAt [CS.int IntKind.i64, CS.int IntKind.i64, CS.str, CS.slice 4] x6 x2)
   (.bi (G_u67q (intOf (cellAt x6 x2 0)) (intOf (cellAt x6 x2 1)) (strOf (cellAt x6 x2 2)) (viewOf (cellAt x6 x2 3)) x0 x1) (fun y0 =>
    .at (.next ((.inr (x0, x1, IntKind.i64.wrap (x2 + 1), x3, x4, x5, x6, x7, x8, x9, x10, x11, x12, [AV.agg [AV.int IntKind.i64 y0.fst, AV.int IntKind.i64 y0.snd.fst, AV.str y0.snd.snd.fst, AV.view 4 y0.snd.snd.snd]])))))
    (.no))
   (.no))
  (.at (.done 0))
noncomputable def st_u42q_1 (G_u67q : GT_u67q) (x0 : List AV) (x1 : Int) (x2 : Int) (x3 : Int) (x4 : Int) (x5 : List UInt8) (x6 : List AV) (x7 : Int) (x8 : Int) (x9 : List UInt8) (x10 : Int) (x11 : Int) (x12 : List UInt8) (x13 : List AV) : DT (Rd TT_u42q) :=
 .br (decide (x2 < (↑x6.length : Int)))
  (.br (okAt [CS.int IntKind.i64, CS.int IntKind.i64, CS.str, CS.slice 4] x6 x2)
   (.bi (G_u67q (intOf (cellAt x6 x2 0)) (intOf (cellAt x6 x2 1)) (strOf (cellAt x6 x2 2)) (viewOf (cellAt x6 x2 3)) x0 x1) (fun y0 =>
    .br (room (x13.length + 1) 56)
     (.at (.next ((.inr (x0, x1, IntKind.i64.wrap (x2 + 1), x3, x4, x5, x6, x7, x8, x9, x10, x11, x12, x13 ++ [AV.agg [AV.int IntKind.i64 y0.fst, AV.int IntKind.i64 y0.snd.fst, AV.str y0.snd.snd.fst, AV.view 4 y0.snd.snd.snd]])))))
     (.no))
    (.no))
   (.no))
  (.at (.done 1))
noncomputable def st_u42q (G_u67q : GT_u67q) : TT_u42q → DT (Rd TT_u42q) := (Sum.elim (fun v => st_u42q_0 G_u67q v.1 v.2.1 v.2.2.1 v.2.2.2.1 v.2.2.2.2.1 v.2.2.2.2.2.1 v.2.2.2.2.2.2.1 v.2.2.2.2.2.2.2.1 v.2.2.2.2.2.2.2.2.1 v.2.2.2.2.2.2.2.2.2.1 v.2.2.2.2.2.2.2.2.2.2.1 v.2.2.2.2.2.2.2.2.2.2.2.1 v.2.2.2.2.2.2.2.2.2.2.2.2) (fun v => st_u42q_1 G_u67q v.1 v.2.1 v.2.2.1 v.2.2.2.1 v.2.2.2.2.1 v.2.2.2.2.2.1 v.2.2.2.2.2.2.1 v.2.2.2.2.2.2.2.1 v.2.2.2.2.2.2.2.2.1 v.2.2.2.2.2.2.2.2.2.1 v.2.2.2.2.2.2.2.2.2.2.1 v.2.2.2.2.2.2.2.2.2.2.2.1 v.2.2.2.2.2.2.2.2.2.2.2.2.1 v.2.2.2.2.2.2.2.2.2.2.2.2.2))
noncomputable def l_u42q (G_u67q : GT_u67q) (v : TT_u42q) : Option (Nat × TT_u42q) := lock (iterO (fun v => (st_u42q G_u67q v).ev) v)
theorem l_u42q_eq (G_u67q : GT_u67q) (v : TT_u42q) : l_u42q G_u67q v = iterO (fun v => (st_u42q G_u67q v).ev) v := lock_eq _
noncomputable def ll_u42q (G_u67q : GT_u67q) : LEnt := LE (τ := TT_u42q) (hD hs_u42q) (l_u42q G_u67q) x_u42q
theorem t_u42q (G_u67q : GT_u67q) (hG : GH_u67q G_u67q) : Go.Eng.Told IP (loopAt F11 0).1 (loopAt F11 0).2 (ll_u42q G_u67q) := loop_LE (inferInstance : Inhabited TT_u42q) (hs := hs_u42q) (st := st_u42q G_u67q) (L := []) (TG_u67q_ok G_u67q hG) (LOk_of (l := []) (by kernel_rfl) trivial) (l_u42q_eq G_u67q) (fun v => match v with | (.inl v) => by kernel_rfl | (.inr v) => by kernel_rfl) (fun v => match v with | (.inl v) => by kernel_rfl | (.inr v) => by kernel_rfl)
noncomputable def tr_u67q (G_u67q : GT_u67q) (x0 : Int) (x1 : Int) (x2 : List UInt8) (x3 : List AV) (x4 : List AV) (x5 : Int) : DT B_u67q :=
 .br (x0 != 4)
  (.bi (pj 0 (l_u42q G_u67q (Sum.inl (x4, x5, 0, x0, x1, x2, x3, 0, 0, [], x0, x1, x2)))) (fun y0 =>
   .at (((sl y0).snd.snd.snd.snd.snd.snd.snd.snd.snd.snd.fst, (sl y0).snd.snd.snd.snd.snd.snd.snd.snd.snd.snd.snd.fst, (sl y0).snd.snd.snd.snd.snd.snd.snd.snd.snd.snd.snd.snd, [])))
   (.bi (pj 1 (l_u42q G_u67q (Sum.inl (x4, x5, 0, x0, x1, x2, x3, 0, 0, [], x0, x1, x2)))) (fun y0 =>
    .at (((sr y0).snd.snd.snd.snd.snd.snd.snd.snd.snd.snd.fst, (sr y0).snd.snd.snd.snd.snd.snd.snd.snd.snd.snd.snd.fst, (sr y0).snd.snd.snd.snd.snd.snd.snd.snd.snd.snd.snd.snd.fst, (sr y0).snd.snd.snd.snd.snd.snd.snd.snd.snd.snd.snd.snd.snd)))
    (.no)))
  (.bi (pj 0 (l_u43q (x4, x5, 0, x0, x1, x2, x3, 0, 0, []))) (fun y0 =>
   .at ((1, y0.snd.fst, [], [])))
   (.bi (pj 1 (l_u43q (x4, x5, 0, x0, x1, x2, x3, 0, 0, []))) (fun y0 =>
    .at ((2, y0.snd.fst, [], [])))
    (.bi (pj 2 (l_u43q (x4, x5, 0, x0, x1, x2, x3, 0, 0, []))) (fun y0 =>
     .at ((3, y0.snd.fst, [], [])))
     (.bi (pj 3 (l_u43q (x4, x5, 0, x0, x1, x2, x3, 0, 0, []))) (fun y0 =>
      .at ((y0.snd.snd.snd.fst, y0.snd.snd.snd.snd.fst, y0.snd.snd.snd.snd.snd.fst, y0.snd.snd.snd.snd.snd.snd.fst)))
      (.bi (pj 4 (l_u43q (x4, x5, 0, x0, x1, x2, x3, 0, 0, []))) (fun y0 =>
       .at ((y0.snd.snd.snd.fst, y0.snd.snd.snd.snd.fst, y0.snd.snd.snd.snd.snd.fst, y0.snd.snd.snd.snd.snd.snd.fst)))
       (.no))))))
noncomputable def N_u67q : Nat → GT_u67q
  | 0 => fun _ _ _ _ _ _ => none
  | n + 1 => fun x0 x1 x2 x3 x4 x5 => (tr_u67q ((N_u67q n)) x0 x1 x2 x3 x4 x5).ev
noncomputable def f_u67q (x0 : Int) (x1 : Int) (x2 : List UInt8) (x3 : List AV) (x4 : List AV) (x5 : Int) : Option B_u67q := limO fun n => (N_u67q n) x0 x1 x2 x3 x4 x5
theorem N_u67q_ok : ∀ n, GH_u67q ((N_u67q n))
  | 0 => (fun v y h => nomatch h)
  | n + 1 => have hG := N_u67q_ok n
    fun_FH (F := F11) (L := [(1001100, ll_u42q ((N_u67q n))), (1001101, ll_u43q)]) (t := fun (v : Int × Int × List UInt8 × List AV × List AV × Int) => tr_u67q ((N_u67q n)) v.1 v.2.1 v.2.2.1 v.2.2.2.1 v.2.2.2.2.1 v.2.2.2.2.2) (TG_u67q_ok ((N_u67q n)) hG) (LOk_of (l := [loopAt F11 0, loopAt F11 1]) (by kernel_rfl) ⟨sel_one (by kernel_rfl) (t_u42q ((N_u67q n)) hG), sel_one (by kernel_rfl) t_u43q, trivial⟩) (by kernel_rfl) (fun v => by kernel_rfl) (fun v => rfl)
theorem c_u67q : FH IP 11 p_u67q r_u67q (fun (v : Int × Int × List UInt8 × List AV × List AV × Int) => (f_u67q v.1 v.2.1 v.2.2.1 v.2.2.2.1 v.2.2.2.2.1 v.2.2.2.2.2 : Option B_u67q)) := lim_FH (p := p_u67q) (rs := r_u67q) (s := fun n (v : Int × Int × List UInt8 × List AV × List AV × Int) => (N_u67q n) v.1 v.2.1 v.2.2.1 v.2.2.2.1 v.2.2.2.2.1 v.2.2.2.2.2) fun n => (N_u67q_ok n)
noncomputable def T64 : Tab := (11, FE p_u67q r_u67q (fun (v : Int × Int × List UInt8 × List AV × List AV × Int) => (f_u67q v.1 v.2.1 v.2.2.1 v.2.2.2.1 v.2.2.2.2.1 v.2.2.2.2.2 : Option B_u67q))) :: T63
theorem T64_ok : TabOk IP T64 := ⟨FE_ok c_u67q, T63_ok⟩
abbrev B_u20q : Type := Bool
def p_u20q : PArgs := ⟨[.agg [.int .i64, .int .i64, .str, .view 4], .view 2, .int .u8], []⟩
def r_u20q : List PRes := [⟨false, .bool, []⟩]
noncomputable def tr_u20q (x0 : Int) (x1 : Int) (x2 : List UInt8) (x3 : List AV) (x4 : List AV) (x5 : Int) : DT B_u20q :=
 .bi (f_u81q x0 x1 x2 x3 200) (fun y0 =>
  .bi (br y0 (some true) (br (sm (f_u80q x4)) (some !gv (f_u80q x4)) none)) (fun y1 =>
   .br (y1)
    (.bi (f_u85q) (fun y2 =>
     .at (y2))
     (.no))
    (.bi (f_u83q x0 x1 x2 x3 x4) (fun y2 =>
     .bi (f_u67q x0 x1 x2 x3 x4 (IntKind.i64.wrap x5)) (fun y3 =>
      .bi (f_u83q y3.fst y3.snd.fst y3.snd.snd.fst y3.snd.snd.snd x4) (fun y4 =>
       .bi (br (y2.snd != 0) (some true) (br (sm (f_u86q y2.fst)) (br (gv (f_u86q y2.fst)) (br (y4.fst == y2.fst) (some (y4.snd == 0)) (some false)) (some false)) none)) (fun y5 =>
        .bi (br y5 (br (sm f_u85q) (some (gv f_u85q)) none) (some false)) (fun y6 =>
         .at (y6))
         (.no))
        (.no))
       (.no))
      (.no))
     (.no)))
   (.no))
  (.no)
noncomputable def f_u20q (x0 : Int) (x1 : Int) (x2 : List UInt8) (x3 : List AV) (x4 : List AV) (x5 : Int) : Option B_u20q := lock (tr_u20q x0 x1 x2 x3 x4 x5).ev
theorem f_u20q_eq (x0 : Int) (x1 : Int) (x2 : List UInt8) (x3 : List AV) (x4 : List AV) (x5 : Int) : f_u20q x0 x1 x2 x3 x4 x5 = (tr_u20q x0 x1 x2 x3 x4 x5).ev := lock_eq _
theorem c_u20q : FH IP 4 p_u20q r_u20q (fun (v : Int × Int × List UInt8 × List AV × List AV × Int) => (f_u20q v.1 v.2.1 v.2.2.1 v.2.2.2.1 v.2.2.2.2.1 v.2.2.2.2.2 : Option B_u20q)) := fun_FH (F := F4) (L := []) (t := fun (v : Int × Int × List UInt8 × List AV × List AV × Int) => tr_u20q v.1 v.2.1 v.2.2.1 v.2.2.2.1 v.2.2.2.2.1 v.2.2.2.2.2) T64_ok (LOk_of (l := []) (by kernel_rfl) trivial) (by kernel_rfl) (fun v => by kernel_rfl) (fun v => f_u20q_eq v.1 v.2.1 v.2.2.1 v.2.2.2.1 v.2.2.2.2.1 v.2.2.2.2.2)
noncomputable def T65 : Tab := (4, FE p_u20q r_u20q (fun (v : Int × Int × List UInt8 × List AV × List AV × Int) => (f_u20q v.1 v.2.1 v.2.2.1 v.2.2.2.1 v.2.2.2.2.1 v.2.2.2.2.2 : Option B_u20q))) :: T64
theorem T65_ok : TabOk IP T65 := ⟨FE_ok c_u20q, T64_ok⟩
end Go.Proofs.H11d

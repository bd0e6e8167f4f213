/- Functions over plain data. Printed by a program of mine. -/
import Derived.Test.YtbhffafppahmjaaGreatDoorD11_5
import Derived.KernelRfl
set_option linter.unusedVariables false
set_option linter.unusedSimpArgs false
set_option linter.unnecessarySimpa false
namespace Go.Proofs.H11
open Go Go.Eng
set_option maxRecDepth 100000
abbrev B_u22q : Type := Bool
def p_u22q : PArgs := ⟨[.agg [.int .i64, .int .i64, .str, .view 4], .view 2], []⟩
def r_u22q : List PRes := [⟨false, .bool, []⟩]
noncomputable def tr_u22q (x0 : Int) (x1 : Int) (x2 : List UInt8) (x3 : List AV) (x4 : List AV) : DT B_u22q :=
 .bi (f_u99q x0 x1 x2 x3 200) (fun y0 =>
  .bi (br y0 (some true) (br (sm (f_u96q x4)) (some !gv (f_u96q x4)) none)) (fun y1 =>
   .bi (br y1 (some true) (br (sm (f_u48q x0 x1 x2 x3)) (some (gv (f_u48q x0 x1 x2 x3) != 0)) none)) (fun y2 =>
    .bi (br y2 (some true) (some (decide (x0 < 5)))) (fun y3 =>
     .br (y3)
      (.bi (f_u106q) (fun y4 =>
       .at (y4))
       (.no))
      (.bi (pj 0 (l_u15q (Sum.inl (x4, 0, x0, x1, x2, x3)))) (fun y4 =>
       .at (gv
  (br
    (gv
      (br ((gv (f_u104q (sl y4).snd.snd.fst (sl y4).snd.snd.snd.fst (sl y4).snd.snd.snd.snd.fst (sl y4).snd.snd.snd.snd.snd (sl y4).fst)).fst == 0)
        (some
          ((gv (f_u104q (sl y4).snd.snd.fst (sl y4).snd.snd.snd.fst (sl y4).snd.snd.snd.snd.fst (sl y4).snd.snd.snd.snd.snd (sl y4).fst)).snd ==
            (gv
                (f_u104q (intOf (cellAt (sl y4).snd.snd.snd.snd.snd (sl y4).snd.fst 0)) (intOf (cellAt (sl y4).snd.snd.snd.snd.snd (sl y4).snd.fst 1))
                  (strOf (cellAt (sl y4).snd.snd.snd.snd.snd (sl y4).snd.fst 2)) (viewOf (cellAt (sl y4).snd.snd.snd.snd.snd (sl y4).snd.fst 3)) (sl y4).fst)).snd))
        (some false)))
    (br (sm f_u106q) (some (gv f_u106q)) none) (some false))))
       (.bi (pj 1 (l_u15q (Sum.inl (x4, 0, x0, x1, x2, x3)))) (fun y4 =>
        .bi (f_u43q (sl y4).snd.snd.fst []) (fun y5 =>
         .bi (f_u104q (sl y4).snd.snd.fst (sl y4).snd.snd.snd.fst (sl y4).snd.snd.snd.snd.fst (sl y4).snd.snd.snd.snd.snd (sl y4).fst) (fun y6 =>
          .bi (br y5.snd (some (y6.fst == y5.fst)) (some false)) (fun y7 =>
           .bi (br y7 (some (y6.snd == 0)) (some false)) (fun y8 =>
            .bi (br y8 (some true) (br (!y5.snd) (br (y6.fst == 0) (some (y6.snd == 3)) (some false)) (some false))) (fun y9 =>
             .bi (br y9 (br (sm f_u106q) (some (gv f_u106q)) none) (some false)) (fun y10 =>
              .at (y10))
              (.no))
             (.no))
            (.no))
           (.no))
          (.no))
         (.no))
        (.bi (pj 2 (l_u15q (Sum.inl (x4, 0, x0, x1, x2, x3)))) (fun y4 =>
         .at (gv
  (br
    (gv
      (br ((gv (f_u104q (sr y4).snd.snd.fst (sr y4).snd.snd.snd.fst (sr y4).snd.snd.snd.snd.fst (sr y4).snd.snd.snd.snd.snd.fst (sr y4).fst)).fst == 0)
        (some
          ((gv (f_u104q (sr y4).snd.snd.fst (sr y4).snd.snd.snd.fst (sr y4).snd.snd.snd.snd.fst (sr y4).snd.snd.snd.snd.snd.fst (sr y4).fst)).snd ==
            (gv
                (f_u104q (intOf (cellAt (sr y4).snd.snd.snd.snd.snd.fst (sr y4).snd.fst 0)) (intOf (cellAt (sr y4).snd.snd.snd.snd.snd.fst (sr y4).snd.fst 1))
                  (strOf (cellAt (sr y4).snd.snd.snd.snd.snd.fst (sr y4).snd.fst 2)) (viewOf (cellAt (sr y4).snd.snd.snd.snd.snd.fst (sr y4).snd.fst 3)) (sr y4).fst)).snd))
        (some false)))
    (br (sm f_u106q) (some (gv f_u106q)) none) (some false))))
         (.bi (pj 3 (l_u15q (Sum.inl (x4, 0, x0, x1, x2, x3)))) (fun y4 =>
          .bi (f_u43q (sr y4).snd.snd.fst (sr y4).snd.snd.snd.snd.snd.snd) (fun y5 =>
           .bi (f_u104q (sr y4).snd.snd.fst (sr y4).snd.snd.snd.fst (sr y4).snd.snd.snd.snd.fst (sr y4).snd.snd.snd.snd.snd.fst (sr y4).fst) (fun y6 =>
            .bi (br y5.snd (some (y6.fst == y5.fst)) (some false)) (fun y7 =>
             .bi (br y7 (some (y6.snd == 0)) (some false)) (fun y8 =>
              .bi (br y8 (some true) (br (!y5.snd) (br (y6.fst == 0) (some (y6.snd == 3)) (some false)) (some false))) (fun y9 =>
               .bi (br y9 (br (sm f_u106q) (some (gv f_u106q)) none) (some false)) (fun y10 =>
                .at (y10))
                (.no))
               (.no))
              (.no))
             (.no))
            (.no))
           (.no))
          (.no))))))
     (.no))
    (.no))
   (.no))
  (.no)
noncomputable def f_u22q (x0 : Int) (x1 : Int) (x2 : List UInt8) (x3 : List AV) (x4 : List AV) : Option B_u22q := lock (tr_u22q x0 x1 x2 x3 x4).ev
theorem f_u22q_eq (x0 : Int) (x1 : Int) (x2 : List UInt8) (x3 : List AV) (x4 : List AV) : f_u22q x0 x1 x2 x3 x4 = (tr_u22q x0 x1 x2 x3 x4).ev := lock_eq _
theorem c_u22q : FH IP 4 p_u22q r_u22q (fun (v : Int × Int × List UInt8 × List AV × List AV) => (f_u22q v.1 v.2.1 v.2.2.1 v.2.2.2.1 v.2.2.2.2 : Option B_u22q)) := fun_FH (F := F4) (L := [(1000400, ll_u15q)]) (t := fun (v : Int × Int × List UInt8 × List AV × List AV) => tr_u22q v.1 v.2.1 v.2.2.1 v.2.2.2.1 v.2.2.2.2) T80_ok (LOk_of (l := [loopAt F4 0]) (by kernel_rfl) ⟨sel_one (by kernel_rfl) t_u15q, trivial⟩) (by kernel_rfl) (fun v => by kernel_rfl) (fun v => f_u22q_eq v.1 v.2.1 v.2.2.1 v.2.2.2.1 v.2.2.2.2)
noncomputable def T81 : Tab := (4, FE p_u22q r_u22q (fun (v : Int × Int × List UInt8 × List AV × List AV) => (f_u22q v.1 v.2.1 v.2.2.1 v.2.2.2.1 v.2.2.2.2 : Option B_u22q))) :: T80
theorem T81_ok : TabOk IP T81 := ⟨FE_ok c_u22q, T80_ok⟩
abbrev TT_u14q : Type := (List AV × Int × Int × Int × List UInt8 × List AV) ⊕ (List AV × Int × Int × Int × List UInt8 × List AV × List AV)
def hs_u14q : List PSt := [⟨[(1000500, .junk), (1, .view 2), (2, .ref 0 0 0), (5, .nils ⟨2, .any⟩), (6, .int .i64)], [(0, .box [.int .i64, .int .i64, .str, .view 4] false)], 1, 0⟩, ⟨[(1000500, .junk), (1, .view 2), (2, .ref 0 0 0), (5, .own 1 0), (6, .int .i64)], [(0, .box [.int .i64, .int .i64, .str, .view 4] false), (1, .arr 2 false)], 2, 0⟩]
noncomputable def x_u14q_0 (x0 : List AV) (x1 : Int) (x2 : Int) (x3 : Int) (x4 : List UInt8) (x5 : List AV) : X × St := (X.exit 0,
  { tm := [(1, AV.view 2 x0), (2, AV.ref 0 0 0), (5, AV.nils { sz := 2, kd := NKd.any })],
    hp := [(0, Blk.box [AV.int IntKind.i64 x2, AV.int IntKind.i64 x3, AV.str x4, AV.view 4 x5] false)], nx := 1, k := 0 })
noncomputable def x_u14q_1 (x0 : List AV) (x1 : Int) (x2 : Int) (x3 : Int) (x4 : List UInt8) (x5 : List AV) (x6 : List AV) : X × St := (X.exit 0,
  { tm := [(1, AV.view 2 x0), (2, AV.ref 0 0 0), (5, AV.own 1 0 none)],
    hp := [(0, Blk.box [AV.int IntKind.i64 x2, AV.int IntKind.i64 x3, AV.str x4, AV.view 4 x5] false), (1, Blk.arr 2 x6 false)], nx := 2, k := 0 })
noncomputable def x_u14q : List (TT_u14q → X × St) := [fun w => x_u14q_0 (sl w).1 (sl w).2.1 (sl w).2.2.1 (sl w).2.2.2.1 (sl w).2.2.2.2.1 (sl w).2.2.2.2.2, fun w => x_u14q_1 (sr w).1 (sr w).2.1 (sr w).2.2.1 (sr w).2.2.2.1 (sr w).2.2.2.2.1 (sr w).2.2.2.2.2.1 (sr w).2.2.2.2.2.2]
noncomputable def st_u14q_0 (x0 : List AV) (x1 : Int) (x2 : Int) (x3 : Int) (x4 : List UInt8) (x5 : List AV) : DT (Rd TT_u14q) :=
 .br (decide (x1 ≥ 0))
  (.br (okAt [CS.str, CS.int IntKind.i64] x0 x1)
   (.at (.next ((.inr (x0, IntKind.i64.wrap (x1 - 1), x2, x3, x4, x5, [AV.agg [AV.str (strOf (cellAt x0 x1 0)), AV.int IntKind.i64 (intOf (cellAt x0 x1 1))]])))))
   (.no))
  (.at (.done 0))
noncomputable def st_u14q_1 (x0 : List AV) (x1 : Int) (x2 : Int) (x3 : Int) (x4 : List UInt8) (x5 : List AV) (x6 : List AV) : DT (Rd TT_u14q) :=
 .br (decide (x1 ≥ 0))
  (.br (okAt [CS.str, CS.int IntKind.i64] x0 x1)
   (.br (room (x6.length + 1) 24)
    (.at (.next ((.inr (x0, IntKind.i64.wrap (x1 - 1), x2, x3, x4, x5, x6 ++ [AV.agg [AV.str (strOf (cellAt x0 x1 0)), AV.int IntKind.i64 (intOf (cellAt x0 x1 1))]])))))
    (.no))
   (.no))
  (.at (.done 1))
noncomputable def st_u14q : TT_u14q → DT (Rd TT_u14q) := (Sum.elim (fun v => st_u14q_0 v.1 v.2.1 v.2.2.1 v.2.2.2.1 v.2.2.2.2.1 v.2.2.2.2.2) (fun v => st_u14q_1 v.1 v.2.1 v.2.2.1 v.2.2.2.1 v.2.2.2.2.1 v.2.2.2.2.2.1 v.2.2.2.2.2.2))
noncomputable def l_u14q (v : TT_u14q) : Option (Nat × TT_u14q) := lock (iterO (fun v => (st_u14q v).ev) v)
theorem l_u14q_eq (v : TT_u14q) : l_u14q v = iterO (fun v => (st_u14q v).ev) v := lock_eq _
noncomputable def ll_u14q : LEnt := LE (τ := TT_u14q) (hD hs_u14q) (l_u14q) x_u14q
theorem t_u14q : Go.Eng.Told IP (loopAt F5 0).1 (loopAt F5 0).2 (ll_u14q) := loop_LE (inferInstance : Inhabited TT_u14q) (hs := hs_u14q) (st := st_u14q) (L := []) T81_ok (LOk_of (l := []) (by kernel_rfl) trivial) (l_u14q_eq) (fun v => match v with | (.inl v) => by kernel_rfl | (.inr v) => by kernel_rfl) (fun v => match v with | (.inl v) => by kernel_rfl | (.inr v) => by kernel_rfl)
abbrev B_u21q : Type := Bool
def p_u21q : PArgs := ⟨[.agg [.int .i64, .int .i64, .str, .view 4], .view 2], []⟩
def r_u21q : List PRes := [⟨false, .bool, []⟩]
noncomputable def tr_u21q (x0 : Int) (x1 : Int) (x2 : List UInt8) (x3 : List AV) (x4 : List AV) : DT B_u21q :=
 .bi (f_u99q x0 x1 x2 x3 200) (fun y0 =>
  .bi (br y0 (some true) (br (sm (f_u96q x4)) (some !gv (f_u96q x4)) none)) (fun y1 =>
   .bi (br y1 (some true) (br (sm (f_u111q x4)) (some (gv (f_u111q x4) != 0)) none)) (fun y2 =>
    .br (y2)
     (.bi (f_u106q) (fun y3 =>
      .at (y3))
      (.no))
     (.bi (pj 0 (l_u14q (Sum.inl (x4, IntKind.i64.wrap ((↑x4.length : Int) - 1), x0, x1, x2, x3)))) (fun y3 =>
      .bi (f_u104q (sl y3).snd.snd.fst (sl y3).snd.snd.snd.fst (sl y3).snd.snd.snd.snd.fst (sl y3).snd.snd.snd.snd.snd (sl y3).fst) (fun y4 =>
       .bi (f_u104q (sl y3).snd.snd.fst (sl y3).snd.snd.snd.fst (sl y3).snd.snd.snd.snd.fst (sl y3).snd.snd.snd.snd.snd []) (fun y5 =>
        .bi (br (y4.fst == y5.fst) (some (y4.snd == y5.snd)) (some false)) (fun y6 =>
         .bi (br y6 (br (sm (f_u77q [])) (some (gv (f_u77q []) == 0)) none) (some false)) (fun y7 =>
          .bi (br y7 (br (sm f_u106q) (some (gv f_u106q)) none) (some false)) (fun y8 =>
           .at (y8))
           (.no))
          (.no))
         (.no))
        (.no))
       (.no))
      (.bi (pj 1 (l_u14q (Sum.inl (x4, IntKind.i64.wrap ((↑x4.length : Int) - 1), x0, x1, x2, x3)))) (fun y3 =>
       .bi (f_u104q (sr y3).snd.snd.fst (sr y3).snd.snd.snd.fst (sr y3).snd.snd.snd.snd.fst (sr y3).snd.snd.snd.snd.snd.fst (sr y3).fst) (fun y4 =>
        .bi (f_u104q (sr y3).snd.snd.fst (sr y3).snd.snd.snd.fst (sr y3).snd.snd.snd.snd.fst (sr y3).snd.snd.snd.snd.snd.fst (sr y3).snd.snd.snd.snd.snd.snd) (fun y5 =>
         .bi (br (y4.fst == y5.fst) (some (y4.snd == y5.snd)) (some false)) (fun y6 =>
          .bi (br y6 (br (sm (f_u77q (sr y3).snd.snd.snd.snd.snd.snd)) (some (gv (f_u77q (sr y3).snd.snd.snd.snd.snd.snd) == 0)) none) (some false)) (fun y7 =>
           .bi (br y7 (br (sm f_u106q) (some (gv f_u106q)) none) (some false)) (fun y8 =>
            .at (y8))
            (.no))
           (.no))
          (.no))
         (.no))
        (.no))
       (.no))))
    (.no))
   (.no))
  (.no)
noncomputable def f_u21q (x0 : Int) (x1 : Int) (x2 : List UInt8) (x3 : List AV) (x4 : List AV) : Option B_u21q := lock (tr_u21q x0 x1 x2 x3 x4).ev
theorem f_u21q_eq (x0 : Int) (x1 : Int) (x2 : List UInt8) (x3 : List AV) (x4 : List AV) : f_u21q x0 x1 x2 x3 x4 = (tr_u21q x0 x1 x2 x3 x4).ev := lock_eq _
theorem c_u21q : FH IP 5 p_u21q r_u21q (fun (v : Int × Int × List UInt8 × List AV × List AV) => (f_u21q v.1 v.2.1 v.2.2.1 v.2.2.2.1 v.2.2.2.2 : Option B_u21q)) := fun_FH (F := F5) (L := [(1000500, ll_u14q)]) (t := fun (v : Int × Int × List UInt8 × List AV × List AV) => tr_u21q v.1 v.2.1 v.2.2.1 v.2.2.2.1 v.2.2.2.2) T81_ok (LOk_of (l := [loopAt F5 0]) (by kernel_rfl) ⟨sel_one (by kernel_rfl) t_u14q, trivial⟩) (by kernel_rfl) (fun v => by kernel_rfl) (fun v => f_u21q_eq v.1 v.2.1 v.2.2.1 v.2.2.2.1 v.2.2.2.2)
noncomputable def T82 : Tab := (5, FE p_u21q r_u21q (fun (v : Int × Int × List UInt8 × List AV × List AV) => (f_u21q v.1 v.2.1 v.2.2.1 v.2.2.2.1 v.2.2.2.2 : Option B_u21q))) :: T81
theorem T82_ok : TabOk IP T82 := ⟨FE_ok c_u21q, T81_ok⟩
end Go.Proofs.H11

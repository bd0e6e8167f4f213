/- Functions over plain data. Printed by a program of mine. -/
import Derived.Test.YtlgbnjnkcoiceaaGreatDoorD12_7
import Derived.KernelRfl
set_option linter.unusedVariables false
set_option linter.unusedSimpArgs false
set_option linter.unnecessarySimpa false
namespace Go.Proofs.H12
open Go Go.Eng
set_option maxRecDepth 100000
noncomputable section
abbrev B_u174q : Type := Int × Int
def p_u174q : PArgs := ⟨[.agg [.int .i64, .view 2, .view 3]], []⟩
def r_u174q : List PRes := [⟨false, .tup [.int .i64, .int .i64], []⟩]
def tr_u174q (x0 : Int) (x1 x2 : List AV) : DT B_u174q :=
 .br (decide ((↑x2.length : Int) > 128))
  (.at ((0, 5)))
  (.bi (f_u165q x1) (fun y0 =>
   .br (y0 != 0)
    (.at ((0, y0)))
    (.br (decide (0 ≤ IntKind.i64.wrap ((↑x2.length : Int) + 1)) && decide (IntKind.i64.wrap ((↑x2.length : Int) + 1) ≤ IntKind.i64.wrap ((↑x2.length : Int) + 1)) &&
          room (IntKind.i64.wrap ((↑x2.length : Int) + 1)).toNat 32 &&
        decide (IntKind.i64.wrap ((↑x2.length : Int) + 1) ≤ 4611686018427387904))
     (.br (inB (List.replicate (IntKind.i64.wrap ((↑x2.length : Int) + 1)).toNat (AV.agg [AV.bool false, AV.bool false, AV.view 1 []])).length 0)
      (.br (okS (List.replicate (IntKind.i64.wrap ((↑x2.length : Int) + 1)).toNat (AV.agg [AV.bool false, AV.bool false, AV.view 1 []])) 0 0 1)
       (.bi (pj 0
           (l_u155q
             ((↑x2.length : Int), 0, 0, x0, x1, x2,
               setE (List.replicate (IntKind.i64.wrap ((↑x2.length : Int) + 1)).toNat (AV.agg [AV.bool false, AV.bool false, AV.view 1 []])) 0 0 [AV.bool true]))) (fun y1 =>
        .at ((0, 9)))
        (.bi (pj 1
            (l_u155q
              ((↑x2.length : Int), 0, 0, x0, x1, x2,
                setE (List.replicate (IntKind.i64.wrap ((↑x2.length : Int) + 1)).toNat (AV.agg [AV.bool false, AV.bool false, AV.view 1 []])) 0 0 [AV.bool true]))) (fun y1 =>
         .br (inB y1.2.2.2.2.2.2.length y1.1)
          (.br (okP [CS.slice 1] y1.2.2.2.2.2.2 y1.1.toNat 2)
           (.bi (f_u79q (viewOf (cellN y1.2.2.2.2.2.2 y1.1.toNat 2)) [AV.int IntKind.i64 y1.2.2.2.1]) (fun y2 =>
            .br (!y2)
             (.at ((0, 9)))
             (.at ((if (↑(viewOf (cellN y1.2.2.2.2.2.2 y1.2.2.1.toNat 2)).length : Int) > y1.2.1 then
  (↑(viewOf (cellN y1.2.2.2.2.2.2 y1.2.2.1.toNat 2)).length : Int)
else y1.2.1, 0))))
            (.no))
           (.no))
          (.no))
         (.bi (pj 2
             (l_u155q
               ((↑x2.length : Int), 0, 0, x0, x1, x2,
                 setE (List.replicate (IntKind.i64.wrap ((↑x2.length : Int) + 1)).toNat (AV.agg [AV.bool false, AV.bool false, AV.view 1 []])) 0 0 [AV.bool true]))) (fun y1 =>
          .at ((0, 9)))
          (.bi (pj 3
              (l_u155q
                ((↑x2.length : Int), 0, 0, x0, x1, x2,
                  setE (List.replicate (IntKind.i64.wrap ((↑x2.length : Int) + 1)).toNat (AV.agg [AV.bool false, AV.bool false, AV.view 1 []])) 0 0 [AV.bool true]))) (fun y1 =>
           .at ((0, 5)))
           (.bi (pj 4
               (l_u155q
                 ((↑x2.length : Int), 0, 0, x0, x1, x2,
                   setE (List.replicate (IntKind.i64.wrap ((↑x2.length : Int) + 1)).toNat (AV.agg [AV.bool false, AV.bool false, AV.view 1 []])) 0 0 [AV.bool true]))) (fun y1 =>
            .br (inB y1.2.2.2.2.2.2.length y1.1)
             (.br (okP [CS.slice 1] y1.2.2.2.2.2.2 y1.1.toNat 2)
              (.bi (f_u79q (viewOf (cellN y1.2.2.2.2.2.2 y1.1.toNat 2)) [AV.int IntKind.i64 y1.2.2.2.1]) (fun y2 =>
               .br (!y2) (.at ((0, 9))) (.at ((y1.2.1, 0))))
               (.no))
              (.no))
             (.no))
            (.no))))))
       (.no))
      (.no))
     (.no)))
   (.no))
def f_u174q (x0 : Int) (x1 x2 : List AV) : Option B_u174q := lock (tr_u174q x0 x1 x2).ev
theorem c_u174q : FH IP 35 p_u174q r_u174q (k3 f_u174q) := fun_FH (F := F35) (L := [(1003500, ll_u155q)]) (t := (k3 tr_u174q)) T113_ok (LOk_of (l := [loopAt F35 0]) (by kernel_rfl) ⟨sel_one (by kernel_rfl) t_u155q, trivial⟩) (by kernel_rfl) (fun v => by kernel_rfl) (fun _ => lock_eq _)
def T114 : Tab := (35, FE p_u174q r_u174q (k3 f_u174q)) :: T113
theorem T114_ok : TabOk IP T114 := ⟨FE_ok c_u174q, T113_ok⟩
abbrev B_u77q : Type := Int
def p_u77q : PArgs := ⟨[.agg [.int .i64, .view 2, .view 3]], []⟩
def r_u77q : List PRes := [⟨false, .int .i64, []⟩]
def tr_u77q (x0 : Int) (x1 x2 : List AV) : DT B_u77q :=
 .bi (f_u174q x0 x1 x2) (fun y0 =>
  .at (y0.2))
  (.no)
def f_u77q (x0 : Int) (x1 x2 : List AV) : Option B_u77q := lock (tr_u77q x0 x1 x2).ev
theorem c_u77q : FH IP 17 p_u77q r_u77q (k3 f_u77q) := fun_FH (F := F17) (L := []) (t := (k3 tr_u77q)) T114_ok (LOk_of (l := []) (by kernel_rfl) trivial) (by kernel_rfl) (fun v => by kernel_rfl) (fun _ => lock_eq _)
def T115 : Tab := (17, FE p_u77q r_u77q (k3 f_u77q)) :: T114
theorem T115_ok : TabOk IP T115 := ⟨FE_ok c_u77q, T114_ok⟩
abbrev B_u150q : Type := Int
def p_u150q : PArgs := ⟨[.agg [.int .i64, .view 2, .view 3]], []⟩
def r_u150q : List PRes := [⟨false, .int .i64, []⟩]
def tr_u150q (x0 : Int) (x1 x2 : List AV) : DT B_u150q :=
 .bi (f_u174q x0 x1 x2) (fun y0 =>
  .at (y0.1))
  (.no)
def f_u150q (x0 : Int) (x1 x2 : List AV) : Option B_u150q := lock (tr_u150q x0 x1 x2).ev
theorem c_u150q : FH IP 19 p_u150q r_u150q (k3 f_u150q) := fun_FH (F := F19) (L := []) (t := (k3 tr_u150q)) T115_ok (LOk_of (l := []) (by kernel_rfl) trivial) (by kernel_rfl) (fun v => by kernel_rfl) (fun _ => lock_eq _)
def T116 : Tab := (19, FE p_u150q r_u150q (k3 f_u150q)) :: T115
theorem T116_ok : TabOk IP T116 := ⟨FE_ok c_u150q, T115_ok⟩
abbrev B_u30q : Type := Bool
def p_u30q : PArgs := ⟨[.agg [.int .i64, .view 2, .view 3]], []⟩
def r_u30q : List PRes := [⟨false, .bool, []⟩]
def tr_u30q (x0 : Int) (x1 x2 : List AV) : DT B_u30q :=
 .bi (f_u172q x0 x1 x2) (fun y0 =>
  .br (!y0)
   (.bi (f_u141q) (fun y1 =>
    .at (y1))
    (.no))
   (.bi (f_u57q x0 x1 x2) (fun y1 =>
    .bi (f_u77q x0 x1 x2) (fun y2 =>
     .br (y1 == y2)
      (.bi (f_u129q x0 x1 x2) (fun y3 =>
       .bi (f_u150q x0 x1 x2) (fun y4 =>
        .br (y3 == y4)
         (.bi (f_u141q) (fun y5 =>
          .at (y5))
          (.no))
         (.at (false)))
        (.no))
       (.no))
      (.at (false)))
     (.no))
    (.no)))
  (.no)
def f_u30q (x0 : Int) (x1 x2 : List AV) : Option B_u30q := lock (tr_u30q x0 x1 x2).ev
theorem c_u30q : FH IP 4 p_u30q r_u30q (k3 f_u30q) := fun_FH (F := F4) (L := []) (t := (k3 tr_u30q)) T116_ok (LOk_of (l := []) (by kernel_rfl) trivial) (by kernel_rfl) (fun v => by kernel_rfl) (fun _ => lock_eq _)
def T117 : Tab := (4, FE p_u30q r_u30q (k3 f_u30q)) :: T116
theorem T117_ok : TabOk IP T117 := ⟨FE_ok c_u30q, T116_ok⟩
abbrev TT_u76q : Type := Int × List UInt8
def hs_u76q : List PSt := [⟨[(1003700, .junk), (0, .int .i64), (3, .str)], [], 0, 0⟩]
def x_u76q_0 (x0 : Int) (x1 : List UInt8) : X × St := (X.exit 0, { tm := [(0, AV.int IntKind.i64 x0), (3, AV.str x1)], hp := [], nx := 0, k := 0 })
def x_u76q : List (TT_u76q → X × St) := [(k2 x_u76q_0)]
def st_u76q_0 (x0 : Int) (x1 : List UInt8) : DT (Rd TT_u76q) :=
 .br (decide (x0 > 9))
  (.br (leB (IntKind.i64.wrap (x0.tmod 10 + 1)) 10 && leB (x0.tmod 10) (IntKind.i64.wrap (x0.tmod 10 + 1)).toNat)
   (.br (decide
       ((List.take ((IntKind.i64.wrap (x0.tmod 10 + 1)).toNat - (x0.tmod 10).toNat) (List.drop (x0.tmod 10).toNat ([48, 49, 50, 51, 52, 53, 54, 55, 56, 57] : List UInt8))).length + x1.length ≤
         4611686018427387904))
    (.at (.next ((IntKind.i64.wrap (x0.tdiv 10), List.take ((IntKind.i64.wrap (x0.tmod 10 + 1)).toNat - (x0.tmod 10).toNat) (List.drop (x0.tmod 10).toNat ([48, 49, 50, 51, 52, 53, 54, 55, 56, 57] : List UInt8)) ++ x1))))
    (.no))
   (.no))
  (.at (.done 0))
def st_u76q : TT_u76q → DT (Rd TT_u76q) := (fun v => st_u76q_0 v.1 v.2)
def l_u76q (v : TT_u76q) : Option (Nat × TT_u76q) := lock (iterO (fun v => (st_u76q v).ev) v)
theorem l_u76q_eq (v : TT_u76q) : l_u76q v = iterO (fun v => (st_u76q v).ev) v := lock_eq _
def ll_u76q : LEnt := LE (τ := TT_u76q) (hD hs_u76q) (l_u76q) x_u76q
theorem t_u76q : Go.Eng.Told IP (loopAt F37 0).1 (loopAt F37 0).2 (ll_u76q) := loop_LE (inferInstance : Inhabited TT_u76q) (hs := hs_u76q) (st := st_u76q) (L := []) T117_ok (LOk_of (l := []) (by kernel_rfl) trivial) (l_u76q_eq) (fun v => by kernel_rfl) (fun v => by kernel_rfl)
abbrev B_u125q : Type := List UInt8
def p_u125q : PArgs := ⟨[.int .i64], []⟩
def r_u125q : List PRes := [⟨false, .str, []⟩]
def tr_u125q (x0 : Int) : DT B_u125q :=
 .bi (pj 0 (l_u76q (x0, []))) (fun y0 =>
  .br (leB (IntKind.i64.wrap (y0.1 + 1)) 10 && leB y0.1 (IntKind.i64.wrap (y0.1 + 1)).toNat)
   (.br (decide
       ((List.take ((IntKind.i64.wrap (y0.1 + 1)).toNat - y0.1.toNat) (List.drop y0.1.toNat ([48, 49, 50, 51, 52, 53, 54, 55, 56, 57] : List UInt8))).length + y0.2.length ≤
         4611686018427387904))
    (.at (List.take ((IntKind.i64.wrap (y0.1 + 1)).toNat - y0.1.toNat) (List.drop y0.1.toNat ([48, 49, 50, 51, 52, 53, 54, 55, 56, 57] : List UInt8)) ++ y0.2))
    (.no))
   (.no))
  (.no)
def f_u125q (x0 : Int) : Option B_u125q := lock (tr_u125q x0).ev
theorem c_u125q : FH IP 37 p_u125q r_u125q f_u125q := fun_FH (F := F37) (L := [(1003700, ll_u76q)]) (t := tr_u125q) T117_ok (LOk_of (l := [loopAt F37 0]) (by kernel_rfl) ⟨sel_one (by kernel_rfl) t_u76q, trivial⟩) (by kernel_rfl) (fun v => by kernel_rfl) (fun _ => lock_eq _)
def T118 : Tab := (37, FE p_u125q r_u125q f_u125q) :: T117
theorem T118_ok : TabOk IP T118 := ⟨FE_ok c_u125q, T117_ok⟩
abbrev TT_u104q : Type := List UInt8 × Int × Int × List AV × List AV × List AV × List AV
def hs_u104q : List PSt := [⟨[(1002100, .junk), (1, .ref 0 0 0), (3, .own 1 0), (4, .own 2 0), (5, .str), (6, .int .i64)], [(0, .box [.int .i64, .view 2, .view 3] false), (1, .arr 1 false), (2, .arr 1 false)], 3, 0⟩]
def x_u104q_0 (x0 : List UInt8) (x1 x2 : Int) (x3 x4 : List AV) (x5 x6 : List AV) : X × St := (X.exit 0, { tm := [(5, AV.str x0)], hp := [], nx := 0, k := 0 })
def x_u104q : List (TT_u104q → X × St) := [(k7 x_u104q_0)]
def st_u104q_0 (x0 : List UInt8) (x1 x2 : Int) (x3 x4 : List AV) (x5 x6 : List AV) : DT (Rd TT_u104q) :=
 .br (decide (x1 < (↑x4.length : Int)))
  (.br (okAt [CS.int IntKind.i64, CS.int IntKind.i64, CS.int IntKind.i64] x4 x1)
   (.br (intOf (cellAt x4 x1 0) == 1)
    (.br (decide (x0.length + 5 ≤ 4611686018427387904))
     (.br (inB x5.length (intOf (cellAt x4 x1 1)))
      (.br (okP [CS.str] x5 (intOf (cellAt x4 x1 1)).toNat 0)
       (.br (decide ((x0 ++ [112, 117, 115, 104, 32]).length + (strOf (cellN x5 (intOf (cellAt x4 x1 1)).toNat 0)).length ≤ 4611686018427387904))
        (.br (decide ((x0 ++ [112, 117, 115, 104, 32] ++ strOf (cellN x5 (intOf (cellAt x4 x1 1)).toNat 0)).length + 1 ≤ 4611686018427387904))
         (.bi (f_u125q (intOf (cellAt x4 x1 2))) (fun y0 =>
          .br (decide ((x0 ++ [112, 117, 115, 104, 32] ++ strOf (cellN x5 (intOf (cellAt x4 x1 1)).toNat 0) ++ [32]).length + y0.length ≤ 4611686018427387904))
           (.br (decide ((x0 ++ [112, 117, 115, 104, 32] ++ strOf (cellN x5 (intOf (cellAt x4 x1 1)).toNat 0) ++ [32] ++ y0).length + 1 ≤ 4611686018427387904))
            (.at (.next ((x0 ++ [112, 117, 115, 104, 32] ++ strOf (cellN x5 (intOf (cellAt x4 x1 1)).toNat 0) ++ [32] ++ y0 ++ [10], IntKind.i64.wrap (x1 + 1), x2, x3, x4, x5, x6))))
            (.no))
           (.no))
          (.no))
         (.no))
        (.no))
       (.no))
      (.no))
     (.no))
    (.br (intOf (cellAt x4 x1 0) == 2)
     (.br (decide (x0.length + 5 ≤ 4611686018427387904))
      (.br (okAt [CS.str, CS.int IntKind.i64] x3 (intOf (cellAt x4 x1 1)))
       (.br (decide ((x0 ++ [108, 111, 97, 100, 32]).length + (strOf (cellAt x3 (intOf (cellAt x4 x1 1)) 0)).length ≤ 4611686018427387904))
        (.br (decide ((x0 ++ [108, 111, 97, 100, 32] ++ strOf (cellAt x3 (intOf (cellAt x4 x1 1)) 0)).length + 1 ≤ 4611686018427387904))
         (.at (.next ((x0 ++ [108, 111, 97, 100, 32] ++ strOf (cellAt x3 (intOf (cellAt x4 x1 1)) 0) ++ [10], IntKind.i64.wrap (x1 + 1), x2, x3, x4, x5, x6))))
         (.no))
        (.no))
       (.no))
      (.no))
     (.br (intOf (cellAt x4 x1 0) == 3)
      (.br (inB x6.length (IntKind.i64.wrap (intOf (cellAt x4 x1 1) - 5)))
       (.br (okP [CS.str] x6 (IntKind.i64.wrap (intOf (cellAt x4 x1 1) - 5)).toNat 0)
        (.br (decide (x0.length + (strOf (cellN x6 (IntKind.i64.wrap (intOf (cellAt x4 x1 1) - 5)).toNat 0)).length ≤ 4611686018427387904))
         (.br (decide ((x0 ++ strOf (cellN x6 (IntKind.i64.wrap (intOf (cellAt x4 x1 1) - 5)).toNat 0)).length + 1 ≤ 4611686018427387904))
          (.at (.next ((x0 ++ strOf (cellN x6 (IntKind.i64.wrap (intOf (cellAt x4 x1 1) - 5)).toNat 0) ++ [10], IntKind.i64.wrap (x1 + 1), x2, x3, x4, x5, x6))))
          (.no))
         (.no))
        (.no))
       (.no))
      (.br (intOf (cellAt x4 x1 0) == 4)
       (.br (decide (x0.length + 5 ≤ 4611686018427387904))
        (.bi (f_u125q (intOf (cellAt x4 x1 1))) (fun y0 =>
         .br (decide ((x0 ++ [106, 117, 109, 112, 32]).length + y0.length ≤ 4611686018427387904))
          (.br (decide ((x0 ++ [106, 117, 109, 112, 32] ++ y0).length + 1 ≤ 4611686018427387904))
           (.at (.next ((x0 ++ [106, 117, 109, 112, 32] ++ y0 ++ [10], IntKind.i64.wrap (x1 + 1), x2, x3, x4, x5, x6))))
           (.no))
          (.no))
         (.no))
        (.no))
       (.br (intOf (cellAt x4 x1 0) == 5)
        (.br (decide (x0.length + 6 ≤ 4611686018427387904))
         (.bi (f_u125q (intOf (cellAt x4 x1 1))) (fun y0 =>
          .br (decide ((x0 ++ [102, 97, 108, 115, 101, 32]).length + y0.length ≤ 4611686018427387904))
           (.br (decide ((x0 ++ [102, 97, 108, 115, 101, 32] ++ y0).length + 1 ≤ 4611686018427387904))
            (.at (.next ((x0 ++ [102, 97, 108, 115, 101, 32] ++ y0 ++ [10], IntKind.i64.wrap (x1 + 1), x2, x3, x4, x5, x6))))
            (.no))
           (.no))
          (.no))
         (.no))
        (.at (.next ((x0, IntKind.i64.wrap (x1 + 1), x2, x3, x4, x5, x6)))))))))
   (.no))
  (.at (.done 0))
def st_u104q : TT_u104q → DT (Rd TT_u104q) := (fun v => st_u104q_0 v.1 v.2.1 v.2.2.1 v.2.2.2.1 v.2.2.2.2.1 v.2.2.2.2.2.1 v.2.2.2.2.2.2)
def l_u104q (v : TT_u104q) : Option (Nat × TT_u104q) := lock (iterO (fun v => (st_u104q v).ev) v)
theorem l_u104q_eq (v : TT_u104q) : l_u104q v = iterO (fun v => (st_u104q v).ev) v := lock_eq _
def ll_u104q : LEnt := LE (τ := TT_u104q) (hD hs_u104q) (l_u104q) x_u104q
theorem t_u104q : Go.Eng.Told IP (loopAt F21 0).1 (loopAt F21 0).2 (ll_u104q) := loop_LE (inferInstance : Inhabited TT_u104q) (hs := hs_u104q) (st := st_u104q) (L := []) T118_ok (LOk_of (l := []) (by kernel_rfl) trivial) (l_u104q_eq) (fun v => by kernel_rfl) (fun v => by kernel_rfl)
abbrev B_u151q : Type := List UInt8
def p_u151q : PArgs := ⟨[.agg [.int .i64, .view 2, .view 3]], []⟩
def r_u151q : List PRes := [⟨false, .str, []⟩]
def tr_u151q (x0 : Int) (x1 x2 : List AV) : DT B_u151q :=
 .bi (f_u77q x0 x1 x2) (fun y0 =>
  .br (y0 != 0)
   (.at ([]))
   (.bi (pj 0
       (l_u104q
         ([], 0, x0, x1, x2, [AV.str [], AV.str [110, 117, 109, 98, 101, 114], AV.str [97, 109, 111, 117, 110, 116], AV.str [114, 97, 116, 101]],
           [AV.str [97, 100, 100], AV.str [115, 117, 98], AV.str [109, 117, 108], AV.str [100, 105, 118], AV.str [110, 101, 103], AV.str [101, 113], AV.str [110, 101],
             AV.str [108, 116], AV.str [108, 101], AV.str [97, 110, 100], AV.str [111, 114], AV.str [110, 111, 116], AV.str [109, 105, 110], AV.str [109, 97, 120]]))) (fun y1 =>
    .at (y1.1))
    (.no)))
  (.no)
def f_u151q (x0 : Int) (x1 x2 : List AV) : Option B_u151q := lock (tr_u151q x0 x1 x2).ev
theorem c_u151q : FH IP 21 p_u151q r_u151q (k3 f_u151q) := fun_FH (F := F21) (L := [(1002100, ll_u104q)]) (t := (k3 tr_u151q)) T118_ok (LOk_of (l := [loopAt F21 0]) (by kernel_rfl) ⟨sel_one (by kernel_rfl) t_u104q, trivial⟩) (by kernel_rfl) (fun v => by kernel_rfl) (fun _ => lock_eq _)
def T119 : Tab := (21, FE p_u151q r_u151q (k3 f_u151q)) :: T118
theorem T119_ok : TabOk IP T119 := ⟨FE_ok c_u151q, T118_ok⟩
abbrev B_u48q : Type := Bool
def p_u48q : PArgs := ⟨[.agg [.int .i64, .view 2, .view 3]], []⟩
def r_u48q : List PRes := [⟨false, .bool, []⟩]
def tr_u48q (x0 : Int) (x1 x2 : List AV) : DT B_u48q :=
 .bi (f_u172q x0 x1 x2) (fun y0 =>
  .br (!y0)
   (.bi (f_u141q) (fun y1 =>
    .at (y1))
    (.no))
   (.bi (f_u130q x0 x1 x2) (fun y1 =>
    .bi (f_u151q x0 x1 x2) (fun y2 =>
     .br (y1 == y2)
      (.bi (f_u141q) (fun y3 =>
       .at (y3))
       (.no))
      (.at (false)))
     (.no))
    (.no)))
  (.no)
def f_u48q (x0 : Int) (x1 x2 : List AV) : Option B_u48q := lock (tr_u48q x0 x1 x2).ev
theorem c_u48q : FH IP 5 p_u48q r_u48q (k3 f_u48q) := fun_FH (F := F5) (L := []) (t := (k3 tr_u48q)) T119_ok (LOk_of (l := []) (by kernel_rfl) trivial) (by kernel_rfl) (fun v => by kernel_rfl) (fun _ => lock_eq _)
def T120 : Tab := (5, FE p_u48q r_u48q (k3 f_u48q)) :: T119
theorem T120_ok : TabOk IP T120 := ⟨FE_ok c_u48q, T119_ok⟩
abbrev B_u47q : Type := Bool
def p_u47q : PArgs := ⟨[.agg [.int .i64, .view 2, .view 3], .agg [.int .i64, .view 2, .view 3]], []⟩
def r_u47q : List PRes := [⟨false, .bool, []⟩]
def tr_u47q (x0 : Int) (x1 x2 : List AV) (x3 : Int) (x4 x5 : List AV) : DT B_u47q :=
 .bi (f_u172q x0 x1 x2) (fun y0 =>
  .bi (br (!y0) (some true) (br (sm (f_u172q x3 x4 x5)) (some !gv (f_u172q x3 x4 x5)) none)) (fun y1 =>
   .br (y1)
    (.bi (f_u141q) (fun y2 =>
     .at (y2))
     (.no))
    (.bi (f_u156q x0 x1 x2 x3 x4 x5) (fun y2 =>
     .bi (f_u168q x0 x1 x2 x3 x4 x5) (fun y3 =>
      .br (if false = true then !y2 == y3 else y2 == y3)
       (.bi (f_u156q x3 x4 x5 x0 x1 x2) (fun y4 =>
        .bi (f_u168q x0 x1 x2 x3 x4 x5) (fun y5 =>
         .br (if false = true then !y4 == y5 else y4 == y5)
          (.bi (f_u156q x0 x1 x2 x0 x1 x2) (fun y6 =>
           .br (y6)
            (.bi (f_u141q) (fun y7 =>
             .at (y7))
             (.no))
            (.at (false)))
           (.no))
          (.at (false)))
         (.no))
        (.no))
       (.at (false)))
      (.no))
     (.no)))
   (.no))
  (.no)
def f_u47q (x0 : Int) (x1 x2 : List AV) (x3 : Int) (x4 x5 : List AV) : Option B_u47q := lock (tr_u47q x0 x1 x2 x3 x4 x5).ev
theorem c_u47q : FH IP 6 p_u47q r_u47q (k6 f_u47q) := fun_FH (F := F6) (L := []) (t := (k6 tr_u47q)) T120_ok (LOk_of (l := []) (by kernel_rfl) trivial) (by kernel_rfl) (fun v => by kernel_rfl) (fun _ => lock_eq _)
def T121 : Tab := (6, FE p_u47q r_u47q (k6 f_u47q)) :: T120
theorem T121_ok : TabOk IP T121 := ⟨FE_ok c_u47q, T120_ok⟩
abbrev B_u35q : Type := Bool
def p_u35q : PArgs := ⟨[.agg [.int .i64, .int .i64, .str, .view 4], .view 2], []⟩
def r_u35q : List PRes := [⟨false, .bool, []⟩]
def tr_u35q (x0 x1 : Int) (x2 : List UInt8) (x3 x4 : List AV) : DT B_u35q :=
 .bi (f_u142q x0 x1 x2 x3) (fun y0 =>
  .bi (br (!y0) (some true) (some (decide ((↑x4.length : Int) > 100)))) (fun y1 =>
   .br (y1)
    (.bi (f_u141q) (fun y2 =>
     .at (y2))
     (.no))
    (.bi (f_u80q x0 x1 x2 x3 x4) (fun y2 =>
     .bi (f_u175q x0 x1 x2 x3 x4) (fun y3 =>
      .br (y2.2.2.2 != 0)
       (.bi (f_u156q y2.1 y2.2.1 y2.2.2.1 0 [] []) (fun y4 =>
        .bi (br y4 (br (sm (f_u165q x4)) (br (gv (f_u165q x4) != 0) (some true) (some (y3.2 == y2.2.2.2))) none) (some false)) (fun y5 =>
         .bi (br y5 (br (sm f_u141q) (some (gv f_u141q)) none) (some false)) (fun y6 =>
          .at (y6))
          (.no))
         (.no))
        (.no))
       (.bi (f_u147q x0 x1 x2 x3) (fun y4 =>
        .bi (br (y3.2 != 0) (some true) (some (y2.1 != y3.1))) (fun y5 =>
         .bi (br y5 (some true) (some ((↑y2.2.1.length : Int) != (↑x4.length : Int)))) (fun y6 =>
          .bi (br y6 (some true) (some (decide ((↑y2.2.2.1.length : Int) < y4)))) (fun y7 =>
           .bi (br y7 (some true) (some (decide ((↑y2.2.2.1.length : Int) > IntKind.i64.wrap (2 * y4))))) (fun y8 =>
            .br (y8)
             (.at (false))
             (.bi (f_u129q y2.1 y2.2.1 y2.2.2.1) (fun y9 =>
              .bi (f_u57q y2.1 y2.2.1 y2.2.2.1) (fun y10 =>
               .bi (br (y10 == 0) (some (decide (y9 ≥ 1))) (some false)) (fun y11 =>
                .bi (br y11 (some (decide (y9 ≤ 9))) (some false)) (fun y12 =>
                 .bi (br y12 (br (sm f_u141q) (some (gv f_u141q)) none) (some false)) (fun y13 =>
                  .at (y13))
                  (.no))
                 (.no))
                (.no))
               (.no))
              (.no)))
            (.no))
           (.no))
          (.no))
         (.no))
        (.no)))
      (.no))
     (.no)))
   (.no))
  (.no)
def f_u35q (x0 x1 : Int) (x2 : List UInt8) (x3 x4 : List AV) : Option B_u35q := lock (tr_u35q x0 x1 x2 x3 x4).ev
theorem c_u35q : FH IP 7 p_u35q r_u35q (k5 f_u35q) := fun_FH (F := F7) (L := []) (t := (k5 tr_u35q)) T121_ok (LOk_of (l := []) (by kernel_rfl) trivial) (by kernel_rfl) (fun v => by kernel_rfl) (fun _ => lock_eq _)
def T122 : Tab := (7, FE p_u35q r_u35q (k5 f_u35q)) :: T121
theorem T122_ok : TabOk IP T122 := ⟨FE_ok c_u35q, T121_ok⟩
abbrev B_u162q : Type := Bool
def p_u162q : PArgs := ⟨[.agg [.int .i64, .int .i64, .str, .view 4], .agg [.int .i64, .int .i64, .str, .view 4]], []⟩
def r_u162q : List PRes := [⟨false, .bool, []⟩]
abbrev GT_u162q : Type := Int → Int → (List UInt8) → (List AV) → Int → Int → (List UInt8) → (List AV) → Option B_u162q
def GH_u162q (G_u162q : GT_u162q) : Prop := FH IP 26 p_u162q r_u162q (k8 G_u162q)
def TG_u162q (G_u162q : GT_u162q) : Tab := (26, FE p_u162q r_u162q (k8 G_u162q)) :: T122
theorem TG_u162q_ok (G_u162q : GT_u162q) (hG : GH_u162q G_u162q) : TabOk IP (TG_u162q G_u162q) := ⟨FE_ok (hG), T122_ok⟩
abbrev TT_u118q : Type := Int × Int × Int × List UInt8 × List AV × Int × Int × List UInt8 × List AV
def hs_u118q : List PSt := [⟨[(1002600, .junk), (2, .ref 0 0 0), (3, .ref 1 0 0), (5, .int .i64)], [(0, .box [.int .i64, .int .i64, .str, .view 4] false), (1, .box [.int .i64, .int .i64, .str, .view 4] false)], 2, 0⟩]
def x_u118q_0 (x0 x1 x2 : Int) (x3 : List UInt8) (x4 : List AV) (x5 x6 : Int) (x7 : List UInt8) (x8 : List AV) : X × St := (X.ret, { tm := [(4, AV.bool false)], hp := [], nx := 0, k := 0 })
def x_u118q_1 (x0 x1 x2 : Int) (x3 : List UInt8) (x4 : List AV) (x5 x6 : Int) (x7 : List UInt8) (x8 : List AV) : X × St := (X.exit 0, { tm := [(4, AV.junk)], hp := [], nx := 0, k := 0 })
def x_u118q : List (TT_u118q → X × St) := [(k9 x_u118q_0), (k9 x_u118q_1)]
def st_u118q_0 (G_u162q : GT_u162q) (x0 x1 x2 : Int) (x3 : List UInt8) (x4 : List AV) (x5 x6 : Int) (x7 : List UInt8) (x8 : List AV) : DT (Rd TT_u118q) :=
 .br (decide (x0 < (↑x4.length : Int)))
  (.br (okAt [CS.int IntKind.i64, CS.int IntKind.i64, CS.str, CS.slice 4] x4 x0)
   (.br (okAt [CS.int IntKind.i64, CS.int IntKind.i64, CS.str, CS.slice 4] x8 x0)
    (.bi (G_u162q (intOf (cellAt x4 x0 0)) (intOf (cellAt x4 x0 1)) (strOf (cellAt x4 x0 2)) (viewOf (cellAt x4 x0 3)) (intOf (cellAt x8 x0 0)) (intOf (cellAt x8 x0 1))
        (strOf (cellAt x8 x0 2)) (viewOf (cellAt x8 x0 3))) (fun y0 =>
     .br (!y0) (.at (.done 0)) (.at (.next ((IntKind.i64.wrap (x0 + 1), x1, x2, x3, x4, x5, x6, x7, x8)))))
     (.no))
    (.no))
   (.no))
  (.at (.done 1))
def st_u118q (G_u162q : GT_u162q) : TT_u118q → DT (Rd TT_u118q) := (fun v => st_u118q_0 G_u162q v.1 v.2.1 v.2.2.1 v.2.2.2.1 v.2.2.2.2.1 v.2.2.2.2.2.1 v.2.2.2.2.2.2.1 v.2.2.2.2.2.2.2.1 v.2.2.2.2.2.2.2.2)
def l_u118q (G_u162q : GT_u162q) (v : TT_u118q) : Option (Nat × TT_u118q) := lock (iterO (fun v => (st_u118q G_u162q v).ev) v)
theorem l_u118q_eq (G_u162q : GT_u162q) (v : TT_u118q) : l_u118q G_u162q v = iterO (fun v => (st_u118q G_u162q v).ev) v := lock_eq _
def ll_u118q (G_u162q : GT_u162q) : LEnt := LE (τ := TT_u118q) (hD hs_u118q) (l_u118q G_u162q) x_u118q
theorem t_u118q (G_u162q : GT_u162q) (hG : GH_u162q G_u162q) : Go.Eng.Told IP (loopAt F26 0).1 (loopAt F26 0).2 (ll_u118q G_u162q) := loop_LE (inferInstance : Inhabited TT_u118q) (hs := hs_u118q) (st := st_u118q G_u162q) (L := []) (TG_u162q_ok G_u162q hG) (LOk_of (l := []) (by kernel_rfl) trivial) (l_u118q_eq G_u162q) (fun v => by kernel_rfl) (fun v => by kernel_rfl)
def tr_u162q (G_u162q : GT_u162q) (x0 x1 : Int) (x2 : List UInt8) (x3 : List AV) (x4 x5 : Int) (x6 : List UInt8) (x7 : List AV) : DT B_u162q :=
 .bi (br (x0 != x4) (some true) (some (x1 != x5))) (fun y0 =>
  .bi (br y0 (some true) (some !x2 == x6)) (fun y1 =>
   .bi (br y1 (some true) (some ((↑x3.length : Int) != (↑x7.length : Int)))) (fun y2 =>
    .br (y2)
     (.at (false))
     (.bi (pj 0 (l_u118q G_u162q (0, x0, x1, x2, x3, x4, x5, x6, x7))) (fun y3 =>
      .at (false))
      (.bi (pj 1 (l_u118q G_u162q (0, x0, x1, x2, x3, x4, x5, x6, x7))) (fun y3 =>
       .at (true))
       (.no))))
    (.no))
   (.no))
  (.no)
def N_u162q : Nat → GT_u162q
  | 0 => fun _ _ _ _ _ _ _ _ => none
  | n + 1 => fun x0 x1 x2 x3 x4 x5 x6 x7 => (tr_u162q ((N_u162q n)) x0 x1 x2 x3 x4 x5 x6 x7).ev
def f_u162q (x0 x1 : Int) (x2 : List UInt8) (x3 : List AV) (x4 x5 : Int) (x6 : List UInt8) (x7 : List AV) : Option B_u162q := limO fun n => (N_u162q n) x0 x1 x2 x3 x4 x5 x6 x7
theorem N_u162q_ok : ∀ n, GH_u162q ((N_u162q n))
  | 0 => (fun v y h => nomatch h)
  | n + 1 => have hG := N_u162q_ok n
    fun_FH (F := F26) (L := [(1002600, ll_u118q ((N_u162q n)))]) (t := (k8 (tr_u162q ((N_u162q n))))) (TG_u162q_ok ((N_u162q n)) hG) (LOk_of (l := [loopAt F26 0]) (by kernel_rfl) ⟨sel_one (by kernel_rfl) (t_u118q ((N_u162q n)) hG), trivial⟩) (by kernel_rfl) (fun v => by kernel_rfl) (fun v => rfl)
theorem c_u162q : FH IP 26 p_u162q r_u162q (k8 f_u162q) := lim_FH (p := p_u162q) (rs := r_u162q) (s := fun n => (k8 ((N_u162q n)))) fun n => (N_u162q_ok n)
def T123 : Tab := (26, FE p_u162q r_u162q (k8 f_u162q)) :: T122
theorem T123_ok : TabOk IP T123 := ⟨FE_ok c_u162q, T122_ok⟩
abbrev B_u41q : Type := Bool
def p_u41q : PArgs := ⟨[.agg [.int .i64, .int .i64, .str, .view 4], .agg [.int .i64, .int .i64, .str, .view 4], .view 2], []⟩
def r_u41q : List PRes := [⟨false, .bool, []⟩]
def tr_u41q (x0 x1 : Int) (x2 : List UInt8) (x3 : List AV) (x4 x5 : Int) (x6 : List UInt8) (x7 x8 : List AV) : DT B_u41q :=
 .bi (f_u142q x0 x1 x2 x3) (fun y0 =>
  .bi (br (!y0) (some true) (br (sm (f_u142q x4 x5 x6 x7)) (some !gv (f_u142q x4 x5 x6 x7)) none)) (fun y1 =>
   .bi (br y1 (some true) (some (decide ((↑x8.length : Int) > 100)))) (fun y2 =>
    .br (y2)
     (.bi (f_u141q) (fun y3 =>
      .at (y3))
      (.no))
     (.bi (f_u80q x0 x1 x2 x3 x8) (fun y3 =>
      .bi (f_u80q x4 x5 x6 x7 x8) (fun y4 =>
       .bi (br (y3.2.2.2 != 0) (some true) (some (y4.2.2.2 != 0))) (fun y5 =>
        .br (y5)
         (.bi (f_u141q) (fun y6 =>
          .at (y6))
          (.no))
         (.bi (f_u156q y3.1 y3.2.1 y3.2.2.1 y4.1 y4.2.1 y4.2.2.1) (fun y6 =>
          .bi (f_u162q x0 x1 x2 x3 x4 x5 x6 x7) (fun y7 =>
           .br (if false = true then !y6 == y7 else y6 == y7)
            (.bi (f_u141q) (fun y8 =>
             .at (y8))
             (.no))
            (.at (false)))
           (.no))
          (.no)))
        (.no))
       (.no))
      (.no)))
    (.no))
   (.no))
  (.no)
def f_u41q (x0 x1 : Int) (x2 : List UInt8) (x3 : List AV) (x4 x5 : Int) (x6 : List UInt8) (x7 x8 : List AV) : Option B_u41q := lock (tr_u41q x0 x1 x2 x3 x4 x5 x6 x7 x8).ev
theorem c_u41q : FH IP 8 p_u41q r_u41q (k9 f_u41q) := fun_FH (F := F8) (L := []) (t := (k9 tr_u41q)) T123_ok (LOk_of (l := []) (by kernel_rfl) trivial) (by kernel_rfl) (fun v => by kernel_rfl) (fun _ => lock_eq _)
def T124 : Tab := (8, FE p_u41q r_u41q (k9 f_u41q)) :: T123
theorem T124_ok : TabOk IP T124 := ⟨FE_ok c_u41q, T123_ok⟩
abbrev B_u56q : Type := Bool
def p_u56q : PArgs := ⟨[.agg [.int .i64, .view 2, .view 3], .int .i64, .int .i64], []⟩
def r_u56q : List PRes := [⟨false, .bool, []⟩]
def tr_u56q (x0 : Int) (x1 x2 : List AV) (x3 x4 : Int) : DT B_u56q :=
 .bi (br (decide ((↑x2.length : Int) > 120)) (some true) (some (decide ((↑x1.length : Int) > 100)))) (fun y0 =>
  .bi (br y0 (some true) (some (decide (x3 < 0)))) (fun y1 =>
   .bi (br y1 (some true) (some (decide (x3 ≥ (↑x2.length : Int))))) (fun y2 =>
    .bi (br y2 (some true) (br (decide (x4 > x3)) (some (decide (x4 ≤ (↑x2.length : Int)))) (some false))) (fun y3 =>
     .br (y3)
      (.bi (f_u141q) (fun y4 =>
       .at (y4))
       (.no))
      (.br (decide (x2.length = 0) && decide (3 = 3))
       (.no)
       (.br (decide (x2.length ≠ 0) && room x2.length 24)
        (.br (inB x2.length x3)
         (.br (okS x2 x3.toNat 0 3)
          (.bi (f_u57q x0 x1 (setE x2 x3.toNat 0 [AV.int IntKind.i64 4, AV.int IntKind.i64 x4, AV.int IntKind.i64 0])) (fun y4 =>
           .bi (br (y4 != 0)
               (br (sm (f_u130q x0 x1 (setE x2 x3.toNat 0 [AV.int IntKind.i64 4, AV.int IntKind.i64 x4, AV.int IntKind.i64 0])))
                 (some (gv (f_u130q x0 x1 (setE x2 x3.toNat 0 [AV.int IntKind.i64 4, AV.int IntKind.i64 x4, AV.int IntKind.i64 0])) == [])) none)
               (some false)) (fun y5 =>
            .bi (br y5
                (br (sm (f_u129q x0 x1 (setE x2 x3.toNat 0 [AV.int IntKind.i64 4, AV.int IntKind.i64 x4, AV.int IntKind.i64 0])))
                  (some (gv (f_u129q x0 x1 (setE x2 x3.toNat 0 [AV.int IntKind.i64 4, AV.int IntKind.i64 x4, AV.int IntKind.i64 0])) == 0)) none)
                (some false)) (fun y6 =>
             .bi (br y6 (br (sm f_u141q) (some (gv f_u141q)) none) (some false)) (fun y7 =>
              .at (y7))
              (.no))
             (.no))
            (.no))
           (.no))
          (.no))
         (.no))
        (.no))))
     (.no))
    (.no))
   (.no))
  (.no)
def f_u56q (x0 : Int) (x1 x2 : List AV) (x3 x4 : Int) : Option B_u56q := lock (tr_u56q x0 x1 x2 x3 x4).ev
theorem f_u56q_eq (x0 : Int) (x1 x2 : List AV) (x3 x4 : Int) : f_u56q x0 x1 x2 x3 x4 = (tr_u56q x0 x1 x2 x3 x4).ev := lock_eq _
theorem c_u56q : FH IP 9 p_u56q r_u56q (k5 f_u56q) := fun_FH (F := F9) (L := []) (t := (k5 tr_u56q)) T124_ok (LOk_of (l := []) (by kernel_rfl) trivial) (by kernel_rfl) (fun v => by kernel_rfl) (fun _ => lock_eq _)
end
end Go.Proofs.H12

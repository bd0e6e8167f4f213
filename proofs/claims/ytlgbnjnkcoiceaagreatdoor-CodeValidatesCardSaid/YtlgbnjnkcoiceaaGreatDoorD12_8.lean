/- Functions over plain data. Printed by a program of mine. -/
import Derived.Test.YtlgbnjnkcoiceaaGreatDoorD12_7
import Derived.KernelRfl
set_option linter.unusedVariables false
set_option linter.unusedSimpArgs false
set_option linter.unnecessarySimpa false
namespace Go.Proofs.H12
open Go Go.Eng
set_option maxRecDepth 100000
noncomputable section
abbrev B_u174q : Type := Int × Int
def p_u174q : PArgs := ⟨[.agg [.int .i64, .view 2, .view 3]], []⟩
def r_u174q : List PRes := [⟨false, .tup [.int .i64, .int .i64], []⟩]
def tr_u174q (x0 : Int) (x1 x2 : List AV) : DT B_u174q :=
 .br (decide ((↑x2.length : Int) > 128))
  (.at ((0, 5)))
  (.bi (f_u165q x1) (fun y0 =>
   .br (y0 != 0)
    (.at ((0, y0)))
    (.br (decide (0 ≤ IntKind.i64.wrap ((↑x2.length : Int) + 1)) && decide (IntKind.i64.wrap ((↑x2.length : Int) + 1) ≤ IntKind.i64.wrap ((↑x2.length : Int) + 1)) &&
          room (IntKind.i64.wrap ((↑x2.length : Int) + 1)).toNat 32 &&
        decide (IntKind.i64.wrap ((↑x2.length : Int) + 1) ≤ 4611686018427387904))
     (.br (inB (List.replicate (IntKind.i64.wrap ((↑x2.length : Int) + 1)).toNat (AV.agg [AV.bool false, AV.bool false, AV.view 1 []])).length 0)
      (.br (okS (List.replicate (IntKind.i64.wrap ((↑x2.length : Int) + 1)).toNat (AV.agg [AV.bool false, AV.bool false, AV.view 1 []])) 0 0 1)
       (.bi (pj 0
           (l_u155q
             ((↑x2.length : Int), 0, 0, x0, x1, x2,
               setE (List.replicate (IntKind.i64.wrap ((↑x2.length : Int) + 1)).toNat (AV.agg [AV.bool false, AV.bool false, AV.view 1 []])) 0 0 [AV.bool true]))) (fun y1 =>
        .at ((0, 9)))
        (.bi (pj 1
            (l_u155q
              ((↑x2.length : Int), 0, 0, x0, x1, x2,
                setE (List.replicate (IntKind.i64.wrap ((↑x2.length : Int) + 1)).toNat (AV.agg [AV.bool false, AV.bool false, AV.view 1 []])) 0 0 [AV.bool true]))) (fun y1 =>
         .br (inB y1.2.2.2.2.2.2.length y1.1)
          (.br (okP [CS.slice 1] y1.2.2.2.2.2.2 y1.1.toNat 2)
           (.bi (f_u79q (viewOf (cellN y1.2.2.2.2.2.2 y1.1.toNat 2)) [AV.int IntKind.i64 y1.2.2.2.1]) (fun y2 =>
            .br (!y2)
             (.at ((0, 9)))
             (.at ((if (↑(viewOf (cellN y1.2.2.2.2.2.2 y1.2.2.1.toNat 2)).length : Int) > y1.2.1 then
  (↑(viewOf (cellN y1.2.2.2.2.2.2 y1.2.2.1.toNat 2)).length : Int)
else y1.2.1, 0))))
            (.no))
           (.no))
          (.no))
         (.bi (pj 2
             (l_u155q
               ((↑x2.length : Int), 0, 0, x0, x1, x2,
                 setE (List.replicate (IntKind.i64.wrap ((↑x2.length : Int) + 1)).toNat (AV.agg [AV.bool false, AV.bool false, AV.view 1 []])) 0 0 [AV.bool true]))) (fun y1 =>
          .at ((0, 9)))
          (.bi (pj 3
              (l_u155q
                ((↑x2.length : Int), 0, 0, x0, x1, x2,
                  setE (List.replicate (IntKind.i64.wrap ((↑x2.length : Int) + 1)).toNat (AV.agg [AV.bool false, AV.bool false, AV.view 1 []])) 0 0 [AV.bool true]))) (fun y1 =>
           .at ((0, 5)))
           (.bi (pj 4
               (l_u155q
                 ((↑x2.length : Int), 0, 0, x0, x1, x2,
                   setE (List.replicate (IntKind.i64.wrap ((↑x2.length : Int) + 1)).toNat (AV.agg [AV.bool false, AV.bool false, AV.view 1 []])) 0 0 [AV.bool true]))) (fun y1 =>
            .br (inB y1.2.2.2.2.2.2.length y1.1)
             (.br (okP [CS.slice 1] y1.2.2.2.2.2.2 y1.1.toNat 2)
              (.bi (f_u79q (viewOf (cellN y1.2.2.2.2.2.2 y1.1.toNat 2)) [AV.int IntKind.i64 y1.2.2.2.1]) (fun y2 =>
               .br (!y2) (.at ((0, 9))) (.at ((y1.2.1, 0))))
               (.no))
              (.no))
             (.no))
            (.no))))))
       (.no))
      (.no))
     (.no)))
   (.no))
def f_u174q (x0 : Int) (x1 x2 : List AV) : Option B_u174q := lock (tr_u174q x0 x1 x2).ev
theorem f_u174q_eq (x0 : Int) (x1 x2 : List AV) : f_u174q x0 x1 x2 = (tr_u174q x0 x1 x2).ev := lock_eq _
theorem c_u174q : FH IP 35 p_u174q r_u174q (k3 f_u174q) := fun_FH (F := F35) (L := [(1003500, ll_u155q)]) (t := (k3 tr_u174q)) T113_ok (LOk_of (l := [loopAt F35 0]) (by kernel_rfl) ⟨sel_one (by kernel_rfl) t_u155q, trivial⟩) (by kernel_rfl) (fun v => by kernel_rfl) (fun _ => lock_eq _)
def T114 : Tab := (35, FE p_u174q r_u174q (k3 f_u174q)) :: T113
theorem T114_ok : TabOk IP T114 := ⟨FE_ok c_u174q, T113_ok⟩
abbrev B_u77q : Type := Int
def p_u77q : PArgs := ⟨[.agg [.int .i64, .view 2, .view 3]], []⟩
def r_u77q : List PRes := [⟨false, .int .i64, []⟩]
def tr_u77q (x0 : Int) (x1 x2 : List AV) : DT B_u77q :=
 .bi (f_u174q x0 x1 x2) (fun y0 =>
  .at (y0.2))
  (.no)
def f_u77q (x0 : Int) (x1 x2 : List AV) : Option B_u77q := lock (tr_u77q x0 x1 x2).ev
theorem f_u77q_eq (x0 : Int) (x1 x2 : List AV) : f_u77q x0 x1 x2 = (tr_u77q x0 x1 x2).ev := lock_eq _
theorem c_u77q : FH IP 17 p_u77q r_u77q (k3 f_u77q) := fun_FH (F := F17) (L := []) (t := (k3 tr_u77q)) T114_ok (LOk_of (l := []) (by kernel_rfl) trivial) (by kernel_rfl) (fun v => by kernel_rfl) (fun _ => lock_eq _)
def T115 : Tab := (17, FE p_u77q r_u77q (k3 f_u77q)) :: T114
theorem T115_ok : TabOk IP T115 := ⟨FE_ok c_u77q, T114_ok⟩
abbrev B_u150q : Type := Int
def p_u150q : PArgs := ⟨[.agg [.int .i64, .view 2, .view 3]], []⟩
def r_u150q : List PRes := [⟨false, .int .i64, []⟩]
def tr_u150q (x0 : Int) (x1 x2 : List AV) : DT B_u150q :=
 .bi (f_u174q x0 x1 x2) (fun y0 =>
  .at (y0.1))
  (.no)
def f_u150q (x0 : Int) (x1 x2 : List AV) : Option B_u150q := lock (tr_u150q x0 x1 x2).ev
theorem f_u150q_eq (x0 : Int) (x1 x2 : List AV) : f_u150q x0 x1 x2 = (tr_u150q x0 x1 x2).ev := lock_eq _
theorem c_u150q : FH IP 19 p_u150q r_u150q (k3 f_u150q) := fun_FH (F := F19) (L := []) (t := (k3 tr_u150q)) T115_ok (LOk_of (l := []) (by kernel_rfl) trivial) (by kernel_rfl) (fun v => by kernel_rfl) (fun _ => lock_eq _)
def T116 : Tab := (19, FE p_u150q r_u150q (k3 f_u150q)) :: T115
theorem T116_ok : TabOk IP T116 := ⟨FE_ok c_u150q, T115_ok⟩
abbrev B_u30q : Type := Bool
def p_u30q : PArgs := ⟨[.agg [.int .i64, .view 2, .view 3]], []⟩
def r_u30q : List PRes := [⟨false, .bool, []⟩]
def tr_u30q (x0 : Int) (x1 x2 : List AV) : DT B_u30q :=
 .bi (f_u172q x0 x1 x2) (fun y0 =>
  .br (!y0)
   (.bi (f_u141q) (fun y1 =>
    .at (y1))
    (.no))
   (.bi (f_u57q x0 x1 x2) (fun y1 =>
    .bi (f_u77q x0 x1 x2) (fun y2 =>
     .br (y1 == y2)
      (.bi (f_u129q x0 x1 x2) (fun y3 =>
       .bi (f_u150q x0 x1 x2) (fun y4 =>
        .br (y3 == y4)
         (.bi (f_u141q) (fun y5 =>
          .at (y5))
          (.no))
         (.at (false)))
        (.no))
       (.no))
      (.at (false)))
     (.no))
    (.no)))
  (.no)
def f_u30q (x0 : Int) (x1 x2 : List AV) : Option B_u30q := lock (tr_u30q x0 x1 x2).ev
theorem f_u30q_eq (x0 : Int) (x1 x2 : List AV) : f_u30q x0 x1 x2 = (tr_u30q x0 x1 x2).ev := lock_eq _
theorem c_u30q : FH IP 4 p_u30q r_u30q (k3 f_u30q) := fun_FH (F := F4) (L := []) (t := (k3 tr_u30q)) T116_ok (LOk_of (l := []) (by kernel_rfl) trivial) (by kernel_rfl) (fun v => by kernel_rfl) (fun _ => lock_eq _)
end
end Go.Proofs.H12

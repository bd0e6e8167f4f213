/- Functions over plain data. Printed by a program of mine. -/
import Derived.Test.YthljpgljbpdmjaaGreatDoorD15v_6
import Derived.KernelRfl
set_option linter.unusedVariables false
set_option linter.unusedSimpArgs false
set_option linter.unnecessarySimpa false
namespace Go.Proofs.H15v
open Go Go.Eng
set_option maxRecDepth 100000
abbrev B_u108q : Type := Bool
def p_u108q : PArgs := ⟨[], []⟩
def r_u108q : List PRes := [⟨false, .bool, []⟩]
noncomputable def tr_u108q : DT B_u108q :=
 .bi (f_u112q) (fun y0 =>
  .bi (f_u73q) (fun y1 =>
   .bi (f_u60q y0.fst y0.snd.fst y0.snd.snd.fst y0.snd.snd.snd.fst y0.snd.snd.snd.snd.fst y0.snd.snd.snd.snd.snd.fst y0.snd.snd.snd.snd.snd.snd.fst
       y0.snd.snd.snd.snd.snd.snd.snd.fst y0.snd.snd.snd.snd.snd.snd.snd.snd.fst y0.snd.snd.snd.snd.snd.snd.snd.snd.snd.fst y0.snd.snd.snd.snd.snd.snd.snd.snd.snd.snd.fst
       y0.snd.snd.snd.snd.snd.snd.snd.snd.snd.snd.snd.fst y0.snd.snd.snd.snd.snd.snd.snd.snd.snd.snd.snd.snd.fst y0.snd.snd.snd.snd.snd.snd.snd.snd.snd.snd.snd.snd.snd.fst
       y0.snd.snd.snd.snd.snd.snd.snd.snd.snd.snd.snd.snd.snd.snd.fst y0.snd.snd.snd.snd.snd.snd.snd.snd.snd.snd.snd.snd.snd.snd.snd.fst
       y0.snd.snd.snd.snd.snd.snd.snd.snd.snd.snd.snd.snd.snd.snd.snd.snd.fst y0.snd.snd.snd.snd.snd.snd.snd.snd.snd.snd.snd.snd.snd.snd.snd.snd.snd.fst
       y0.snd.snd.snd.snd.snd.snd.snd.snd.snd.snd.snd.snd.snd.snd.snd.snd.snd.snd [AV.agg [AV.str [69, 85, 82], AV.int IntKind.i64 2]]
       [AV.agg [AV.str [104, 111, 109, 101], AV.view 1 [], AV.view 1 []]]) (fun y2 =>
    .bi (br (y2 == 0)
        (br
          (sm
            (f_u60q y0.fst y0.snd.fst y0.snd.snd.fst y0.snd.snd.snd.fst 2 y0.snd.snd.snd.snd.snd.fst y0.snd.snd.snd.snd.snd.snd.fst y0.snd.snd.snd.snd.snd.snd.snd.fst
              y0.snd.snd.snd.snd.snd.snd.snd.snd.fst y0.snd.snd.snd.snd.snd.snd.snd.snd.snd.fst y0.snd.snd.snd.snd.snd.snd.snd.snd.snd.snd.fst
              y0.snd.snd.snd.snd.snd.snd.snd.snd.snd.snd.snd.fst y0.snd.snd.snd.snd.snd.snd.snd.snd.snd.snd.snd.snd.fst y0.snd.snd.snd.snd.snd.snd.snd.snd.snd.snd.snd.snd.snd.fst
              y0.snd.snd.snd.snd.snd.snd.snd.snd.snd.snd.snd.snd.snd.snd.fst y0.snd.snd.snd.snd.snd.snd.snd.snd.snd.snd.snd.snd.snd.snd.snd.fst
              y0.snd.snd.snd.snd.snd.snd.snd.snd.snd.snd.snd.snd.snd.snd.snd.snd.fst y0.snd.snd.snd.snd.snd.snd.snd.snd.snd.snd.snd.snd.snd.snd.snd.snd.snd.fst
              y0.snd.snd.snd.snd.snd.snd.snd.snd.snd.snd.snd.snd.snd.snd.snd.snd.snd.snd [AV.agg [AV.str [69, 85, 82], AV.int IntKind.i64 2]]
              [AV.agg [AV.str [104, 111, 109, 101], AV.view 1 [], AV.view 1 []]]))
          (some
            (gv
                (f_u60q y0.fst y0.snd.fst y0.snd.snd.fst y0.snd.snd.snd.fst 2 y0.snd.snd.snd.snd.snd.fst y0.snd.snd.snd.snd.snd.snd.fst y0.snd.snd.snd.snd.snd.snd.snd.fst
                  y0.snd.snd.snd.snd.snd.snd.snd.snd.fst y0.snd.snd.snd.snd.snd.snd.snd.snd.snd.fst y0.snd.snd.snd.snd.snd.snd.snd.snd.snd.snd.fst
                  y0.snd.snd.snd.snd.snd.snd.snd.snd.snd.snd.snd.fst y0.snd.snd.snd.snd.snd.snd.snd.snd.snd.snd.snd.snd.fst y0.snd.snd.snd.snd.snd.snd.snd.snd.snd.snd.snd.snd.snd.fst
                  y0.snd.snd.snd.snd.snd.snd.snd.snd.snd.snd.snd.snd.snd.snd.fst y0.snd.snd.snd.snd.snd.snd.snd.snd.snd.snd.snd.snd.snd.snd.snd.fst
                  y0.snd.snd.snd.snd.snd.snd.snd.snd.snd.snd.snd.snd.snd.snd.snd.snd.fst y0.snd.snd.snd.snd.snd.snd.snd.snd.snd.snd.snd.snd.snd.snd.snd.snd.snd.fst
                  y0.snd.snd.snd.snd.snd.snd.snd.snd.snd.snd.snd.snd.snd.snd.snd.snd.snd.snd [AV.agg [AV.str [69, 85, 82], AV.int IntKind.i64 2]]
                  [AV.agg [AV.str [104, 111, 109, 101], AV.view 1 [], AV.view 1 []]]) ==
              1))
          none)
        (some false)) (fun y3 =>
     .bi (br y3 (some ((↑y1.length : Int) == 7)) (some false)) (fun y4 =>
      .bi (br y4
          (br (okAt [CS.str, CS.int IntKind.i64] y1 6)
            (some
              (if false = true then
                !((List.brecOn.go (motive := fun x => List UInt8 → Bool) (strOf (cellAt y1 6 0)) List.beq._f).1 [100, 97, 121] &&
                    (Decidable.rec (fun h => (fun x => false) h) (fun h => (fun x => true) h) ((intOf (cellAt y1 6 1)).instDecidableEq 4) && true))
              else
                (List.brecOn.go (motive := fun x => List UInt8 → Bool) (strOf (cellAt y1 6 0)) List.beq._f).1 [100, 97, 121] &&
                  (Decidable.rec (fun h => (fun x => false) h) (fun h => (fun x => true) h) ((intOf (cellAt y1 6 1)).instDecidableEq 4) && true)))
            none)
          (some false)) (fun y5 =>
       .bi (br y5
           (br
             (sm
               (f_u70q y0.fst y0.snd.fst y0.snd.snd.fst y0.snd.snd.snd.fst y0.snd.snd.snd.snd.fst y0.snd.snd.snd.snd.snd.fst y0.snd.snd.snd.snd.snd.snd.fst
                 y0.snd.snd.snd.snd.snd.snd.snd.fst y0.snd.snd.snd.snd.snd.snd.snd.snd.fst y0.snd.snd.snd.snd.snd.snd.snd.snd.snd.fst y0.snd.snd.snd.snd.snd.snd.snd.snd.snd.snd.fst
                 y0.snd.snd.snd.snd.snd.snd.snd.snd.snd.snd.snd.fst y0.snd.snd.snd.snd.snd.snd.snd.snd.snd.snd.snd.snd.fst y0.snd.snd.snd.snd.snd.snd.snd.snd.snd.snd.snd.snd.snd.fst
                 y0.snd.snd.snd.snd.snd.snd.snd.snd.snd.snd.snd.snd.snd.snd.fst y0.snd.snd.snd.snd.snd.snd.snd.snd.snd.snd.snd.snd.snd.snd.snd.fst
                 y0.snd.snd.snd.snd.snd.snd.snd.snd.snd.snd.snd.snd.snd.snd.snd.snd.fst y0.snd.snd.snd.snd.snd.snd.snd.snd.snd.snd.snd.snd.snd.snd.snd.snd.snd.fst
                 y0.snd.snd.snd.snd.snd.snd.snd.snd.snd.snd.snd.snd.snd.snd.snd.snd.snd.snd 1))
             (some
               ((↑(gv
                         (f_u70q y0.fst y0.snd.fst y0.snd.snd.fst y0.snd.snd.snd.fst y0.snd.snd.snd.snd.fst y0.snd.snd.snd.snd.snd.fst y0.snd.snd.snd.snd.snd.snd.fst
                           y0.snd.snd.snd.snd.snd.snd.snd.fst y0.snd.snd.snd.snd.snd.snd.snd.snd.fst y0.snd.snd.snd.snd.snd.snd.snd.snd.snd.fst
                           y0.snd.snd.snd.snd.snd.snd.snd.snd.snd.snd.fst y0.snd.snd.snd.snd.snd.snd.snd.snd.snd.snd.snd.fst y0.snd.snd.snd.snd.snd.snd.snd.snd.snd.snd.snd.snd.fst
                           y0.snd.snd.snd.snd.snd.snd.snd.snd.snd.snd.snd.snd.snd.fst y0.snd.snd.snd.snd.snd.snd.snd.snd.snd.snd.snd.snd.snd.snd.fst
                           y0.snd.snd.snd.snd.snd.snd.snd.snd.snd.snd.snd.snd.snd.snd.snd.fst y0.snd.snd.snd.snd.snd.snd.snd.snd.snd.snd.snd.snd.snd.snd.snd.snd.fst
                           y0.snd.snd.snd.snd.snd.snd.snd.snd.snd.snd.snd.snd.snd.snd.snd.snd.snd.fst y0.snd.snd.snd.snd.snd.snd.snd.snd.snd.snd.snd.snd.snd.snd.snd.snd.snd.snd 1)).length :
                   Int) ==
                 1))
             none)
           (some false)) (fun y6 =>
        .bi (br y6
            (br
              (sm
                (f_u72q y0.fst y0.snd.fst y0.snd.snd.fst y0.snd.snd.snd.fst y0.snd.snd.snd.snd.fst y0.snd.snd.snd.snd.snd.fst y0.snd.snd.snd.snd.snd.snd.fst
                  y0.snd.snd.snd.snd.snd.snd.snd.fst y0.snd.snd.snd.snd.snd.snd.snd.snd.fst y0.snd.snd.snd.snd.snd.snd.snd.snd.snd.fst y0.snd.snd.snd.snd.snd.snd.snd.snd.snd.snd.fst
                  y0.snd.snd.snd.snd.snd.snd.snd.snd.snd.snd.snd.fst y0.snd.snd.snd.snd.snd.snd.snd.snd.snd.snd.snd.snd.fst y0.snd.snd.snd.snd.snd.snd.snd.snd.snd.snd.snd.snd.snd.fst
                  y0.snd.snd.snd.snd.snd.snd.snd.snd.snd.snd.snd.snd.snd.snd.fst y0.snd.snd.snd.snd.snd.snd.snd.snd.snd.snd.snd.snd.snd.snd.snd.fst
                  y0.snd.snd.snd.snd.snd.snd.snd.snd.snd.snd.snd.snd.snd.snd.snd.snd.fst y0.snd.snd.snd.snd.snd.snd.snd.snd.snd.snd.snd.snd.snd.snd.snd.snd.snd.fst
                  y0.snd.snd.snd.snd.snd.snd.snd.snd.snd.snd.snd.snd.snd.snd.snd.snd.snd.snd (-1)))
              (some
                ((gv
                          (f_u72q y0.fst y0.snd.fst y0.snd.snd.fst y0.snd.snd.snd.fst y0.snd.snd.snd.snd.fst y0.snd.snd.snd.snd.snd.fst y0.snd.snd.snd.snd.snd.snd.fst
                            y0.snd.snd.snd.snd.snd.snd.snd.fst y0.snd.snd.snd.snd.snd.snd.snd.snd.fst y0.snd.snd.snd.snd.snd.snd.snd.snd.snd.fst
                            y0.snd.snd.snd.snd.snd.snd.snd.snd.snd.snd.fst y0.snd.snd.snd.snd.snd.snd.snd.snd.snd.snd.snd.fst y0.snd.snd.snd.snd.snd.snd.snd.snd.snd.snd.snd.snd.fst
                            y0.snd.snd.snd.snd.snd.snd.snd.snd.snd.snd.snd.snd.snd.fst y0.snd.snd.snd.snd.snd.snd.snd.snd.snd.snd.snd.snd.snd.snd.fst
                            y0.snd.snd.snd.snd.snd.snd.snd.snd.snd.snd.snd.snd.snd.snd.snd.fst y0.snd.snd.snd.snd.snd.snd.snd.snd.snd.snd.snd.snd.snd.snd.snd.snd.fst
                            y0.snd.snd.snd.snd.snd.snd.snd.snd.snd.snd.snd.snd.snd.snd.snd.snd.snd.fst y0.snd.snd.snd.snd.snd.snd.snd.snd.snd.snd.snd.snd.snd.snd.snd.snd.snd.snd
                            (-1))).snd.snd.fst ==
                  2))
              none)
            (some false)) (fun y7 =>
         .bi (br y7
             (br
               (sm
                 (f_u71q y0.fst y0.snd.fst y0.snd.snd.fst y0.snd.snd.snd.fst y0.snd.snd.snd.snd.fst y0.snd.snd.snd.snd.snd.fst y0.snd.snd.snd.snd.snd.snd.fst
                   y0.snd.snd.snd.snd.snd.snd.snd.fst y0.snd.snd.snd.snd.snd.snd.snd.snd.fst y0.snd.snd.snd.snd.snd.snd.snd.snd.snd.fst y0.snd.snd.snd.snd.snd.snd.snd.snd.snd.snd.fst
                   y0.snd.snd.snd.snd.snd.snd.snd.snd.snd.snd.snd.fst y0.snd.snd.snd.snd.snd.snd.snd.snd.snd.snd.snd.snd.fst y0.snd.snd.snd.snd.snd.snd.snd.snd.snd.snd.snd.snd.snd.fst
                   y0.snd.snd.snd.snd.snd.snd.snd.snd.snd.snd.snd.snd.snd.snd.fst y0.snd.snd.snd.snd.snd.snd.snd.snd.snd.snd.snd.snd.snd.snd.snd.fst
                   y0.snd.snd.snd.snd.snd.snd.snd.snd.snd.snd.snd.snd.snd.snd.snd.snd.fst y0.snd.snd.snd.snd.snd.snd.snd.snd.snd.snd.snd.snd.snd.snd.snd.snd.snd.fst
                   y0.snd.snd.snd.snd.snd.snd.snd.snd.snd.snd.snd.snd.snd.snd.snd.snd.snd.snd y0.fst y0.snd.fst y0.snd.snd.fst y0.snd.snd.snd.fst y0.snd.snd.snd.snd.fst
                   y0.snd.snd.snd.snd.snd.fst y0.snd.snd.snd.snd.snd.snd.fst y0.snd.snd.snd.snd.snd.snd.snd.fst y0.snd.snd.snd.snd.snd.snd.snd.snd.fst
                   y0.snd.snd.snd.snd.snd.snd.snd.snd.snd.fst y0.snd.snd.snd.snd.snd.snd.snd.snd.snd.snd.fst y0.snd.snd.snd.snd.snd.snd.snd.snd.snd.snd.snd.fst
                   y0.snd.snd.snd.snd.snd.snd.snd.snd.snd.snd.snd.snd.fst y0.snd.snd.snd.snd.snd.snd.snd.snd.snd.snd.snd.snd.snd.fst
                   y0.snd.snd.snd.snd.snd.snd.snd.snd.snd.snd.snd.snd.snd.snd.fst y0.snd.snd.snd.snd.snd.snd.snd.snd.snd.snd.snd.snd.snd.snd.snd.fst
                   y0.snd.snd.snd.snd.snd.snd.snd.snd.snd.snd.snd.snd.snd.snd.snd.snd.fst y0.snd.snd.snd.snd.snd.snd.snd.snd.snd.snd.snd.snd.snd.snd.snd.snd.snd.fst
                   y0.snd.snd.snd.snd.snd.snd.snd.snd.snd.snd.snd.snd.snd.snd.snd.snd.snd.snd))
               (some
                 (gv
                   (f_u71q y0.fst y0.snd.fst y0.snd.snd.fst y0.snd.snd.snd.fst y0.snd.snd.snd.snd.fst y0.snd.snd.snd.snd.snd.fst y0.snd.snd.snd.snd.snd.snd.fst
                     y0.snd.snd.snd.snd.snd.snd.snd.fst y0.snd.snd.snd.snd.snd.snd.snd.snd.fst y0.snd.snd.snd.snd.snd.snd.snd.snd.snd.fst y0.snd.snd.snd.snd.snd.snd.snd.snd.snd.snd.fst
                     y0.snd.snd.snd.snd.snd.snd.snd.snd.snd.snd.snd.fst y0.snd.snd.snd.snd.snd.snd.snd.snd.snd.snd.snd.snd.fst y0.snd.snd.snd.snd.snd.snd.snd.snd.snd.snd.snd.snd.snd.fst
                     y0.snd.snd.snd.snd.snd.snd.snd.snd.snd.snd.snd.snd.snd.snd.fst y0.snd.snd.snd.snd.snd.snd.snd.snd.snd.snd.snd.snd.snd.snd.snd.fst
                     y0.snd.snd.snd.snd.snd.snd.snd.snd.snd.snd.snd.snd.snd.snd.snd.snd.fst y0.snd.snd.snd.snd.snd.snd.snd.snd.snd.snd.snd.snd.snd.snd.snd.snd.snd.fst
                     y0.snd.snd.snd.snd.snd.snd.snd.snd.snd.snd.snd.snd.snd.snd.snd.snd.snd.snd y0.fst y0.snd.fst y0.snd.snd.fst y0.snd.snd.snd.fst y0.snd.snd.snd.snd.fst
                     y0.snd.snd.snd.snd.snd.fst y0.snd.snd.snd.snd.snd.snd.fst y0.snd.snd.snd.snd.snd.snd.snd.fst y0.snd.snd.snd.snd.snd.snd.snd.snd.fst
                     y0.snd.snd.snd.snd.snd.snd.snd.snd.snd.fst y0.snd.snd.snd.snd.snd.snd.snd.snd.snd.snd.fst y0.snd.snd.snd.snd.snd.snd.snd.snd.snd.snd.snd.fst
                     y0.snd.snd.snd.snd.snd.snd.snd.snd.snd.snd.snd.snd.fst y0.snd.snd.snd.snd.snd.snd.snd.snd.snd.snd.snd.snd.snd.fst
                     y0.snd.snd.snd.snd.snd.snd.snd.snd.snd.snd.snd.snd.snd.snd.fst y0.snd.snd.snd.snd.snd.snd.snd.snd.snd.snd.snd.snd.snd.snd.snd.fst
                     y0.snd.snd.snd.snd.snd.snd.snd.snd.snd.snd.snd.snd.snd.snd.snd.snd.fst y0.snd.snd.snd.snd.snd.snd.snd.snd.snd.snd.snd.snd.snd.snd.snd.snd.snd.fst
                     y0.snd.snd.snd.snd.snd.snd.snd.snd.snd.snd.snd.snd.snd.snd.snd.snd.snd.snd)))
               none)
             (some false)) (fun y8 =>
          .bi (br y8
              (br
                (sm
                  (f_u71q y0.fst y0.snd.fst y0.snd.snd.fst y0.snd.snd.snd.fst y0.snd.snd.snd.snd.fst y0.snd.snd.snd.snd.snd.fst y0.snd.snd.snd.snd.snd.snd.fst
                    y0.snd.snd.snd.snd.snd.snd.snd.fst y0.snd.snd.snd.snd.snd.snd.snd.snd.fst y0.snd.snd.snd.snd.snd.snd.snd.snd.snd.fst y0.snd.snd.snd.snd.snd.snd.snd.snd.snd.snd.fst
                    y0.snd.snd.snd.snd.snd.snd.snd.snd.snd.snd.snd.fst y0.snd.snd.snd.snd.snd.snd.snd.snd.snd.snd.snd.snd.fst y0.snd.snd.snd.snd.snd.snd.snd.snd.snd.snd.snd.snd.snd.fst
                    y0.snd.snd.snd.snd.snd.snd.snd.snd.snd.snd.snd.snd.snd.snd.fst y0.snd.snd.snd.snd.snd.snd.snd.snd.snd.snd.snd.snd.snd.snd.snd.fst
                    y0.snd.snd.snd.snd.snd.snd.snd.snd.snd.snd.snd.snd.snd.snd.snd.snd.fst y0.snd.snd.snd.snd.snd.snd.snd.snd.snd.snd.snd.snd.snd.snd.snd.snd.snd.fst
                    y0.snd.snd.snd.snd.snd.snd.snd.snd.snd.snd.snd.snd.snd.snd.snd.snd.snd.snd y0.fst y0.snd.fst y0.snd.snd.fst y0.snd.snd.snd.fst 2 y0.snd.snd.snd.snd.snd.fst
                    y0.snd.snd.snd.snd.snd.snd.fst y0.snd.snd.snd.snd.snd.snd.snd.fst y0.snd.snd.snd.snd.snd.snd.snd.snd.fst y0.snd.snd.snd.snd.snd.snd.snd.snd.snd.fst
                    y0.snd.snd.snd.snd.snd.snd.snd.snd.snd.snd.fst y0.snd.snd.snd.snd.snd.snd.snd.snd.snd.snd.snd.fst y0.snd.snd.snd.snd.snd.snd.snd.snd.snd.snd.snd.snd.fst
                    y0.snd.snd.snd.snd.snd.snd.snd.snd.snd.snd.snd.snd.snd.fst y0.snd.snd.snd.snd.snd.snd.snd.snd.snd.snd.snd.snd.snd.snd.fst
                    y0.snd.snd.snd.snd.snd.snd.snd.snd.snd.snd.snd.snd.snd.snd.snd.fst y0.snd.snd.snd.snd.snd.snd.snd.snd.snd.snd.snd.snd.snd.snd.snd.snd.fst
                    y0.snd.snd.snd.snd.snd.snd.snd.snd.snd.snd.snd.snd.snd.snd.snd.snd.snd.fst y0.snd.snd.snd.snd.snd.snd.snd.snd.snd.snd.snd.snd.snd.snd.snd.snd.snd.snd))
                (some
                  !gv
                      (f_u71q y0.fst y0.snd.fst y0.snd.snd.fst y0.snd.snd.snd.fst y0.snd.snd.snd.snd.fst y0.snd.snd.snd.snd.snd.fst y0.snd.snd.snd.snd.snd.snd.fst
                        y0.snd.snd.snd.snd.snd.snd.snd.fst y0.snd.snd.snd.snd.snd.snd.snd.snd.fst y0.snd.snd.snd.snd.snd.snd.snd.snd.snd.fst y0.snd.snd.snd.snd.snd.snd.snd.snd.snd.snd.fst
                        y0.snd.snd.snd.snd.snd.snd.snd.snd.snd.snd.snd.fst y0.snd.snd.snd.snd.snd.snd.snd.snd.snd.snd.snd.snd.fst y0.snd.snd.snd.snd.snd.snd.snd.snd.snd.snd.snd.snd.snd.fst
                        y0.snd.snd.snd.snd.snd.snd.snd.snd.snd.snd.snd.snd.snd.snd.fst y0.snd.snd.snd.snd.snd.snd.snd.snd.snd.snd.snd.snd.snd.snd.snd.fst
                        y0.snd.snd.snd.snd.snd.snd.snd.snd.snd.snd.snd.snd.snd.snd.snd.snd.fst y0.snd.snd.snd.snd.snd.snd.snd.snd.snd.snd.snd.snd.snd.snd.snd.snd.snd.fst
                        y0.snd.snd.snd.snd.snd.snd.snd.snd.snd.snd.snd.snd.snd.snd.snd.snd.snd.snd y0.fst y0.snd.fst y0.snd.snd.fst y0.snd.snd.snd.fst 2 y0.snd.snd.snd.snd.snd.fst
                        y0.snd.snd.snd.snd.snd.snd.fst y0.snd.snd.snd.snd.snd.snd.snd.fst y0.snd.snd.snd.snd.snd.snd.snd.snd.fst y0.snd.snd.snd.snd.snd.snd.snd.snd.snd.fst
                        y0.snd.snd.snd.snd.snd.snd.snd.snd.snd.snd.fst y0.snd.snd.snd.snd.snd.snd.snd.snd.snd.snd.snd.fst y0.snd.snd.snd.snd.snd.snd.snd.snd.snd.snd.snd.snd.fst
                        y0.snd.snd.snd.snd.snd.snd.snd.snd.snd.snd.snd.snd.snd.fst y0.snd.snd.snd.snd.snd.snd.snd.snd.snd.snd.snd.snd.snd.snd.fst
                        y0.snd.snd.snd.snd.snd.snd.snd.snd.snd.snd.snd.snd.snd.snd.snd.fst y0.snd.snd.snd.snd.snd.snd.snd.snd.snd.snd.snd.snd.snd.snd.snd.snd.fst
                        y0.snd.snd.snd.snd.snd.snd.snd.snd.snd.snd.snd.snd.snd.snd.snd.snd.snd.fst y0.snd.snd.snd.snd.snd.snd.snd.snd.snd.snd.snd.snd.snd.snd.snd.snd.snd.snd))
                none)
              (some false)) (fun y9 =>
           .at (y9))
           (.no))
          (.no))
         (.no))
        (.no))
       (.no))
      (.no))
     (.no))
    (.no))
   (.no))
  (.no)
noncomputable def f_u108q : Option B_u108q := lock (tr_u108q).ev
theorem f_u108q_eq : f_u108q = (tr_u108q).ev := lock_eq _
theorem c_u108q : FH IP 10 p_u108q r_u108q (fun (v : Unit) => (f_u108q : Option B_u108q)) := fun_FH (F := F10) (L := []) (t := fun (v : Unit) => tr_u108q) T80_ok (LOk_of (l := []) (by kernel_rfl) trivial) (by kernel_rfl) (fun v => by kernel_rfl) (fun v => f_u108q_eq)
noncomputable def T81 : Tab := (10, FE p_u108q r_u108q (fun (v : Unit) => (f_u108q : Option B_u108q))) :: T80
theorem T81_ok : TabOk IP T81 := ⟨FE_ok c_u108q, T80_ok⟩
abbrev B_u33q : Type := Bool
def p_u33q : PArgs := ⟨[.int .i64], []⟩
def r_u33q : List PRes := [⟨false, .bool, []⟩]
noncomputable def tr_u33q (x0 : Int) : DT B_u33q :=
 .bi (f_u73q) (fun y0 =>
  .bi (f_u113q) (fun y1 =>
   .br ((↑y0.length : Int) != (↑y1.length : Int))
    (.at (false))
    (.br (decide (x0 < 0))
     (.bi (f_u108q) (fun y2 =>
      .at (y2))
      (.no))
     (.br (decide (x0 ≥ (↑y0.length : Int)))
      (.bi (f_u108q) (fun y2 =>
       .at (y2))
       (.no))
      (.br (okAt [CS.str, CS.int IntKind.i64] y0 x0)
       (.br (okAt [CS.str, CS.int IntKind.i64] y1 x0)
        (.br (if false = true then !(strOf (cellAt y0 x0 0) == strOf (cellAt y1 x0 0) && (intOf (cellAt y0 x0 1) == intOf (cellAt y1 x0 1) && true))
          else strOf (cellAt y0 x0 0) == strOf (cellAt y1 x0 0) && (intOf (cellAt y0 x0 1) == intOf (cellAt y1 x0 1) && true))
         (.bi (f_u108q) (fun y2 =>
          .at (y2))
          (.no))
         (.at (false)))
        (.no))
       (.no)))))
   (.no))
  (.no)
noncomputable def f_u33q (x0 : Int) : Option B_u33q := lock (tr_u33q x0).ev
theorem f_u33q_eq (x0 : Int) : f_u33q x0 = (tr_u33q x0).ev := lock_eq _
theorem c_u33q : FH IP 3 p_u33q r_u33q (fun (v : Int) => (f_u33q v : Option B_u33q)) := fun_FH (F := F3) (L := []) (t := fun (v : Int) => tr_u33q v) T81_ok (LOk_of (l := []) (by kernel_rfl) trivial) (by kernel_rfl) (fun v => by kernel_rfl) (fun v => f_u33q_eq v)
noncomputable def T82 : Tab := (3, FE p_u33q r_u33q (fun (v : Int) => (f_u33q v : Option B_u33q))) :: T81
theorem T82_ok : TabOk IP T82 := ⟨FE_ok c_u33q, T81_ok⟩
end Go.Proofs.H15v

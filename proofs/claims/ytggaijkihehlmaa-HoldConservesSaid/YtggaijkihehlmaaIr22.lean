/- The intermediate code of the functions reached. Printed by a program of mine. -/
import Derived.Test.YtggaijkihehlmaaE1
set_option linter.unusedVariables false
set_option linter.unusedSimpArgs false
set_option linter.unnecessarySimpa false
namespace Go.Proofs.H22
open Go Go.Eng

/-- corebank/corebanklaw22.HoldChecks -/
def F3 : Fun := ⟨3, 66, [(6, none)],
 .seq (
 .region [⟨some 6, .mov (.c (.bool false)), none⟩] none) (
 .seq (
 .seq (
 .region [⟨some 12, .mov (.t 0), none⟩,
   ⟨some 13, .call 7 [.t 12], none⟩] none) (
 .cond (.t 13) (
  .seq (
  .region [⟨some 14, .call 8 [], none⟩,
    ⟨some 6, .mov (.t 14), none⟩] none) (
  .ret)) (
  .skip))) (
 .seq (
 .region [⟨some 16, .mov (.t 0), none⟩,
   ⟨some 17, .mov (.t 1), none⟩,
   ⟨some 18, .call 9 [.t 16, .t 17], none⟩,
   ⟨some 15, .mov (.t 18), none⟩,
   ⟨some 19, .ext (.t 15) 0, none⟩,
   ⟨some 20, .ext (.t 15) 1, none⟩,
   ⟨some 7, .alloc (.agg [.int .i64 0, .int .i64 0, .int .i64 0, .int .i64 0, .int .i64 0, .str []]), none⟩,
   ⟨none, .store 6 (.t 7) (.t 19), none⟩,
   ⟨some 8, .mov (.t 20), none⟩] none) (
 .seq (
 .region [⟨some 22, .mov (.t 0), none⟩,
   ⟨some 23, .mov (.t 1), none⟩,
   ⟨some 24, .call 10 [.t 22, .t 23], none⟩,
   ⟨some 21, .mov (.t 24), none⟩,
   ⟨some 25, .ext (.t 21) 0, none⟩,
   ⟨some 26, .ext (.t 21) 1, none⟩,
   ⟨some 9, .alloc (.agg [.int .i64 0, .int .i64 0, .int .i64 0, .int .i64 0, .int .i64 0, .str []]), none⟩,
   ⟨none, .store 6 (.t 9) (.t 25), none⟩,
   ⟨some 10, .mov (.t 26), none⟩] none) (
 .seq (
 .region [⟨some 11, .mov (.c (.int .i64 1000)), none⟩] none) (
 .seq (
 .seq (
 .region [⟨some 27, .mov (.t 0), none⟩,
   ⟨some 28, .len .l (.t 27), none⟩,
   ⟨some 29, .bin .gtr (.t 28) (.c (.int .i64 0)), none⟩] none) (
 .cond (.t 29) (
  .region [⟨some 30, .mov (.t 0), none⟩,
    ⟨some 31, .mov (.t 0), none⟩,
    ⟨some 32, .len .l (.t 31), none⟩,
    ⟨some 33, .bin .sub (.t 32) (.c (.int .i64 1)), none⟩,
    ⟨some 34, .iaddr 6 [.int .i64, .int .i64, .int .i64, .int .i64, .int .i64, .str] (.t 30) (.t 33), none⟩,
    ⟨some 35, .faddr 1 (.t 34), none⟩,
    ⟨some 36, .load false 1 (.t 35), none⟩,
    ⟨some 11, .mov (.t 36), none⟩] none) (
  .skip))) (
 .seq (
 .region [⟨some 37, .mov (.t 0), none⟩,
   ⟨some 38, .call 11 [.t 37], none⟩,
   ⟨some 39, .mov (.t 0), none⟩,
   ⟨some 40, .call 12 [.t 39], none⟩,
   ⟨some 41, .bin .eql (.t 38) (.t 40), none⟩,
   ⟨some 42, .mov (.t 41), none⟩,
   ⟨some 43, .load true 6 (.t 7), some (42, true)⟩,
   ⟨some 44, .load true 6 (.t 9), some (42, true)⟩,
   ⟨some 45, .eqs (true, [.i, .i, .i, .i, .i, .s]) false (.t 43) (.t 44), some (42, true)⟩,
   ⟨some 46, .pick (.t 42) (.t 45) (.c (.bool false)), none⟩,
   ⟨some 47, .mov (.t 46), none⟩,
   ⟨some 48, .mov (.t 8), some (47, true)⟩,
   ⟨some 49, .mov (.t 10), some (47, true)⟩,
   ⟨some 50, .eqs (false, [.b]) false (.t 48) (.t 49), some (47, true)⟩,
   ⟨some 51, .pick (.t 47) (.t 50) (.c (.bool false)), none⟩,
   ⟨some 52, .mov (.t 51), none⟩,
   ⟨some 53, .mov (.t 0), some (52, true)⟩,
   ⟨some 54, .mov (.t 11), some (52, true)⟩,
   ⟨some 55, .mov (.t 2), some (52, true)⟩,
   ⟨some 56, .call 13 [.t 53, .t 54, .t 55], some (52, true)⟩,
   ⟨some 57, .mov (.t 0), some (52, true)⟩,
   ⟨some 58, .mov (.t 11), some (52, true)⟩,
   ⟨some 59, .mov (.t 2), some (52, true)⟩,
   ⟨some 60, .call 14 [.t 57, .t 58, .t 59], some (52, true)⟩,
   ⟨some 61, .bin .eql (.t 56) (.t 60), some (52, true)⟩,
   ⟨some 62, .pick (.t 52) (.t 61) (.c (.bool false)), none⟩,
   ⟨some 63, .mov (.t 62), none⟩,
   ⟨some 64, .call 8 [], some (63, true)⟩,
   ⟨some 65, .pick (.t 63) (.t 64) (.c (.bool false)), none⟩,
   ⟨some 6, .mov (.t 65), none⟩] none) (
 .ret)))))))⟩
def K3 : List (List Nat) := []

/-- corebank/corebanklaw22.HoldActs -/
def F4 : Fun := ⟨2, 35, [(4, none)],
 .seq (
 .region [⟨some 4, .mov (.c (.bool false)), none⟩] none) (
 .seq (
 .seq (
 .region [⟨some 8, .mov (.t 0), none⟩,
   ⟨some 9, .call 7 [.t 8], none⟩,
   ⟨some 10, .mov (.t 9), none⟩,
   ⟨some 11, .mov (.t 1), some (10, false)⟩,
   ⟨some 12, .call 15 [.t 11], some (10, false)⟩,
   ⟨some 13, .un .not (.t 12), some (10, false)⟩,
   ⟨some 14, .pick (.t 10) (.c (.bool true)) (.t 13), none⟩] none) (
 .cond (.t 14) (
  .seq (
  .region [⟨some 15, .call 8 [], none⟩,
    ⟨some 4, .mov (.t 15), none⟩] none) (
  .ret)) (
  .skip))) (
 .seq (
 .seq (
 .region [⟨some 5, .mov (.c (.int .i64 0)), none⟩] none) (
 .block 0 (
  .loop [1000400, 0, 1, 5] (
   .seq (
   .seq (
   .region [⟨some 16, .mov (.t 5), none⟩,
     ⟨some 17, .mov (.t 1), none⟩,
     ⟨some 18, .len .l (.t 17), none⟩,
     ⟨some 19, .bin .lss (.t 16) (.t 18), none⟩] none) (
   .cond (.t 19) (
    .skip) (
    .exit 0))) (
   .seq (
   .block 1 (
    .seq (
    .region [⟨some 23, .mov (.t 0), none⟩,
      ⟨some 24, .mov (.t 1), none⟩,
      ⟨some 25, .mov (.t 5), none⟩,
      ⟨some 26, .iaddr 10 [.int .i64, .int .i64, .int .i64, .int .i64, .int .i64, .int .i64, .int .i64, .int .i64, .int .i64, .str] (.t 24) (.t 25), none⟩,
      ⟨some 27, .load true 10 (.t 26), none⟩,
      ⟨some 28, .call 16 [.t 23, .t 27], none⟩,
      ⟨some 22, .mov (.t 28), none⟩,
      ⟨some 29, .ext (.t 22) 0, none⟩,
      ⟨some 30, .ext (.t 22) 1, none⟩,
      ⟨some 6, .mov (.t 29), none⟩,
      ⟨some 7, .mov (.t 30), none⟩] none) (
    .seq (
    .seq (
    .region [⟨some 31, .mov (.t 7), none⟩,
      ⟨some 32, .un .not (.t 31), none⟩] none) (
    .cond (.t 32) (
     .seq (
     .region [⟨some 4, .mov (.c (.bool false)), none⟩] none) (
     .ret)) (
     .skip))) (
    .region [⟨some 33, .mov (.t 6), none⟩,
      ⟨some 0, .mov (.t 33), none⟩] none)))) (
   .region [⟨some 20, .mov (.t 5), none⟩,
     ⟨some 21, .bin .add (.t 20) (.c (.int .i64 1)), none⟩,
     ⟨some 5, .mov (.t 21), none⟩] none)))))) (
 .seq (
 .region [⟨some 34, .call 8 [], none⟩,
   ⟨some 4, .mov (.t 34), none⟩] none) (
 .ret))))⟩
def K4 : List (List Nat) := [[1000400, 0, 1, 5]]

/-- corebank/corebanklaw22.HoldValid -/
def F5 : Fun := ⟨2, 93, [(4, none)],
 .seq (
 .region [⟨some 4, .mov (.c (.bool false)), none⟩] none) (
 .seq (
 .seq (
 .region [⟨some 9, .mov (.t 0), none⟩,
   ⟨some 10, .call 7 [.t 9], none⟩,
   ⟨some 11, .mov (.t 10), none⟩,
   ⟨some 12, .mov (.t 1), some (11, false)⟩,
   ⟨some 13, .call 15 [.t 12], some (11, false)⟩,
   ⟨some 14, .un .not (.t 13), some (11, false)⟩,
   ⟨some 15, .pick (.t 11) (.c (.bool true)) (.t 14), none⟩,
   ⟨some 16, .mov (.t 15), none⟩,
   ⟨some 17, .mov (.t 0), some (16, false)⟩,
   ⟨some 18, .call 11 [.t 17], some (16, false)⟩,
   ⟨some 19, .bin .neq (.t 18) (.c (.int .i64 0)), some (16, false)⟩,
   ⟨some 20, .pick (.t 16) (.c (.bool true)) (.t 19), none⟩] none) (
 .cond (.t 20) (
  .seq (
  .region [⟨some 21, .call 8 [], none⟩,
    ⟨some 4, .mov (.t 21), none⟩] none) (
  .ret)) (
  .skip))) (
 .seq (
 .seq (
 .region [⟨some 5, .mov (.c (.int .i64 0)), none⟩] none) (
 .block 0 (
  .loop [1000500, 0, 1, 5] (
   .seq (
   .seq (
   .region [⟨some 22, .mov (.t 5), none⟩,
     ⟨some 23, .mov (.t 1), none⟩,
     ⟨some 24, .len .l (.t 23), none⟩,
     ⟨some 25, .bin .lss (.t 22) (.t 24), none⟩] none) (
   .cond (.t 25) (
    .skip) (
    .exit 0))) (
   .seq (
   .block 1 (
    .seq (
    .region [⟨some 28, .mov (.t 1), none⟩,
      ⟨some 29, .mov (.t 5), none⟩,
      ⟨some 30, .iaddr 10 [.int .i64, .int .i64, .int .i64, .int .i64, .int .i64, .int .i64, .int .i64, .int .i64, .int .i64, .str] (.t 28) (.t 29), none⟩,
      ⟨some 31, .load true 10 (.t 30), none⟩,
      ⟨some 6, .alloc (.agg [.int .i64 0, .int .i64 0, .int .i64 0, .int .i64 0, .int .i64 0, .int .i64 0, .int .i64 0, .int .i64 0, .int .i64 0, .str []]), none⟩,
      ⟨none, .store 10 (.t 6) (.t 31), none⟩] none) (
    .seq (
    .region [⟨some 32, .mov (.t 0), none⟩,
      ⟨some 7, .mov (.t 32), none⟩,
      ⟨some 8, .mov (.c (.int .i64 0)), none⟩] none) (
    .seq (
    .seq (
    .region [⟨some 33, .faddr 0 (.t 6), none⟩,
      ⟨some 34, .load false 1 (.t 33), none⟩] none) (
    .block 2 (
     .seq (
     .region [⟨some 36, .bin .eql (.t 34) (.c (.int .i64 0)), none⟩,
       ⟨some 35, .mov (.t 36), none⟩] none) (
     .cond (.t 35) (
      .seq (
      .region [⟨some 38, .mov (.t 0), none⟩,
        ⟨some 39, .faddr 4 (.t 6), none⟩,
        ⟨some 40, .load true 6 (.t 39), none⟩,
        ⟨some 41, .call 17 [.t 38, .t 40], none⟩,
        ⟨some 37, .mov (.t 41), none⟩,
        ⟨some 42, .ext (.t 37) 0, none⟩,
        ⟨some 43, .ext (.t 37) 1, none⟩,
        ⟨some 7, .mov (.t 42), none⟩,
        ⟨some 8, .mov (.t 43), none⟩] none) (
      .region [⟨some 44, .faddr 4 (.t 6), none⟩,
        ⟨some 45, .faddr 0 (.t 44), none⟩,
        ⟨some 46, .load false 1 (.t 45), none⟩,
        ⟨some 47, .faddr 1 (.t 6), none⟩,
        ⟨none, .store 1 (.t 47) (.t 46), none⟩] none)) (
      .seq (
      .region [⟨some 49, .bin .eql (.t 34) (.c (.int .i64 1)), none⟩,
        ⟨some 48, .mov (.t 49), none⟩] none) (
      .cond (.t 48) (
       .region [⟨some 51, .mov (.t 0), none⟩,
         ⟨some 52, .faddr 1 (.t 6), none⟩,
         ⟨some 53, .load false 1 (.t 52), none⟩,
         ⟨some 54, .faddr 2 (.t 6), none⟩,
         ⟨some 55, .load false 1 (.t 54), none⟩,
         ⟨some 56, .faddr 3 (.t 6), none⟩,
         ⟨some 57, .load false 1 (.t 56), none⟩,
         ⟨some 58, .call 18 [.t 51, .t 53, .t 55, .t 57], none⟩,
         ⟨some 50, .mov (.t 58), none⟩,
         ⟨some 59, .ext (.t 50) 0, none⟩,
         ⟨some 60, .ext (.t 50) 1, none⟩,
         ⟨some 7, .mov (.t 59), none⟩,
         ⟨some 8, .mov (.t 60), none⟩] none) (
       .seq (
       .region [⟨some 62, .bin .eql (.t 34) (.c (.int .i64 2)), none⟩,
         ⟨some 61, .mov (.t 62), none⟩] none) (
       .cond (.t 61) (
        .region [⟨some 64, .mov (.t 0), none⟩,
          ⟨some 65, .faddr 1 (.t 6), none⟩,
          ⟨some 66, .load false 1 (.t 65), none⟩,
          ⟨some 67, .call 19 [.t 64, .t 66], none⟩,
          ⟨some 63, .mov (.t 67), none⟩,
          ⟨some 68, .ext (.t 63) 0, none⟩,
          ⟨some 69, .ext (.t 63) 1, none⟩,
          ⟨some 7, .mov (.t 68), none⟩,
          ⟨some 8, .mov (.t 69), none⟩] none) (
        .exit 1))))))))) (
    .seq (
    .seq (
    .region [⟨some 70, .mov (.t 8), none⟩,
      ⟨some 71, .bin .neq (.t 70) (.c (.int .i64 0)), none⟩] none) (
    .cond (.t 71) (
     .exit 1) (
     .skip))) (
    .seq (
    .seq (
    .region [⟨some 72, .mov (.t 7), none⟩,
      ⟨some 73, .call 11 [.t 72], none⟩,
      ⟨some 74, .bin .neq (.t 73) (.c (.int .i64 0)), none⟩,
      ⟨some 75, .mov (.t 74), none⟩,
      ⟨some 76, .mov (.t 0), some (75, false)⟩,
      ⟨some 77, .mov (.t 7), some (75, false)⟩,
      ⟨some 78, .faddr 1 (.t 6), some (75, false)⟩,
      ⟨some 79, .load false 1 (.t 78), some (75, false)⟩,
      ⟨some 80, .call 20 [.t 76, .t 77, .t 79], some (75, false)⟩,
      ⟨some 81, .un .not (.t 80), some (75, false)⟩,
      ⟨some 82, .pick (.t 75) (.c (.bool true)) (.t 81), none⟩,
      ⟨some 83, .mov (.t 82), none⟩,
      ⟨some 84, .mov (.t 7), some (83, false)⟩,
      ⟨some 85, .mov (.t 0), some (83, false)⟩,
      ⟨some 86, .faddr 1 (.t 6), some (83, false)⟩,
      ⟨some 87, .load false 1 (.t 86), some (83, false)⟩,
      ⟨some 88, .call 20 [.t 84, .t 85, .t 87], some (83, false)⟩,
      ⟨some 89, .un .not (.t 88), some (83, false)⟩,
      ⟨some 90, .pick (.t 83) (.c (.bool true)) (.t 89), none⟩] none) (
    .cond (.t 90) (
     .seq (
     .region [⟨some 4, .mov (.c (.bool false)), none⟩] none) (
     .ret)) (
     .skip))) (
    .region [⟨some 91, .mov (.t 7), none⟩,
      ⟨some 0, .mov (.t 91), none⟩] none))))))) (
   .region [⟨some 26, .mov (.t 5), none⟩,
     ⟨some 27, .bin .add (.t 26) (.c (.int .i64 1)), none⟩,
     ⟨some 5, .mov (.t 27), none⟩] none)))))) (
 .seq (
 .region [⟨some 92, .call 8 [], none⟩,
   ⟨some 4, .mov (.t 92), none⟩] none) (
 .ret))))⟩
def K5 : List (List Nat) := [[1000500, 0, 1, 5]]

/-- corebank/corebanklaw22.HoldConserves -/
def F6 : Fun := ⟨2, 157, [(4, none)],
 .seq (
 .region [⟨some 4, .mov (.c (.bool false)), none⟩] none) (
 .seq (
 .seq (
 .region [⟨some 22, .mov (.t 0), none⟩,
   ⟨some 23, .call 7 [.t 22], none⟩,
   ⟨some 24, .mov (.t 23), none⟩,
   ⟨some 25, .mov (.t 1), some (24, false)⟩,
   ⟨some 26, .call 15 [.t 25], some (24, false)⟩,
   ⟨some 27, .un .not (.t 26), some (24, false)⟩,
   ⟨some 28, .pick (.t 24) (.c (.bool true)) (.t 27), none⟩,
   ⟨some 29, .mov (.t 28), none⟩,
   ⟨some 30, .mov (.t 0), some (29, false)⟩,
   ⟨some 31, .call 11 [.t 30], some (29, false)⟩,
   ⟨some 32, .bin .neq (.t 31) (.c (.int .i64 0)), some (29, false)⟩,
   ⟨some 33, .pick (.t 29) (.c (.bool true)) (.t 32), none⟩] none) (
 .cond (.t 33) (
  .seq (
  .region [⟨some 34, .call 8 [], none⟩,
    ⟨some 4, .mov (.t 34), none⟩] none) (
  .ret)) (
  .skip))) (
 .seq (
 .region [⟨some 35, .mov (.t 0), none⟩,
   ⟨some 36, .call 21 [.t 35], none⟩,
   ⟨some 5, .mov (.t 36), none⟩,
   ⟨some 6, .mov (.c (.int .i64 0)), none⟩] none) (
 .seq (
 .seq (
 .region [⟨some 7, .mov (.c (.int .i64 0)), none⟩] none) (
 .block 0 (
  .loop [1000600, 0, 1, 5, 6, 7] (
   .seq (
   .seq (
   .region [⟨some 37, .mov (.t 7), none⟩,
     ⟨some 38, .mov (.t 1), none⟩,
     ⟨some 39, .len .l (.t 38), none⟩,
     ⟨some 40, .bin .lss (.t 37) (.t 39), none⟩] none) (
   .cond (.t 40) (
    .skip) (
    .exit 0))) (
   .seq (
   .block 1 (
    .seq (
    .region [⟨some 43, .mov (.t 1), none⟩,
      ⟨some 44, .mov (.t 7), none⟩,
      ⟨some 45, .iaddr 10 [.int .i64, .int .i64, .int .i64, .int .i64, .int .i64, .int .i64, .int .i64, .int .i64, .int .i64, .str] (.t 43) (.t 44), none⟩,
      ⟨some 46, .load true 10 (.t 45), none⟩,
      ⟨some 8, .alloc (.agg [.int .i64 0, .int .i64 0, .int .i64 0, .int .i64 0, .int .i64 0, .int .i64 0, .int .i64 0, .int .i64 0, .int .i64 0, .str []]), none⟩,
      ⟨none, .store 10 (.t 8) (.t 46), none⟩] none) (
    .seq (
    .region [⟨some 48, .mov (.t 0), none⟩,
      ⟨some 49, .faddr 1 (.t 8), none⟩,
      ⟨some 50, .load false 1 (.t 49), none⟩,
      ⟨some 51, .call 9 [.t 48, .t 50], none⟩,
      ⟨some 47, .mov (.t 51), none⟩,
      ⟨some 52, .ext (.t 47) 0, none⟩,
      ⟨some 53, .ext (.t 47) 1, none⟩,
      ⟨some 9, .alloc (.agg [.int .i64 0, .int .i64 0, .int .i64 0, .int .i64 0, .int .i64 0, .str []]), none⟩,
      ⟨none, .store 6 (.t 9) (.t 52), none⟩,
      ⟨some 10, .mov (.t 53), none⟩] none) (
    .seq (
    .seq (
    .region [⟨some 54, .faddr 0 (.t 8), none⟩,
      ⟨some 55, .load false 1 (.t 54), none⟩] none) (
    .block 2 (
     .seq (
     .region [⟨some 57, .bin .eql (.t 55) (.c (.int .i64 0)), none⟩,
       ⟨some 56, .mov (.t 57), none⟩] none) (
     .cond (.t 56) (
      .seq (
      .region [⟨some 59, .mov (.t 0), none⟩,
        ⟨some 60, .faddr 4 (.t 8), none⟩,
        ⟨some 61, .load true 6 (.t 60), none⟩,
        ⟨some 62, .call 17 [.t 59, .t 61], none⟩,
        ⟨some 58, .mov (.t 62), none⟩,
        ⟨some 63, .ext (.t 58) 0, none⟩,
        ⟨some 64, .ext (.t 58) 1, none⟩,
        ⟨some 11, .mov (.t 63), none⟩,
        ⟨some 12, .mov (.t 64), none⟩] none) (
      .seq (
      .region [⟨some 65, .mov (.t 12), none⟩,
        ⟨some 66, .bin .eql (.t 65) (.c (.int .i64 0)), none⟩] none) (
      .cond (.t 66) (
       .seq (
       .region [⟨some 67, .mov (.t 5), none⟩,
         ⟨some 68, .faddr 4 (.t 8), none⟩,
         ⟨some 69, .faddr 2 (.t 68), none⟩,
         ⟨some 70, .load false 1 (.t 69), none⟩,
         ⟨some 71, .bin .add (.t 67) (.t 70), none⟩,
         ⟨some 5, .mov (.t 71), none⟩] none) (
       .region [⟨some 72, .mov (.t 11), none⟩,
         ⟨some 0, .mov (.t 72), none⟩] none)) (
       .skip)))) (
      .seq (
      .region [⟨some 74, .bin .eql (.t 55) (.c (.int .i64 1)), none⟩,
        ⟨some 73, .mov (.t 74), none⟩] none) (
      .cond (.t 73) (
       .seq (
       .region [⟨some 76, .mov (.t 0), none⟩,
         ⟨some 77, .faddr 1 (.t 8), none⟩,
         ⟨some 78, .load false 1 (.t 77), none⟩,
         ⟨some 79, .faddr 2 (.t 8), none⟩,
         ⟨some 80, .load false 1 (.t 79), none⟩,
         ⟨some 81, .faddr 3 (.t 8), none⟩,
         ⟨some 82, .load false 1 (.t 81), none⟩,
         ⟨some 83, .call 18 [.t 76, .t 78, .t 80, .t 82], none⟩,
         ⟨some 75, .mov (.t 83), none⟩,
         ⟨some 84, .ext (.t 75) 0, none⟩,
         ⟨some 85, .ext (.t 75) 1, none⟩,
         ⟨some 13, .mov (.t 84), none⟩,
         ⟨some 14, .mov (.t 85), none⟩] none) (
       .seq (
       .region [⟨some 86, .mov (.t 14), none⟩,
         ⟨some 87, .bin .eql (.t 86) (.c (.int .i64 0)), none⟩] none) (
       .cond (.t 87) (
        .seq (
        .region [⟨some 88, .mov (.t 6), none⟩,
          ⟨some 89, .faddr 2 (.t 8), none⟩,
          ⟨some 90, .load false 1 (.t 89), none⟩,
          ⟨some 91, .bin .add (.t 88) (.t 90), none⟩,
          ⟨some 6, .mov (.t 91), none⟩] none) (
        .region [⟨some 92, .mov (.t 13), none⟩,
          ⟨some 0, .mov (.t 92), none⟩] none)) (
        .skip)))) (
       .seq (
       .region [⟨some 94, .bin .eql (.t 55) (.c (.int .i64 2)), none⟩,
         ⟨some 93, .mov (.t 94), none⟩] none) (
       .cond (.t 93) (
        .seq (
        .region [⟨some 96, .mov (.t 0), none⟩,
          ⟨some 97, .faddr 1 (.t 8), none⟩,
          ⟨some 98, .load false 1 (.t 97), none⟩,
          ⟨some 99, .call 19 [.t 96, .t 98], none⟩,
          ⟨some 95, .mov (.t 99), none⟩,
          ⟨some 100, .ext (.t 95) 0, none⟩,
          ⟨some 101, .ext (.t 95) 1, none⟩,
          ⟨some 15, .mov (.t 100), none⟩,
          ⟨some 16, .mov (.t 101), none⟩] none) (
        .seq (
        .seq (
        .region [⟨some 102, .mov (.t 16), none⟩,
          ⟨some 103, .bin .eql (.t 102) (.c (.int .i64 0)), none⟩,
          ⟨some 104, .mov (.t 10), none⟩,
          ⟨some 105, .eqs (false, [.b]) true (.t 103) (.t 104), none⟩] none) (
        .cond (.t 105) (
         .seq (
         .region [⟨some 4, .mov (.c (.bool false)), none⟩] none) (
         .ret)) (
         .skip))) (
        .seq (
        .region [⟨some 106, .mov (.t 10), none⟩] none) (
        .cond (.t 106) (
         .seq (
         .region [⟨some 107, .mov (.t 6), none⟩,
           ⟨some 108, .faddr 2 (.t 9), none⟩,
           ⟨some 109, .load false 1 (.t 108), none⟩,
           ⟨some 110, .bin .add (.t 107) (.t 109), none⟩,
           ⟨some 6, .mov (.t 110), none⟩] none) (
         .region [⟨some 111, .mov (.t 15), none⟩,
           ⟨some 0, .mov (.t 111), none⟩] none)) (
         .skip))))) (
        .seq (
        .region [⟨some 113, .bin .eql (.t 55) (.c (.int .i64 3)), none⟩,
          ⟨some 112, .mov (.t 113), none⟩] none) (
        .cond (.t 112) (
         .seq (
         .region [⟨some 115, .mov (.t 0), none⟩,
           ⟨some 116, .faddr 3 (.t 8), none⟩,
           ⟨some 117, .load false 1 (.t 116), none⟩,
           ⟨some 118, .call 22 [.t 115, .t 117], none⟩,
           ⟨some 114, .mov (.t 118), none⟩,
           ⟨some 119, .ext (.t 114) 0, none⟩,
           ⟨some 120, .ext (.t 114) 1, none⟩,
           ⟨some 17, .mov (.t 119), none⟩,
           ⟨some 18, .mov (.t 120), none⟩] none) (
         .seq (
         .seq (
         .region [⟨some 19, .mov (.c (.int .i64 0)), none⟩] none) (
         .block 3 (
          .loop [1000601, 0, 1, 5, 6, 7, 8, 17, 18, 19] (
           .seq (
           .seq (
           .region [⟨some 121, .mov (.t 19), none⟩,
             ⟨some 122, .mov (.t 18), none⟩,
             ⟨some 123, .len .l (.t 122), none⟩,
             ⟨some 124, .bin .lss (.t 121) (.t 123), none⟩] none) (
           .cond (.t 124) (
            .skip) (
            .exit 3))) (
           .seq (
           .block 4 (
            .seq (
            .region [⟨some 128, .mov (.t 0), none⟩,
              ⟨some 129, .mov (.t 18), none⟩,
              ⟨some 130, .mov (.t 19), none⟩,
              ⟨some 131, .iaddr 1 [.int .i64] (.t 129) (.t 130), none⟩,
              ⟨some 132, .load false 1 (.t 131), none⟩,
              ⟨some 133, .call 9 [.t 128, .t 132], none⟩,
              ⟨some 127, .mov (.t 133), none⟩,
              ⟨some 134, .ext (.t 127) 0, none⟩,
              ⟨some 135, .ext (.t 127) 1, none⟩,
              ⟨some 20, .alloc (.agg [.int .i64 0, .int .i64 0, .int .i64 0, .int .i64 0, .int .i64 0, .str []]), none⟩,
              ⟨none, .store 6 (.t 20) (.t 134), none⟩,
              ⟨some 21, .mov (.t 135), none⟩] none) (
            .seq (
            .seq (
            .region [⟨some 136, .mov (.t 21), none⟩,
              ⟨some 137, .un .not (.t 136), none⟩,
              ⟨some 138, .mov (.t 137), none⟩,
              ⟨some 139, .faddr 4 (.t 20), some (138, false)⟩,
              ⟨some 140, .load false 1 (.t 139), some (138, false)⟩,
              ⟨some 141, .faddr 3 (.t 8), some (138, false)⟩,
              ⟨some 142, .load false 1 (.t 141), some (138, false)⟩,
              ⟨some 143, .bin .geq (.t 140) (.t 142), some (138, false)⟩,
              ⟨some 144, .pick (.t 138) (.c (.bool true)) (.t 143), none⟩] none) (
            .cond (.t 144) (
             .seq (
             .region [⟨some 4, .mov (.c (.bool false)), none⟩] none) (
             .ret)) (
             .skip))) (
            .region [⟨some 145, .mov (.t 6), none⟩,
              ⟨some 146, .faddr 2 (.t 20), none⟩,
              ⟨some 147, .load false 1 (.t 146), none⟩,
              ⟨some 148, .bin .add (.t 145) (.t 147), none⟩,
              ⟨some 6, .mov (.t 148), none⟩] none)))) (
           .region [⟨some 125, .mov (.t 19), none⟩,
             ⟨some 126, .bin .add (.t 125) (.c (.int .i64 1)), none⟩,
             ⟨some 19, .mov (.t 126), none⟩] none)))))) (
         .region [⟨some 149, .mov (.t 17), none⟩,
           ⟨some 0, .mov (.t 149), none⟩] none))) (
         .skip))))))))))) (
    .seq (
    .region [⟨some 150, .mov (.t 0), none⟩,
      ⟨some 151, .call 21 [.t 150], none⟩,
      ⟨some 152, .mov (.t 6), none⟩,
      ⟨some 153, .bin .add (.t 151) (.t 152), none⟩,
      ⟨some 154, .mov (.t 5), none⟩,
      ⟨some 155, .bin .neq (.t 153) (.t 154), none⟩] none) (
    .cond (.t 155) (
     .seq (
     .region [⟨some 4, .mov (.c (.bool false)), none⟩] none) (
     .ret)) (
     .skip))))))) (
   .region [⟨some 41, .mov (.t 7), none⟩,
     ⟨some 42, .bin .add (.t 41) (.c (.int .i64 1)), none⟩,
     ⟨some 7, .mov (.t 42), none⟩] none)))))) (
 .seq (
 .region [⟨some 156, .call 8 [], none⟩,
   ⟨some 4, .mov (.t 156), none⟩] none) (
 .ret)))))⟩
def K6 : List (List Nat) := [[1000600, 0, 1, 5, 6, 7], [1000601, 0, 1, 5, 6, 7, 8, 17, 18, 19]]

/-- corebank/corebankref22.Great -/
def F7 : Fun := ⟨1, 20, [(2, none)],
 .seq (
 .region [⟨some 2, .mov (.c (.bool false)), none⟩] none) (
 .seq (
 .seq (
 .region [⟨some 4, .mov (.t 0), none⟩,
   ⟨some 5, .len .l (.t 4), none⟩,
   ⟨some 6, .bin .gtr (.t 5) (.c (.int .i64 100)), none⟩] none) (
 .cond (.t 6) (
  .seq (
  .region [⟨some 2, .mov (.c (.bool true)), none⟩] none) (
  .ret)) (
  .skip))) (
 .seq (
 .seq (
 .region [⟨some 3, .mov (.c (.int .i64 0)), none⟩] none) (
 .block 0 (
  .loop [1000700, 0, 3] (
   .seq (
   .seq (
   .region [⟨some 7, .mov (.t 3), none⟩,
     ⟨some 8, .mov (.t 0), none⟩,
     ⟨some 9, .len .l (.t 8), none⟩,
     ⟨some 10, .bin .lss (.t 7) (.t 9), none⟩] none) (
   .cond (.t 10) (
    .skip) (
    .exit 0))) (
   .seq (
   .block 1 (
    .seq (
    .region [⟨some 13, .mov (.t 0), none⟩,
      ⟨some 14, .mov (.t 3), none⟩,
      ⟨some 15, .iaddr 6 [.int .i64, .int .i64, .int .i64, .int .i64, .int .i64, .str] (.t 13) (.t 14), none⟩,
      ⟨some 16, .faddr 5 (.t 15), none⟩,
      ⟨some 17, .load false 1 (.t 16), none⟩,
      ⟨some 18, .len .s (.t 17), none⟩,
      ⟨some 19, .bin .gtr (.t 18) (.c (.int .i64 200)), none⟩] none) (
    .cond (.t 19) (
     .seq (
     .region [⟨some 2, .mov (.c (.bool true)), none⟩] none) (
     .ret)) (
     .skip)))) (
   .region [⟨some 11, .mov (.t 3), none⟩,
     ⟨some 12, .bin .add (.t 11) (.c (.int .i64 1)), none⟩,
     ⟨some 3, .mov (.t 12), none⟩] none)))))) (
 .seq (
 .region [⟨some 2, .mov (.c (.bool false)), none⟩] none) (
 .ret))))⟩
def K7 : List (List Nat) := [[1000700, 0, 3]]

/-- corebank/corebanklaw22.live -/
def F8 : Fun := ⟨0, 119, [(0, none)],
 .seq (
 .region [⟨some 0, .mov (.c (.bool false)), none⟩] none) (
 .seq (
 .region [⟨some 18, .call 23 [.c (.int .i64 1), .c (.str [97])], none⟩,
   ⟨some 19, .call 17 [.c (.nils), .t 18], none⟩,
   ⟨some 17, .mov (.t 19), none⟩,
   ⟨some 20, .ext (.t 17) 0, none⟩,
   ⟨some 21, .ext (.t 17) 1, none⟩,
   ⟨some 1, .mov (.t 20), none⟩,
   ⟨some 2, .mov (.t 21), none⟩] none) (
 .seq (
 .region [⟨some 23, .mov (.t 1), none⟩,
   ⟨some 24, .call 23 [.c (.int .i64 2), .c (.str [98])], none⟩,
   ⟨some 25, .call 17 [.t 23, .t 24], none⟩,
   ⟨some 22, .mov (.t 25), none⟩,
   ⟨some 26, .ext (.t 22) 0, none⟩,
   ⟨some 27, .ext (.t 22) 1, none⟩,
   ⟨some 3, .mov (.t 26), none⟩,
   ⟨some 4, .mov (.t 27), none⟩] none) (
 .seq (
 .region [⟨some 29, .mov (.t 3), none⟩,
   ⟨some 30, .call 23 [.c (.int .i64 2), .c (.str [99])], none⟩,
   ⟨some 31, .call 17 [.t 29, .t 30], none⟩,
   ⟨some 28, .mov (.t 31), none⟩,
   ⟨some 32, .ext (.t 28) 0, none⟩,
   ⟨some 33, .ext (.t 28) 1, none⟩,
   ⟨some 5, .mov (.t 32), none⟩,
   ⟨some 6, .mov (.t 33), none⟩] none) (
 .seq (
 .region [⟨some 35, .mov (.t 3), none⟩,
   ⟨some 36, .call 18 [.t 35, .c (.int .i64 1), .c (.int .i64 30), .c (.int .i64 9)], none⟩,
   ⟨some 34, .mov (.t 36), none⟩,
   ⟨some 37, .ext (.t 34) 0, none⟩,
   ⟨some 38, .ext (.t 34) 1, none⟩,
   ⟨some 7, .mov (.t 37), none⟩,
   ⟨some 8, .mov (.t 38), none⟩] none) (
 .seq (
 .region [⟨some 40, .mov (.t 7), none⟩,
   ⟨some 41, .call 18 [.t 40, .c (.int .i64 1), .c (.int .i64 70), .c (.int .i64 5)], none⟩,
   ⟨some 39, .mov (.t 41), none⟩,
   ⟨some 42, .ext (.t 39) 0, none⟩,
   ⟨some 43, .ext (.t 39) 1, none⟩,
   ⟨some 9, .mov (.t 42), none⟩,
   ⟨some 10, .mov (.t 43), none⟩] none) (
 .seq (
 .region [⟨some 45, .mov (.t 3), none⟩,
   ⟨some 46, .call 18 [.t 45, .c (.int .i64 1), .c (.int .i64 30), .c (.int .i64 10)], none⟩,
   ⟨some 44, .mov (.t 46), none⟩,
   ⟨some 47, .ext (.t 44) 0, none⟩,
   ⟨some 48, .ext (.t 44) 1, none⟩,
   ⟨some 11, .mov (.t 47), none⟩,
   ⟨some 12, .mov (.t 48), none⟩] none) (
 .seq (
 .region [⟨some 50, .mov (.t 7), none⟩,
   ⟨some 51, .call 9 [.t 50, .c (.int .i64 1)], none⟩,
   ⟨some 49, .mov (.t 51), none⟩,
   ⟨some 52, .ext (.t 49) 0, none⟩,
   ⟨some 53, .ext (.t 49) 1, none⟩,
   ⟨some 13, .alloc (.agg [.int .i64 0, .int .i64 0, .int .i64 0, .int .i64 0, .int .i64 0, .str []]), none⟩,
   ⟨none, .store 6 (.t 13) (.t 52), none⟩,
   ⟨some 14, .mov (.t 53), none⟩] none) (
 .seq (
 .region [⟨some 55, .mov (.t 3), none⟩,
   ⟨some 56, .call 22 [.t 55, .c (.int .i64 10)], none⟩,
   ⟨some 54, .mov (.t 56), none⟩,
   ⟨some 57, .ext (.t 54) 0, none⟩,
   ⟨some 58, .ext (.t 54) 1, none⟩,
   ⟨some 15, .mov (.t 57), none⟩,
   ⟨some 16, .mov (.t 58), none⟩] none) (
 .seq (
 .region [⟨some 59, .mov (.t 2), none⟩,
   ⟨some 60, .bin .eql (.t 59) (.c (.int .i64 0)), none⟩,
   ⟨some 61, .mov (.t 60), none⟩,
   ⟨some 62, .mov (.t 4), some (61, true)⟩,
   ⟨some 63, .bin .eql (.t 62) (.c (.int .i64 0)), some (61, true)⟩,
   ⟨some 64, .pick (.t 61) (.t 63) (.c (.bool false)), none⟩,
   ⟨some 65, .mov (.t 64), none⟩,
   ⟨some 66, .mov (.t 6), some (65, true)⟩,
   ⟨some 67, .bin .eql (.t 66) (.c (.int .i64 10)), some (65, true)⟩,
   ⟨some 68, .pick (.t 65) (.t 67) (.c (.bool false)), none⟩,
   ⟨some 69, .mov (.t 68), none⟩,
   ⟨some 70, .mov (.t 8), some (69, true)⟩,
   ⟨some 71, .bin .eql (.t 70) (.c (.int .i64 0)), some (69, true)⟩,
   ⟨some 72, .pick (.t 69) (.t 71) (.c (.bool false)), none⟩,
   ⟨some 73, .mov (.t 72), none⟩,
   ⟨some 74, .mov (.t 10), some (73, true)⟩,
   ⟨some 75, .bin .eql (.t 74) (.c (.int .i64 0)), some (73, true)⟩,
   ⟨some 76, .pick (.t 73) (.t 75) (.c (.bool false)), none⟩,
   ⟨some 77, .mov (.t 76), none⟩,
   ⟨some 78, .mov (.t 12), some (77, true)⟩,
   ⟨some 79, .bin .eql (.t 78) (.c (.int .i64 23)), some (77, true)⟩,
   ⟨some 80, .pick (.t 77) (.t 79) (.c (.bool false)), none⟩,
   ⟨some 81, .mov (.t 80), none⟩,
   ⟨some 82, .mov (.t 14), some (81, true)⟩,
   ⟨some 83, .pick (.t 81) (.t 82) (.c (.bool false)), none⟩,
   ⟨some 84, .mov (.t 83), none⟩,
   ⟨some 85, .faddr 2 (.t 13), some (84, true)⟩,
   ⟨some 86, .load false 1 (.t 85), some (84, true)⟩,
   ⟨some 87, .bin .eql (.t 86) (.c (.int .i64 70)), some (84, true)⟩,
   ⟨some 88, .pick (.t 84) (.t 87) (.c (.bool false)), none⟩,
   ⟨some 89, .mov (.t 88), none⟩,
   ⟨some 90, .mov (.t 9), some (89, true)⟩,
   ⟨some 91, .len .l (.t 90), some (89, true)⟩,
   ⟨some 92, .bin .eql (.t 91) (.c (.int .i64 1)), some (89, true)⟩,
   ⟨some 93, .pick (.t 89) (.t 92) (.c (.bool false)), none⟩,
   ⟨some 94, .mov (.t 93), none⟩,
   ⟨some 95, .mov (.t 7), some (94, true)⟩,
   ⟨some 96, .call 13 [.t 95, .c (.int .i64 1000), .c (.int .i64 9)], some (94, true)⟩,
   ⟨some 97, .bin .eql (.t 96) (.c (.int .i64 170)), some (94, true)⟩,
   ⟨some 98, .pick (.t 94) (.t 97) (.c (.bool false)), none⟩,
   ⟨some 99, .mov (.t 98), none⟩,
   ⟨some 100, .mov (.t 7), some (99, true)⟩,
   ⟨some 101, .call 13 [.t 100, .c (.int .i64 1000), .c (.int .i64 10)], some (99, true)⟩,
   ⟨some 102, .bin .eql (.t 101) (.c (.int .i64 0)), some (99, true)⟩,
   ⟨some 103, .pick (.t 99) (.t 102) (.c (.bool false)), none⟩,
   ⟨some 104, .mov (.t 103), none⟩,
   ⟨some 105, .mov (.t 15), some (104, true)⟩,
   ⟨some 106, .len .l (.t 105), some (104, true)⟩,
   ⟨some 107, .bin .eql (.t 106) (.c (.int .i64 0)), some (104, true)⟩,
   ⟨some 108, .pick (.t 104) (.t 107) (.c (.bool false)), none⟩,
   ⟨some 109, .mov (.t 108), none⟩,
   ⟨some 110, .mov (.t 16), some (109, true)⟩,
   ⟨some 111, .len .l (.t 110), some (109, true)⟩,
   ⟨some 112, .bin .eql (.t 111) (.c (.int .i64 2)), some (109, true)⟩,
   ⟨some 113, .pick (.t 109) (.t 112) (.c (.bool false)), none⟩,
   ⟨some 114, .mov (.t 113), none⟩,
   ⟨some 115, .mov (.t 3), some (114, true)⟩,
   ⟨some 116, .call 11 [.t 115], some (114, true)⟩,
   ⟨some 117, .bin .eql (.t 116) (.c (.int .i64 0)), some (114, true)⟩,
   ⟨some 118, .pick (.t 114) (.t 117) (.c (.bool false)), none⟩,
   ⟨some 0, .mov (.t 118), none⟩] none) (
 .ret))))))))))⟩
def K8 : List (List Nat) := []

/-- corebank/hold.Find -/
def F9 : Fun := ⟨2, 17, [(4, some (true, 6)), (5, none)],
 .seq (
 .region [⟨some 4, .alloc (.agg [.int .i64 0, .int .i64 0, .int .i64 0, .int .i64 0, .int .i64 0, .str []]), none⟩,
   ⟨some 5, .mov (.c (.bool false)), none⟩] none) (
 .seq (
 .region [⟨some 7, .mov (.t 0), none⟩,
   ⟨some 8, .mov (.t 1), none⟩,
   ⟨some 9, .call 24 [.t 7, .t 8], none⟩,
   ⟨some 6, .mov (.t 9), none⟩] none) (
 .seq (
 .seq (
 .region [⟨some 10, .mov (.t 6), none⟩,
   ⟨some 11, .bin .lss (.t 10) (.c (.int .i64 0)), none⟩] none) (
 .cond (.t 11) (
  .seq (
  .region [⟨some 12, .build [.int .i64 0, .int .i64 0, .int .i64 0, .int .i64 0, .int .i64 0, .str []] [], none⟩,
    ⟨none, .store 6 (.t 4) (.t 12), none⟩,
    ⟨some 5, .mov (.c (.bool false)), none⟩] none) (
  .ret)) (
  .skip))) (
 .seq (
 .region [⟨some 13, .mov (.t 0), none⟩,
   ⟨some 14, .mov (.t 6), none⟩,
   ⟨some 15, .iaddr 6 [.int .i64, .int .i64, .int .i64, .int .i64, .int .i64, .str] (.t 13) (.t 14), none⟩,
   ⟨some 16, .load true 6 (.t 15), none⟩,
   ⟨none, .store 6 (.t 4) (.t 16), none⟩,
   ⟨some 5, .mov (.c (.bool true)), none⟩] none) (
 .ret))))⟩
def K9 : List (List Nat) := []

/-- corebank/corebankref22.Find -/
def F10 : Fun := ⟨2, 17, [(4, some (true, 6)), (5, none)],
 .seq (
 .region [⟨some 4, .alloc (.agg [.int .i64 0, .int .i64 0, .int .i64 0, .int .i64 0, .int .i64 0, .str []]), none⟩,
   ⟨some 5, .mov (.c (.bool false)), none⟩] none) (
 .seq (
 .region [⟨some 7, .mov (.t 0), none⟩,
   ⟨some 8, .mov (.t 1), none⟩,
   ⟨some 9, .call 25 [.t 7, .t 8], none⟩,
   ⟨some 6, .mov (.t 9), none⟩] none) (
 .seq (
 .seq (
 .region [⟨some 10, .mov (.t 6), none⟩,
   ⟨some 11, .bin .lss (.t 10) (.c (.int .i64 0)), none⟩] none) (
 .cond (.t 11) (
  .seq (
  .region [⟨some 12, .build [.int .i64 0, .int .i64 0, .int .i64 0, .int .i64 0, .int .i64 0, .str []] [], none⟩,
    ⟨none, .store 6 (.t 4) (.t 12), none⟩,
    ⟨some 5, .mov (.c (.bool false)), none⟩] none) (
  .ret)) (
  .skip))) (
 .seq (
 .region [⟨some 13, .mov (.t 0), none⟩,
   ⟨some 14, .mov (.t 6), none⟩,
   ⟨some 15, .iaddr 6 [.int .i64, .int .i64, .int .i64, .int .i64, .int .i64, .str] (.t 13) (.t 14), none⟩,
   ⟨some 16, .load true 6 (.t 15), none⟩,
   ⟨none, .store 6 (.t 4) (.t 16), none⟩,
   ⟨some 5, .mov (.c (.bool true)), none⟩] none) (
 .ret))))⟩
def K10 : List (List Nat) := []

/-- corebank/hold.Check -/
def F11 : Fun := ⟨1, 45, [(2, none)],
 .seq (
 .region [⟨some 2, .mov (.c (.int .i64 0)), none⟩] none) (
 .seq (
 .seq (
 .region [⟨some 5, .mov (.t 0), none⟩,
   ⟨some 6, .len .l (.t 5), none⟩,
   ⟨some 7, .bin .gtr (.t 6) (.c (.int .i64 64)), none⟩] none) (
 .cond (.t 7) (
  .seq (
  .region [⟨some 2, .mov (.c (.int .i64 5)), none⟩] none) (
  .ret)) (
  .skip))) (
 .seq (
 .seq (
 .region [⟨some 8, .mov (.t 0), none⟩,
   ⟨some 9, .len .l (.t 8), none⟩,
   ⟨some 10, .mov (.c (.int .i64 0)), none⟩] none) (
 .block 0 (
  .loop [1001100, 0, 8, 9, 10] (
   .seq (
   .region [⟨some 11, .bin .lss (.t 10) (.t 9), none⟩] none) (
   .seq (
   .cond (.t 11) (
    .skip) (
    .exit 0)) (
   .seq (
   .block 1 (
    .seq (
    .region [⟨some 12, .mov (.t 10), none⟩,
      ⟨some 13, .iaddr 6 [.int .i64, .int .i64, .int .i64, .int .i64, .int .i64, .str] (.t 8) (.t 10), none⟩,
      ⟨some 14, .load true 6 (.t 13), none⟩,
      ⟨some 4, .alloc (.agg [.int .i64 0, .int .i64 0, .int .i64 0, .int .i64 0, .int .i64 0, .str []]), none⟩,
      ⟨some 3, .mov (.t 12), none⟩,
      ⟨none, .store 6 (.t 4) (.t 14), none⟩] none) (
    .block 2 (
     .seq (
     .region [⟨some 16, .load true 6 (.t 4), none⟩,
       ⟨some 17, .call 26 [.t 16], none⟩,
       ⟨some 18, .un .not (.t 17), none⟩,
       ⟨some 15, .mov (.t 18), none⟩] none) (
     .cond (.t 15) (
      .seq (
      .region [⟨some 2, .mov (.c (.int .i64 1)), none⟩] none) (
      .ret)) (
      .seq (
      .region [⟨some 20, .faddr 5 (.t 4), none⟩,
        ⟨some 21, .load false 1 (.t 20), none⟩,
        ⟨some 22, .call 27 [.t 21], none⟩,
        ⟨some 23, .un .not (.t 22), none⟩,
        ⟨some 19, .mov (.t 23), none⟩] none) (
      .cond (.t 19) (
       .seq (
       .region [⟨some 2, .mov (.c (.int .i64 4)), none⟩] none) (
       .ret)) (
       .seq (
       .region [⟨some 25, .mov (.t 3), none⟩,
         ⟨some 26, .bin .gtr (.t 25) (.c (.int .i64 0)), none⟩,
         ⟨some 27, .mov (.t 26), none⟩,
         ⟨some 28, .faddr 0 (.t 4), some (27, true)⟩,
         ⟨some 29, .load false 1 (.t 28), some (27, true)⟩,
         ⟨some 30, .mov (.t 0), some (27, true)⟩,
         ⟨some 31, .mov (.t 3), some (27, true)⟩,
         ⟨some 32, .bin .sub (.t 31) (.c (.int .i64 1)), some (27, true)⟩,
         ⟨some 33, .iaddr 6 [.int .i64, .int .i64, .int .i64, .int .i64, .int .i64, .str] (.t 30) (.t 32), some (27, true)⟩,
         ⟨some 34, .faddr 0 (.t 33), some (27, true)⟩,
         ⟨some 35, .load false 1 (.t 34), some (27, true)⟩,
         ⟨some 36, .bin .leq (.t 29) (.t 35), some (27, true)⟩,
         ⟨some 37, .pick (.t 27) (.t 36) (.c (.bool false)), none⟩,
         ⟨some 24, .mov (.t 37), none⟩] (some [[], [0], [1, 0], [2, 1, 0], [3, 2, 1, 0, 2, 1, 0], [2, 1, 0], [2, 1, 0], [6, 2, 1, 0, 2, 1, 0], [5, 2, 1, 0, 7, 6, 2, 1, 0, 2, 1, 0, 2, 1, 0], [8, 5, 2, 1, 0, 7, 6, 2, 1, 0, 2, 1, 0, 2, 1, 0, 2, 1, 0], [9, 8, 5, 2, 1, 0, 7, 6, 2, 1, 0, 2, 1, 0, 2, 1, 0, 2, 1, 0, 2, 1, 0], [4, 3, 2, 1, 0, 2, 1, 0, 10, 9, 8, 5, 2, 1, 0, 7, 6, 2, 1, 0, 2, 1, 0, 2, 1, 0, 2, 1, 0, 2, 1, 0, 2, 1, 0], [2, 1, 0, 11, 4, 3, 2, 1, 0, 2, 1, 0, 10, 9, 8, 5, 2, 1, 0, 7, 6, 2, 1, 0, 2, 1, 0, 2, 1, 0, 2, 1, 0, 2, 1, 0, 2, 1, 0], [12, 2, 1, 0, 11, 4, 3, 2, 1, 0, 2, 1, 0, 10, 9, 8, 5, 2, 1, 0, 7, 6, 2, 1, 0, 2, 1, 0, 2, 1, 0, 2, 1, 0, 2, 1, 0, 2, 1, 0, 2, 1, 0]])) (
       .cond (.t 24) (
        .seq (
        .region [⟨some 2, .mov (.c (.int .i64 10)), none⟩] none) (
        .ret)) (
        .seq (
        .region [⟨some 39, .mov (.t 0), none⟩,
          ⟨some 40, .mov (.t 3), none⟩,
          ⟨some 41, .slc 6 (.t 39) none (some (.t 40)), none⟩,
          ⟨some 42, .mkf 29 [.t 4], none⟩,
          ⟨some 43, .call 28 [.t 41, .t 42], none⟩,
          ⟨some 38, .mov (.t 43), none⟩] none) (
        .cond (.t 38) (
         .seq (
         .region [⟨some 2, .mov (.c (.int .i64 12)), none⟩] none) (
         .ret)) (
         .skip)))))))))))) (
   .region [⟨some 44, .bin .add (.t 10) (.c (.int .i64 1)), none⟩,
     ⟨some 10, .mov (.t 44), none⟩] none))))))) (
 .seq (
 .region [⟨some 2, .mov (.c (.int .i64 0)), none⟩] none) (
 .ret))))⟩
def K11 : List (List Nat) := [[1001100, 0, 8, 9, 10]]

/-- corebank/corebankref22.Check -/
def F12 : Fun := ⟨1, 47, [(2, none)],
 .seq (
 .region [⟨some 2, .mov (.c (.int .i64 0)), none⟩] none) (
 .seq (
 .seq (
 .region [⟨some 5, .mov (.t 0), none⟩,
   ⟨some 6, .len .l (.t 5), none⟩,
   ⟨some 7, .bin .gtr (.t 6) (.c (.int .i64 64)), none⟩] none) (
 .cond (.t 7) (
  .seq (
  .region [⟨some 2, .mov (.c (.int .i64 5)), none⟩] none) (
  .ret)) (
  .skip))) (
 .seq (
 .seq (
 .region [⟨some 3, .mov (.c (.int .i64 0)), none⟩] none) (
 .block 0 (
  .loop [1001200, 0, 3] (
   .seq (
   .seq (
   .region [⟨some 8, .mov (.t 3), none⟩,
     ⟨some 9, .mov (.t 0), none⟩,
     ⟨some 10, .len .l (.t 9), none⟩,
     ⟨some 11, .bin .lss (.t 8) (.t 10), none⟩] none) (
   .cond (.t 11) (
    .skip) (
    .exit 0))) (
   .seq (
   .block 1 (
    .seq (
    .seq (
    .region [⟨some 14, .mov (.t 0), none⟩,
      ⟨some 15, .mov (.t 3), none⟩,
      ⟨some 16, .iaddr 6 [.int .i64, .int .i64, .int .i64, .int .i64, .int .i64, .str] (.t 14) (.t 15), none⟩,
      ⟨some 17, .load true 6 (.t 16), none⟩,
      ⟨some 18, .call 30 [.t 17], none⟩,
      ⟨some 4, .mov (.t 18), none⟩] none) (
    .seq (
    .region [⟨some 19, .mov (.t 4), none⟩,
      ⟨some 20, .bin .neq (.t 19) (.c (.int .i64 0)), none⟩] none) (
    .cond (.t 20) (
     .seq (
     .region [⟨some 21, .mov (.t 4), none⟩,
       ⟨some 2, .mov (.t 21), none⟩] none) (
     .ret)) (
     .skip)))) (
    .seq (
    .seq (
    .region [⟨some 22, .mov (.t 3), none⟩,
      ⟨some 23, .bin .gtr (.t 22) (.c (.int .i64 0)), none⟩,
      ⟨some 24, .mov (.t 23), none⟩,
      ⟨some 25, .mov (.t 0), some (24, true)⟩,
      ⟨some 26, .mov (.t 3), some (24, true)⟩,
      ⟨some 27, .iaddr 6 [.int .i64, .int .i64, .int .i64, .int .i64, .int .i64, .str] (.t 25) (.t 26), some (24, true)⟩,
      ⟨some 28, .faddr 0 (.t 27), some (24, true)⟩,
      ⟨some 29, .load false 1 (.t 28), some (24, true)⟩,
      ⟨some 30, .mov (.t 0), some (24, true)⟩,
      ⟨some 31, .mov (.t 3), some (24, true)⟩,
      ⟨some 32, .bin .sub (.t 31) (.c (.int .i64 1)), some (24, true)⟩,
      ⟨some 33, .iaddr 6 [.int .i64, .int .i64, .int .i64, .int .i64, .int .i64, .str] (.t 30) (.t 32), some (24, true)⟩,
      ⟨some 34, .faddr 0 (.t 33), some (24, true)⟩,
      ⟨some 35, .load false 1 (.t 34), some (24, true)⟩,
      ⟨some 36, .bin .leq (.t 29) (.t 35), some (24, true)⟩,
      ⟨some 37, .pick (.t 24) (.t 36) (.c (.bool false)), none⟩] (some [[], [0], [1, 0], [2, 1, 0], [2, 1, 0], [3, 2, 1, 0, 4, 2, 1, 0, 2, 1, 0], [5, 3, 2, 1, 0, 4, 2, 1, 0, 2, 1, 0, 2, 1, 0], [6, 5, 3, 2, 1, 0, 4, 2, 1, 0, 2, 1, 0, 2, 1, 0, 2, 1, 0], [2, 1, 0], [2, 1, 0], [9, 2, 1, 0, 2, 1, 0], [8, 2, 1, 0, 10, 9, 2, 1, 0, 2, 1, 0, 2, 1, 0], [11, 8, 2, 1, 0, 10, 9, 2, 1, 0, 2, 1, 0, 2, 1, 0, 2, 1, 0], [12, 11, 8, 2, 1, 0, 10, 9, 2, 1, 0, 2, 1, 0, 2, 1, 0, 2, 1, 0, 2, 1, 0], [7, 6, 5, 3, 2, 1, 0, 4, 2, 1, 0, 2, 1, 0, 2, 1, 0, 2, 1, 0, 13, 12, 11, 8, 2, 1, 0, 10, 9, 2, 1, 0, 2, 1, 0, 2, 1, 0, 2, 1, 0, 2, 1, 0, 2, 1, 0], [2, 1, 0, 14, 7, 6, 5, 3, 2, 1, 0, 4, 2, 1, 0, 2, 1, 0, 2, 1, 0, 2, 1, 0, 13, 12, 11, 8, 2, 1, 0, 10, 9, 2, 1, 0, 2, 1, 0, 2, 1, 0, 2, 1, 0, 2, 1, 0, 2, 1, 0]])) (
    .cond (.t 37) (
     .seq (
     .region [⟨some 2, .mov (.c (.int .i64 10)), none⟩] none) (
     .ret)) (
     .skip))) (
    .seq (
    .region [⟨some 38, .mov (.t 0), none⟩,
      ⟨some 39, .mov (.t 3), none⟩,
      ⟨some 40, .slc 6 (.t 38) none (some (.t 39)), none⟩,
      ⟨some 41, .mov (.t 0), none⟩,
      ⟨some 42, .mov (.t 3), none⟩,
      ⟨some 43, .iaddr 6 [.int .i64, .int .i64, .int .i64, .int .i64, .int .i64, .str] (.t 41) (.t 42), none⟩,
      ⟨some 44, .faddr 5 (.t 43), none⟩,
      ⟨some 45, .load false 1 (.t 44), none⟩,
      ⟨some 46, .call 31 [.t 40, .t 45], none⟩] (some [[], [], [0, 1], [], [], [3, 4], [5, 3, 4], [6, 5, 3, 4], [2, 0, 1, 7, 6, 5, 3, 4]])) (
    .cond (.t 46) (
     .seq (
     .region [⟨some 2, .mov (.c (.int .i64 12)), none⟩] none) (
     .ret)) (
     .skip)))))) (
   .region [⟨some 12, .mov (.t 3), none⟩,
     ⟨some 13, .bin .add (.t 12) (.c (.int .i64 1)), none⟩,
     ⟨some 3, .mov (.t 13), none⟩] none)))))) (
 .seq (
 .region [⟨some 2, .mov (.c (.int .i64 0)), none⟩] none) (
 .ret))))⟩
def K12 : List (List Nat) := [[1001200, 0, 3]]

/-- corebank/hold.Total -/
def F13 : Fun := ⟨3, 38, [(6, none)],
 .seq (
 .region [⟨some 6, .mov (.c (.int .i64 0)), none⟩] none) (
 .seq (
 .region [⟨some 7, .mov (.c (.int .i64 0)), none⟩] none) (
 .seq (
 .seq (
 .region [⟨some 10, .mov (.t 0), none⟩,
   ⟨some 11, .len .l (.t 10), none⟩,
   ⟨some 12, .mov (.c (.int .i64 0)), none⟩] none) (
 .block 0 (
  .loop [1001300, 1, 2, 7, 10, 11, 12] (
   .seq (
   .region [⟨some 13, .bin .lss (.t 12) (.t 11), none⟩] none) (
   .seq (
   .cond (.t 13) (
    .skip) (
    .exit 0)) (
   .seq (
   .block 1 (
    .seq (
    .region [⟨some 14, .iaddr 6 [.int .i64, .int .i64, .int .i64, .int .i64, .int .i64, .str] (.t 10) (.t 12), none⟩,
      ⟨some 15, .load true 6 (.t 14), none⟩,
      ⟨some 9, .alloc (.agg [.int .i64 0, .int .i64 0, .int .i64 0, .int .i64 0, .int .i64 0, .str []]), none⟩,
      ⟨none, .store 6 (.t 9) (.t 15), none⟩] none) (
    .seq (
    .region [⟨some 16, .faddr 1 (.t 9), none⟩,
      ⟨some 17, .load false 1 (.t 16), none⟩,
      ⟨some 18, .mov (.t 1), none⟩,
      ⟨some 19, .bin .eql (.t 17) (.t 18), none⟩,
      ⟨some 20, .mov (.t 19), none⟩,
      ⟨some 21, .faddr 3 (.t 9), some (20, true)⟩,
      ⟨some 22, .load false 1 (.t 21), some (20, true)⟩,
      ⟨some 23, .mov (.t 2), some (20, true)⟩,
      ⟨some 24, .bin .leq (.t 22) (.t 23), some (20, true)⟩,
      ⟨some 25, .pick (.t 20) (.t 24) (.c (.bool false)), none⟩,
      ⟨some 26, .mov (.t 25), none⟩,
      ⟨some 27, .mov (.t 2), some (26, true)⟩,
      ⟨some 28, .faddr 4 (.t 9), some (26, true)⟩,
      ⟨some 29, .load false 1 (.t 28), some (26, true)⟩,
      ⟨some 30, .bin .leq (.t 27) (.t 29), some (26, true)⟩,
      ⟨some 31, .pick (.t 26) (.t 30) (.c (.bool false)), none⟩] none) (
    .cond (.t 31) (
     .region [⟨some 32, .mov (.t 7), none⟩,
       ⟨some 33, .faddr 2 (.t 9), none⟩,
       ⟨some 34, .load false 1 (.t 33), none⟩,
       ⟨some 35, .bin .add (.t 32) (.t 34), none⟩,
       ⟨some 7, .mov (.t 35), none⟩] none) (
     .skip))))) (
   .region [⟨some 36, .bin .add (.t 12) (.c (.int .i64 1)), none⟩,
     ⟨some 12, .mov (.t 36), none⟩] none))))))) (
 .seq (
 .region [⟨some 37, .mov (.t 7), none⟩,
   ⟨some 6, .mov (.t 37), none⟩] none) (
 .ret))))⟩
def K13 : List (List Nat) := [[1001300, 1, 2, 7, 10, 11, 12]]

/-- corebank/corebankref22.Total -/
def F14 : Fun := ⟨3, 48, [(6, none)],
 .seq (
 .region [⟨some 6, .mov (.c (.int .i64 0)), none⟩] none) (
 .seq (
 .region [⟨some 7, .mov (.c (.int .i64 0)), none⟩] none) (
 .seq (
 .seq (
 .region [⟨some 8, .mov (.c (.int .i64 0)), none⟩] none) (
 .block 0 (
  .loop [1001400, 0, 1, 2, 7, 8] (
   .seq (
   .seq (
   .region [⟨some 9, .mov (.t 8), none⟩,
     ⟨some 10, .mov (.t 0), none⟩,
     ⟨some 11, .len .l (.t 10), none⟩,
     ⟨some 12, .bin .lss (.t 9) (.t 11), none⟩] none) (
   .cond (.t 12) (
    .skip) (
    .exit 0))) (
   .seq (
   .block 1 (
    .seq (
    .region [⟨some 15, .mov (.t 0), none⟩,
      ⟨some 16, .mov (.t 8), none⟩,
      ⟨some 17, .iaddr 6 [.int .i64, .int .i64, .int .i64, .int .i64, .int .i64, .str] (.t 15) (.t 16), none⟩,
      ⟨some 18, .faddr 1 (.t 17), none⟩,
      ⟨some 19, .load false 1 (.t 18), none⟩,
      ⟨some 20, .mov (.t 1), none⟩,
      ⟨some 21, .bin .eql (.t 19) (.t 20), none⟩,
      ⟨some 22, .mov (.t 21), none⟩,
      ⟨some 23, .mov (.t 2), some (22, true)⟩,
      ⟨some 24, .mov (.t 0), some (22, true)⟩,
      ⟨some 25, .mov (.t 8), some (22, true)⟩,
      ⟨some 26, .iaddr 6 [.int .i64, .int .i64, .int .i64, .int .i64, .int .i64, .str] (.t 24) (.t 25), some (22, true)⟩,
      ⟨some 27, .faddr 3 (.t 26), some (22, true)⟩,
      ⟨some 28, .load false 1 (.t 27), some (22, true)⟩,
      ⟨some 29, .bin .geq (.t 23) (.t 28), some (22, true)⟩,
      ⟨some 30, .pick (.t 22) (.t 29) (.c (.bool false)), none⟩,
      ⟨some 31, .mov (.t 30), none⟩,
      ⟨some 32, .mov (.t 2), some (31, true)⟩,
      ⟨some 33, .mov (.t 0), some (31, true)⟩,
      ⟨some 34, .mov (.t 8), some (31, true)⟩,
      ⟨some 35, .iaddr 6 [.int .i64, .int .i64, .int .i64, .int .i64, .int .i64, .str] (.t 33) (.t 34), some (31, true)⟩,
      ⟨some 36, .faddr 4 (.t 35), some (31, true)⟩,
      ⟨some 37, .load false 1 (.t 36), some (31, true)⟩,
      ⟨some 38, .bin .leq (.t 32) (.t 37), some (31, true)⟩,
      ⟨some 39, .pick (.t 31) (.t 38) (.c (.bool false)), none⟩] none) (
    .cond (.t 39) (
     .region [⟨some 40, .mov (.t 7), none⟩,
       ⟨some 41, .mov (.t 0), none⟩,
       ⟨some 42, .mov (.t 8), none⟩,
       ⟨some 43, .iaddr 6 [.int .i64, .int .i64, .int .i64, .int .i64, .int .i64, .str] (.t 41) (.t 42), none⟩,
       ⟨some 44, .faddr 2 (.t 43), none⟩,
       ⟨some 45, .load false 1 (.t 44), none⟩,
       ⟨some 46, .bin .add (.t 40) (.t 45), none⟩,
       ⟨some 7, .mov (.t 46), none⟩] none) (
     .skip)))) (
   .region [⟨some 13, .mov (.t 8), none⟩,
     ⟨some 14, .bin .add (.t 13) (.c (.int .i64 1)), none⟩,
     ⟨some 8, .mov (.t 14), none⟩] none)))))) (
 .seq (
 .region [⟨some 47, .mov (.t 7), none⟩,
   ⟨some 6, .mov (.t 47), none⟩] none) (
 .ret))))⟩
def K14 : List (List Nat) := [[1001400, 0, 1, 2, 7, 8]]

/-- corebank/corebanklaw22.short -/
def F15 : Fun := ⟨1, 25, [(2, none)],
 .seq (
 .region [⟨some 2, .mov (.c (.bool false)), none⟩] none) (
 .seq (
 .seq (
 .region [⟨some 3, .mov (.c (.int .i64 0)), none⟩] none) (
 .block 0 (
  .loop [1001500, 0, 3] (
   .seq (
   .seq (
   .region [⟨some 4, .mov (.t 3), none⟩,
     ⟨some 5, .mov (.t 0), none⟩,
     ⟨some 6, .len .l (.t 5), none⟩,
     ⟨some 7, .bin .lss (.t 4) (.t 6), none⟩,
     ⟨some 8, .mov (.t 7), none⟩,
     ⟨some 9, .mov (.t 3), some (8, true)⟩,
     ⟨some 10, .bin .lss (.t 9) (.c (.int .i64 60)), some (8, true)⟩,
     ⟨some 11, .pick (.t 8) (.t 10) (.c (.bool false)), none⟩] none) (
   .cond (.t 11) (
    .skip) (
    .exit 0))) (
   .seq (
   .block 1 (
    .seq (
    .region [⟨some 14, .mov (.t 0), none⟩,
      ⟨some 15, .mov (.t 3), none⟩,
      ⟨some 16, .iaddr 10 [.int .i64, .int .i64, .int .i64, .int .i64, .int .i64, .int .i64, .int .i64, .int .i64, .int .i64, .str] (.t 14) (.t 15), none⟩,
      ⟨some 17, .faddr 4 (.t 16), none⟩,
      ⟨some 18, .faddr 5 (.t 17), none⟩,
      ⟨some 19, .load false 1 (.t 18), none⟩,
      ⟨some 20, .len .s (.t 19), none⟩,
      ⟨some 21, .bin .gtr (.t 20) (.c (.int .i64 200)), none⟩] none) (
    .cond (.t 21) (
     .seq (
     .region [⟨some 2, .mov (.c (.bool false)), none⟩] none) (
     .ret)) (
     .skip)))) (
   .region [⟨some 12, .mov (.t 3), none⟩,
     ⟨some 13, .bin .add (.t 12) (.c (.int .i64 1)), none⟩,
     ⟨some 3, .mov (.t 13), none⟩] none)))))) (
 .seq (
 .region [⟨some 22, .mov (.t 0), none⟩,
   ⟨some 23, .len .l (.t 22), none⟩,
   ⟨some 24, .bin .leq (.t 23) (.c (.int .i64 60)), none⟩,
   ⟨some 2, .mov (.t 24), none⟩] none) (
 .ret)))⟩
def K15 : List (List Nat) := [[1001500, 0, 3]]

/-- corebank/corebanklaw22.done -/
def F16 : Fun := ⟨2, 166, [(4, none), (5, none)],
 .seq (
 .region [⟨some 3, .box 10 (.t 1), none⟩,
   ⟨some 4, .mov (.c (.nils)), none⟩,
   ⟨some 5, .mov (.c (.bool false)), none⟩] none) (
 .seq (
 .seq (
 .region [⟨some 22, .faddr 0 (.t 3), none⟩,
   ⟨some 23, .load false 1 (.t 22), none⟩] none) (
 .block 0 (
  .seq (
  .region [⟨some 25, .bin .eql (.t 23) (.c (.int .i64 0)), none⟩,
    ⟨some 24, .mov (.t 25), none⟩] none) (
  .cond (.t 24) (
   .seq (
   .region [⟨some 27, .mov (.t 0), none⟩,
     ⟨some 28, .faddr 4 (.t 3), none⟩,
     ⟨some 29, .load true 6 (.t 28), none⟩,
     ⟨some 30, .call 17 [.t 27, .t 29], none⟩,
     ⟨some 26, .mov (.t 30), none⟩,
     ⟨some 31, .ext (.t 26) 0, none⟩,
     ⟨some 32, .ext (.t 26) 1, none⟩,
     ⟨some 6, .mov (.t 31), none⟩,
     ⟨some 7, .mov (.t 32), none⟩] none) (
   .seq (
   .region [⟨some 34, .mov (.t 0), none⟩,
     ⟨some 35, .faddr 4 (.t 3), none⟩,
     ⟨some 36, .load true 6 (.t 35), none⟩,
     ⟨some 37, .call 32 [.t 34, .t 36], none⟩,
     ⟨some 33, .mov (.t 37), none⟩,
     ⟨some 38, .ext (.t 33) 0, none⟩,
     ⟨some 39, .ext (.t 33) 1, none⟩,
     ⟨some 8, .mov (.t 38), none⟩,
     ⟨some 9, .mov (.t 39), none⟩] none) (
   .seq (
   .seq (
   .region [⟨some 40, .mov (.t 7), none⟩,
     ⟨some 41, .bin .neq (.t 40) (.c (.int .i64 0)), none⟩] none) (
   .cond (.t 41) (
    .seq (
    .region [⟨some 42, .mov (.t 0), none⟩,
      ⟨some 43, .mov (.t 7), none⟩,
      ⟨some 44, .mov (.t 9), none⟩,
      ⟨some 45, .bin .eql (.t 43) (.t 44), none⟩,
      ⟨some 46, .mov (.t 45), none⟩,
      ⟨some 47, .mov (.t 6), some (46, true)⟩,
      ⟨some 48, .len .l (.t 47), some (46, true)⟩,
      ⟨some 49, .bin .eql (.t 48) (.c (.int .i64 0)), some (46, true)⟩,
      ⟨some 50, .pick (.t 46) (.t 49) (.c (.bool false)), none⟩,
      ⟨some 4, .mov (.t 42), none⟩,
      ⟨some 5, .mov (.t 50), none⟩] none) (
    .ret)) (
    .skip))) (
   .seq (
   .region [⟨some 51, .mov (.t 6), none⟩,
     ⟨some 52, .mov (.t 7), none⟩,
     ⟨some 53, .mov (.t 9), none⟩,
     ⟨some 54, .bin .eql (.t 52) (.t 53), none⟩,
     ⟨some 55, .mov (.t 54), none⟩,
     ⟨some 56, .mov (.t 6), some (55, true)⟩,
     ⟨some 57, .mov (.t 8), some (55, true)⟩,
     ⟨some 58, .call 33 [.t 56, .t 57], some (55, true)⟩,
     ⟨some 59, .pick (.t 55) (.t 58) (.c (.bool false)), none⟩,
     ⟨some 4, .mov (.t 51), none⟩,
     ⟨some 5, .mov (.t 59), none⟩] none) (
   .ret))))) (
   .seq (
   .region [⟨some 61, .bin .eql (.t 23) (.c (.int .i64 1)), none⟩,
     ⟨some 60, .mov (.t 61), none⟩] none) (
   .cond (.t 60) (
    .seq (
    .region [⟨some 63, .mov (.t 0), none⟩,
      ⟨some 64, .faddr 1 (.t 3), none⟩,
      ⟨some 65, .load false 1 (.t 64), none⟩,
      ⟨some 66, .faddr 2 (.t 3), none⟩,
      ⟨some 67, .load false 1 (.t 66), none⟩,
      ⟨some 68, .faddr 3 (.t 3), none⟩,
      ⟨some 69, .load false 1 (.t 68), none⟩,
      ⟨some 70, .call 18 [.t 63, .t 65, .t 67, .t 69], none⟩,
      ⟨some 62, .mov (.t 70), none⟩,
      ⟨some 71, .ext (.t 62) 0, none⟩,
      ⟨some 72, .ext (.t 62) 1, none⟩,
      ⟨some 10, .mov (.t 71), none⟩,
      ⟨some 11, .mov (.t 72), none⟩] none) (
    .seq (
    .region [⟨some 74, .mov (.t 0), none⟩,
      ⟨some 75, .faddr 1 (.t 3), none⟩,
      ⟨some 76, .load false 1 (.t 75), none⟩,
      ⟨some 77, .faddr 2 (.t 3), none⟩,
      ⟨some 78, .load false 1 (.t 77), none⟩,
      ⟨some 79, .faddr 3 (.t 3), none⟩,
      ⟨some 80, .load false 1 (.t 79), none⟩,
      ⟨some 81, .call 34 [.t 74, .t 76, .t 78, .t 80], none⟩,
      ⟨some 73, .mov (.t 81), none⟩,
      ⟨some 82, .ext (.t 73) 0, none⟩,
      ⟨some 83, .ext (.t 73) 1, none⟩,
      ⟨some 12, .mov (.t 82), none⟩,
      ⟨some 13, .mov (.t 83), none⟩] none) (
    .seq (
    .seq (
    .region [⟨some 84, .mov (.t 11), none⟩,
      ⟨some 85, .bin .neq (.t 84) (.c (.int .i64 0)), none⟩] none) (
    .cond (.t 85) (
     .seq (
     .region [⟨some 86, .mov (.t 0), none⟩,
       ⟨some 87, .mov (.t 11), none⟩,
       ⟨some 88, .mov (.t 13), none⟩,
       ⟨some 89, .bin .eql (.t 87) (.t 88), none⟩,
       ⟨some 90, .mov (.t 89), none⟩,
       ⟨some 91, .mov (.t 10), some (90, true)⟩,
       ⟨some 92, .len .l (.t 91), some (90, true)⟩,
       ⟨some 93, .bin .eql (.t 92) (.c (.int .i64 0)), some (90, true)⟩,
       ⟨some 94, .pick (.t 90) (.t 93) (.c (.bool false)), none⟩,
       ⟨some 4, .mov (.t 86), none⟩,
       ⟨some 5, .mov (.t 94), none⟩] none) (
     .ret)) (
     .skip))) (
    .seq (
    .region [⟨some 95, .mov (.t 10), none⟩,
      ⟨some 96, .mov (.t 11), none⟩,
      ⟨some 97, .mov (.t 13), none⟩,
      ⟨some 98, .bin .eql (.t 96) (.t 97), none⟩,
      ⟨some 99, .mov (.t 98), none⟩,
      ⟨some 100, .mov (.t 10), some (99, true)⟩,
      ⟨some 101, .mov (.t 12), some (99, true)⟩,
      ⟨some 102, .call 33 [.t 100, .t 101], some (99, true)⟩,
      ⟨some 103, .pick (.t 99) (.t 102) (.c (.bool false)), none⟩,
      ⟨some 4, .mov (.t 95), none⟩,
      ⟨some 5, .mov (.t 103), none⟩] none) (
    .ret))))) (
    .seq (
    .region [⟨some 105, .bin .eql (.t 23) (.c (.int .i64 2)), none⟩,
      ⟨some 104, .mov (.t 105), none⟩] none) (
    .cond (.t 104) (
     .seq (
     .region [⟨some 107, .mov (.t 0), none⟩,
       ⟨some 108, .faddr 1 (.t 3), none⟩,
       ⟨some 109, .load false 1 (.t 108), none⟩,
       ⟨some 110, .call 19 [.t 107, .t 109], none⟩,
       ⟨some 106, .mov (.t 110), none⟩,
       ⟨some 111, .ext (.t 106) 0, none⟩,
       ⟨some 112, .ext (.t 106) 1, none⟩,
       ⟨some 14, .mov (.t 111), none⟩,
       ⟨some 15, .mov (.t 112), none⟩] none) (
     .seq (
     .region [⟨some 114, .mov (.t 0), none⟩,
       ⟨some 115, .faddr 1 (.t 3), none⟩,
       ⟨some 116, .load false 1 (.t 115), none⟩,
       ⟨some 117, .call 35 [.t 114, .t 116], none⟩,
       ⟨some 113, .mov (.t 117), none⟩,
       ⟨some 118, .ext (.t 113) 0, none⟩,
       ⟨some 119, .ext (.t 113) 1, none⟩,
       ⟨some 16, .mov (.t 118), none⟩,
       ⟨some 17, .mov (.t 119), none⟩] none) (
     .seq (
     .seq (
     .region [⟨some 120, .mov (.t 15), none⟩,
       ⟨some 121, .bin .neq (.t 120) (.c (.int .i64 0)), none⟩] none) (
     .cond (.t 121) (
      .seq (
      .region [⟨some 122, .mov (.t 0), none⟩,
        ⟨some 123, .mov (.t 15), none⟩,
        ⟨some 124, .mov (.t 17), none⟩,
        ⟨some 125, .bin .eql (.t 123) (.t 124), none⟩,
        ⟨some 126, .mov (.t 125), none⟩,
        ⟨some 127, .mov (.t 14), some (126, true)⟩,
        ⟨some 128, .len .l (.t 127), some (126, true)⟩,
        ⟨some 129, .bin .eql (.t 128) (.c (.int .i64 0)), some (126, true)⟩,
        ⟨some 130, .pick (.t 126) (.t 129) (.c (.bool false)), none⟩,
        ⟨some 4, .mov (.t 122), none⟩,
        ⟨some 5, .mov (.t 130), none⟩] none) (
      .ret)) (
      .skip))) (
     .seq (
     .region [⟨some 131, .mov (.t 14), none⟩,
       ⟨some 132, .mov (.t 15), none⟩,
       ⟨some 133, .mov (.t 17), none⟩,
       ⟨some 134, .bin .eql (.t 132) (.t 133), none⟩,
       ⟨some 135, .mov (.t 134), none⟩,
       ⟨some 136, .mov (.t 14), some (135, true)⟩,
       ⟨some 137, .mov (.t 16), some (135, true)⟩,
       ⟨some 138, .call 33 [.t 136, .t 137], some (135, true)⟩,
       ⟨some 139, .pick (.t 135) (.t 138) (.c (.bool false)), none⟩,
       ⟨some 4, .mov (.t 131), none⟩,
       ⟨some 5, .mov (.t 139), none⟩] none) (
     .ret))))) (
     .seq (
     .region [⟨some 141, .bin .eql (.t 23) (.c (.int .i64 3)), none⟩,
       ⟨some 140, .mov (.t 141), none⟩] none) (
     .cond (.t 140) (
      .seq (
      .region [⟨some 143, .mov (.t 0), none⟩,
        ⟨some 144, .faddr 3 (.t 3), none⟩,
        ⟨some 145, .load false 1 (.t 144), none⟩,
        ⟨some 146, .call 22 [.t 143, .t 145], none⟩,
        ⟨some 142, .mov (.t 146), none⟩,
        ⟨some 147, .ext (.t 142) 0, none⟩,
        ⟨some 148, .ext (.t 142) 1, none⟩,
        ⟨some 18, .mov (.t 147), none⟩,
        ⟨some 19, .mov (.t 148), none⟩] none) (
      .seq (
      .region [⟨some 150, .mov (.t 0), none⟩,
        ⟨some 151, .faddr 3 (.t 3), none⟩,
        ⟨some 152, .load false 1 (.t 151), none⟩,
        ⟨some 153, .call 36 [.t 150, .t 152], none⟩,
        ⟨some 149, .mov (.t 153), none⟩,
        ⟨some 154, .ext (.t 149) 0, none⟩,
        ⟨some 155, .ext (.t 149) 1, none⟩,
        ⟨some 20, .mov (.t 154), none⟩,
        ⟨some 21, .mov (.t 155), none⟩] none) (
      .seq (
      .region [⟨some 156, .mov (.t 18), none⟩,
        ⟨some 157, .mov (.t 18), none⟩,
        ⟨some 158, .mov (.t 20), none⟩,
        ⟨some 159, .call 33 [.t 157, .t 158], none⟩,
        ⟨some 160, .mov (.t 159), none⟩,
        ⟨some 161, .mov (.t 19), some (160, true)⟩,
        ⟨some 162, .mov (.t 21), some (160, true)⟩,
        ⟨some 163, .call 37 [.t 161, .t 162], some (160, true)⟩,
        ⟨some 164, .pick (.t 160) (.t 163) (.c (.bool false)), none⟩,
        ⟨some 4, .mov (.t 156), none⟩,
        ⟨some 5, .mov (.t 164), none⟩] none) (
      .ret)))) (
      .skip))))))))))) (
 .seq (
 .region [⟨some 165, .mov (.t 0), none⟩,
   ⟨some 4, .mov (.t 165), none⟩,
   ⟨some 5, .mov (.c (.bool true)), none⟩] none) (
 .ret)))⟩
def K16 : List (List Nat) := []

/-- corebank/hold.Place -/
def F17 : Fun := ⟨2, 45, [(4, none), (5, none)],
 .seq (
 .region [⟨some 3, .box 6 (.t 1), none⟩,
   ⟨some 4, .mov (.c (.nils)), none⟩,
   ⟨some 5, .mov (.c (.int .i64 0)), none⟩] none) (
 .seq (
 .block 0 (
  .seq (
  .region [⟨some 7, .mov (.t 0), none⟩,
    ⟨some 8, .call 11 [.t 7], none⟩,
    ⟨some 9, .bin .neq (.t 8) (.c (.int .i64 0)), none⟩,
    ⟨some 10, .mov (.t 9), none⟩,
    ⟨some 11, .load true 6 (.t 3), some (10, false)⟩,
    ⟨some 12, .bslice 6 (.agg [.int .i64 0, .int .i64 0, .int .i64 0, .int .i64 0, .int .i64 0, .str []]) 1 [(0, (.t 11))], some (10, false)⟩,
    ⟨some 13, .call 11 [.t 12], some (10, false)⟩,
    ⟨some 14, .bin .neq (.t 13) (.c (.int .i64 0)), some (10, false)⟩,
    ⟨some 15, .pick (.t 10) (.c (.bool true)) (.t 14), none⟩,
    ⟨some 6, .mov (.t 15), none⟩] none) (
  .cond (.t 6) (
   .seq (
   .region [⟨some 4, .mov (.c (.nils)), none⟩,
     ⟨some 5, .mov (.c (.int .i64 1)), none⟩] none) (
   .ret)) (
   .seq (
   .region [⟨some 17, .mov (.t 0), none⟩,
     ⟨some 18, .len .l (.t 17), none⟩,
     ⟨some 19, .bin .gtr (.t 18) (.c (.int .i64 0)), none⟩,
     ⟨some 20, .mov (.t 19), none⟩,
     ⟨some 21, .faddr 0 (.t 3), some (20, true)⟩,
     ⟨some 22, .load false 1 (.t 21), some (20, true)⟩,
     ⟨some 23, .mov (.t 0), some (20, true)⟩,
     ⟨some 24, .mov (.t 0), some (20, true)⟩,
     ⟨some 25, .len .l (.t 24), some (20, true)⟩,
     ⟨some 26, .bin .sub (.t 25) (.c (.int .i64 1)), some (20, true)⟩,
     ⟨some 27, .iaddr 6 [.int .i64, .int .i64, .int .i64, .int .i64, .int .i64, .str] (.t 23) (.t 26), some (20, true)⟩,
     ⟨some 28, .faddr 0 (.t 27), some (20, true)⟩,
     ⟨some 29, .load false 1 (.t 28), some (20, true)⟩,
     ⟨some 30, .bin .leq (.t 22) (.t 29), some (20, true)⟩,
     ⟨some 31, .pick (.t 20) (.t 30) (.c (.bool false)), none⟩,
     ⟨some 16, .mov (.t 31), none⟩] (some [[], [0], [1, 0], [2, 1, 0], [3, 2, 1, 0], [4, 3, 2, 1, 0, 3, 2, 1, 0], [3, 2, 1, 0], [3, 2, 1, 0], [7, 3, 2, 1, 0, 3, 2, 1, 0], [8, 7, 3, 2, 1, 0, 3, 2, 1, 0, 3, 2, 1, 0], [6, 3, 2, 1, 0, 9, 8, 7, 3, 2, 1, 0, 3, 2, 1, 0, 3, 2, 1, 0, 3, 2, 1, 0], [10, 6, 3, 2, 1, 0, 9, 8, 7, 3, 2, 1, 0, 3, 2, 1, 0, 3, 2, 1, 0, 3, 2, 1, 0, 3, 2, 1, 0], [11, 10, 6, 3, 2, 1, 0, 9, 8, 7, 3, 2, 1, 0, 3, 2, 1, 0, 3, 2, 1, 0, 3, 2, 1, 0, 3, 2, 1, 0, 3, 2, 1, 0], [5, 4, 3, 2, 1, 0, 3, 2, 1, 0, 12, 11, 10, 6, 3, 2, 1, 0, 9, 8, 7, 3, 2, 1, 0, 3, 2, 1, 0, 3, 2, 1, 0, 3, 2, 1, 0, 3, 2, 1, 0, 3, 2, 1, 0, 3, 2, 1, 0], [3, 2, 1, 0, 13, 5, 4, 3, 2, 1, 0, 3, 2, 1, 0, 12, 11, 10, 6, 3, 2, 1, 0, 9, 8, 7, 3, 2, 1, 0, 3, 2, 1, 0, 3, 2, 1, 0, 3, 2, 1, 0, 3, 2, 1, 0, 3, 2, 1, 0, 3, 2, 1, 0], [14, 3, 2, 1, 0, 13, 5, 4, 3, 2, 1, 0, 3, 2, 1, 0, 12, 11, 10, 6, 3, 2, 1, 0, 9, 8, 7, 3, 2, 1, 0, 3, 2, 1, 0, 3, 2, 1, 0, 3, 2, 1, 0, 3, 2, 1, 0, 3, 2, 1, 0, 3, 2, 1, 0, 3, 2, 1, 0]])) (
   .cond (.t 16) (
    .seq (
    .region [⟨some 4, .mov (.c (.nils)), none⟩,
      ⟨some 5, .mov (.c (.int .i64 10)), none⟩] none) (
    .ret)) (
    .seq (
    .region [⟨some 33, .mov (.t 0), none⟩,
      ⟨some 34, .mkf 38 [.t 3], none⟩,
      ⟨some 35, .call 28 [.t 33, .t 34], none⟩,
      ⟨some 32, .mov (.t 35), none⟩] none) (
    .cond (.t 32) (
     .seq (
     .region [⟨some 4, .mov (.c (.nils)), none⟩,
       ⟨some 5, .mov (.c (.int .i64 12)), none⟩] none) (
     .ret)) (
     .seq (
     .region [⟨some 37, .mov (.t 0), none⟩,
       ⟨some 38, .len .l (.t 37), none⟩,
       ⟨some 39, .bin .eql (.t 38) (.c (.int .i64 64)), none⟩,
       ⟨some 36, .mov (.t 39), none⟩] none) (
     .cond (.t 36) (
      .seq (
      .region [⟨some 4, .mov (.c (.nils)), none⟩,
        ⟨some 5, .mov (.c (.int .i64 5)), none⟩] none) (
      .ret)) (
      .skip)))))))))) (
 .seq (
 .region [⟨some 40, .mov (.t 0), none⟩,
   ⟨some 41, .call 39 [.t 40], none⟩,
   ⟨some 42, .load true 6 (.t 3), none⟩,
   ⟨some 43, .bslice 6 (.agg [.int .i64 0, .int .i64 0, .int .i64 0, .int .i64 0, .int .i64 0, .str []]) 1 [(0, (.t 42))], none⟩,
   ⟨some 44, .app 6 56 (.t 41) (.t 43), none⟩,
   ⟨some 4, .mov (.t 44), none⟩,
   ⟨some 5, .mov (.c (.int .i64 0)), none⟩] (some [[], [0], [], [2], [1, 0, 3, 2, 1, 0], [4, 1, 0, 3, 2, 1, 0, 4, 1, 0, 3, 2, 1, 0, 0, 1, 0, 2, 3, 2, 4, 1, 0, 3, 2, 1, 0], [5, 4, 1, 0, 3, 2, 1, 0, 4, 1, 0, 3, 2, 1, 0, 0, 1, 0, 2, 3, 2, 4, 1, 0, 3, 2, 1, 0, 0, 1, 0, 2, 3, 2, 4, 1, 0, 3, 2, 1, 0, 5, 4, 1, 0, 3, 2, 1, 0, 4, 1, 0, 3, 2, 1, 0, 0, 1, 0, 2, 3, 2, 4, 1, 0, 3, 2, 1, 0]])) (
 .ret)))⟩
def K17 : List (List Nat) := []

/-- corebank/hold.Use -/
def F18 : Fun := ⟨4, 69, [(8, none), (9, none)],
 .seq (
 .region [⟨some 8, .mov (.c (.nils)), none⟩,
   ⟨some 9, .mov (.c (.int .i64 0)), none⟩] none) (
 .seq (
 .region [⟨some 12, .mov (.t 0), none⟩,
   ⟨some 13, .mov (.t 1), none⟩,
   ⟨some 14, .call 24 [.t 12, .t 13], none⟩,
   ⟨some 10, .mov (.t 14), none⟩] none) (
 .seq (
 .block 0 (
  .seq (
  .region [⟨some 16, .mov (.t 10), none⟩,
    ⟨some 17, .bin .lss (.t 16) (.c (.int .i64 0)), none⟩,
    ⟨some 15, .mov (.t 17), none⟩] none) (
  .cond (.t 15) (
   .seq (
   .region [⟨some 8, .mov (.c (.nils)), none⟩,
     ⟨some 9, .mov (.c (.int .i64 11)), none⟩] none) (
   .ret)) (
   .seq (
   .region [⟨some 19, .mov (.t 3), none⟩,
     ⟨some 20, .mov (.t 0), none⟩,
     ⟨some 21, .mov (.t 10), none⟩,
     ⟨some 22, .iaddr 6 [.int .i64, .int .i64, .int .i64, .int .i64, .int .i64, .str] (.t 20) (.t 21), none⟩,
     ⟨some 23, .faddr 3 (.t 22), none⟩,
     ⟨some 24, .load false 1 (.t 23), none⟩,
     ⟨some 25, .bin .lss (.t 19) (.t 24), none⟩,
     ⟨some 26, .mov (.t 25), none⟩,
     ⟨some 27, .mov (.t 3), some (26, false)⟩,
     ⟨some 28, .mov (.t 0), some (26, false)⟩,
     ⟨some 29, .mov (.t 10), some (26, false)⟩,
     ⟨some 30, .iaddr 6 [.int .i64, .int .i64, .int .i64, .int .i64, .int .i64, .str] (.t 28) (.t 29), some (26, false)⟩,
     ⟨some 31, .faddr 4 (.t 30), some (26, false)⟩,
     ⟨some 32, .load false 1 (.t 31), some (26, false)⟩,
     ⟨some 33, .bin .gtr (.t 27) (.t 32), some (26, false)⟩,
     ⟨some 34, .pick (.t 26) (.c (.bool true)) (.t 33), none⟩,
     ⟨some 18, .mov (.t 34), none⟩] none) (
   .cond (.t 18) (
    .seq (
    .region [⟨some 8, .mov (.c (.nils)), none⟩,
      ⟨some 9, .mov (.c (.int .i64 23)), none⟩] none) (
    .ret)) (
    .seq (
    .region [⟨some 36, .mov (.t 2), none⟩,
      ⟨some 37, .bin .lss (.t 36) (.c (.int .i64 1)), none⟩,
      ⟨some 35, .mov (.t 37), none⟩] none) (
    .cond (.t 35) (
     .seq (
     .region [⟨some 8, .mov (.c (.nils)), none⟩,
       ⟨some 9, .mov (.c (.int .i64 1)), none⟩] none) (
     .ret)) (
     .seq (
     .region [⟨some 39, .mov (.t 2), none⟩,
       ⟨some 40, .mov (.t 0), none⟩,
       ⟨some 41, .mov (.t 10), none⟩,
       ⟨some 42, .iaddr 6 [.int .i64, .int .i64, .int .i64, .int .i64, .int .i64, .str] (.t 40) (.t 41), none⟩,
       ⟨some 43, .faddr 2 (.t 42), none⟩,
       ⟨some 44, .load false 1 (.t 43), none⟩,
       ⟨some 45, .bin .gtr (.t 39) (.t 44), none⟩,
       ⟨some 38, .mov (.t 45), none⟩] none) (
     .cond (.t 38) (
      .seq (
      .region [⟨some 8, .mov (.c (.nils)), none⟩,
        ⟨some 9, .mov (.c (.int .i64 18)), none⟩] none) (
      .ret)) (
      .skip)))))))))) (
 .seq (
 .region [⟨some 46, .mov (.t 0), none⟩,
   ⟨some 47, .call 39 [.t 46], none⟩,
   ⟨some 11, .mov (.t 47), none⟩] none) (
 .seq (
 .region [⟨some 48, .mov (.t 11), none⟩,
   ⟨some 49, .mov (.t 10), none⟩,
   ⟨some 50, .iaddr 6 [.int .i64, .int .i64, .int .i64, .int .i64, .int .i64, .str] (.t 48) (.t 49), none⟩,
   ⟨some 51, .faddr 2 (.t 50), none⟩,
   ⟨some 52, .load false 1 (.t 51), none⟩,
   ⟨some 53, .mov (.t 2), none⟩,
   ⟨some 54, .bin .sub (.t 52) (.t 53), none⟩,
   ⟨some 55, .iaddr 6 [.int .i64, .int .i64, .int .i64, .int .i64, .int .i64, .str] (.t 48) (.t 49), none⟩,
   ⟨some 56, .faddr 2 (.t 55), none⟩,
   ⟨none, .store 1 (.t 56) (.t 54), none⟩] none) (
 .seq (
 .seq (
 .region [⟨some 57, .mov (.t 11), none⟩,
   ⟨some 58, .mov (.t 10), none⟩,
   ⟨some 59, .iaddr 6 [.int .i64, .int .i64, .int .i64, .int .i64, .int .i64, .str] (.t 57) (.t 58), none⟩,
   ⟨some 60, .faddr 2 (.t 59), none⟩,
   ⟨some 61, .load false 1 (.t 60), none⟩,
   ⟨some 62, .bin .eql (.t 61) (.c (.int .i64 0)), none⟩] none) (
 .cond (.t 62) (
  .region [⟨some 63, .mov (.t 11), none⟩,
    ⟨some 64, .mov (.t 10), none⟩,
    ⟨some 65, .mov (.t 10), none⟩,
    ⟨some 66, .bin .add (.t 65) (.c (.int .i64 1)), none⟩,
    ⟨some 67, .call 40 [.t 63, .t 64, .t 66], none⟩,
    ⟨some 11, .mov (.t 67), none⟩] none) (
  .skip))) (
 .seq (
 .region [⟨some 68, .mov (.t 11), none⟩,
   ⟨some 8, .mov (.t 68), none⟩,
   ⟨some 9, .mov (.c (.int .i64 0)), none⟩] none) (
 .ret)))))))⟩
def K18 : List (List Nat) := []

/-- corebank/hold.Release -/
def F19 : Fun := ⟨2, 18, [(4, none), (5, none)],
 .seq (
 .region [⟨some 4, .mov (.c (.nils)), none⟩,
   ⟨some 5, .mov (.c (.int .i64 0)), none⟩] none) (
 .seq (
 .region [⟨some 7, .mov (.t 0), none⟩,
   ⟨some 8, .mov (.t 1), none⟩,
   ⟨some 9, .call 24 [.t 7, .t 8], none⟩,
   ⟨some 6, .mov (.t 9), none⟩] none) (
 .seq (
 .seq (
 .region [⟨some 10, .mov (.t 6), none⟩,
   ⟨some 11, .bin .lss (.t 10) (.c (.int .i64 0)), none⟩] none) (
 .cond (.t 11) (
  .seq (
  .region [⟨some 4, .mov (.c (.nils)), none⟩,
    ⟨some 5, .mov (.c (.int .i64 11)), none⟩] none) (
  .ret)) (
  .skip))) (
 .seq (
 .region [⟨some 12, .mov (.t 0), none⟩,
   ⟨some 13, .call 39 [.t 12], none⟩,
   ⟨some 14, .mov (.t 6), none⟩,
   ⟨some 15, .mov (.t 6), none⟩,
   ⟨some 16, .bin .add (.t 15) (.c (.int .i64 1)), none⟩,
   ⟨some 17, .call 40 [.t 13, .t 14, .t 16], none⟩,
   ⟨some 4, .mov (.t 17), none⟩,
   ⟨some 5, .mov (.c (.int .i64 0)), none⟩] none) (
 .ret))))⟩
def K19 : List (List Nat) := []

/-- corebank/corebanklaw22.others -/
def F20 : Fun := ⟨3, 45, [(6, none)],
 .seq (
 .region [⟨some 6, .mov (.c (.bool false)), none⟩] none) (
 .seq (
 .seq (
 .region [⟨some 7, .mov (.c (.int .i64 0)), none⟩] none) (
 .block 0 (
  .loop [1002000, 0, 1, 2, 7] (
   .seq (
   .seq (
   .region [⟨some 10, .mov (.t 7), none⟩,
     ⟨some 11, .mov (.t 0), none⟩,
     ⟨some 12, .len .l (.t 11), none⟩,
     ⟨some 13, .bin .lss (.t 10) (.t 12), none⟩] none) (
   .cond (.t 13) (
    .skip) (
    .exit 0))) (
   .seq (
   .block 1 (
    .seq (
    .region [⟨some 17, .mov (.t 1), none⟩,
      ⟨some 18, .mov (.t 0), none⟩,
      ⟨some 19, .mov (.t 7), none⟩,
      ⟨some 20, .iaddr 6 [.int .i64, .int .i64, .int .i64, .int .i64, .int .i64, .str] (.t 18) (.t 19), none⟩,
      ⟨some 21, .faddr 0 (.t 20), none⟩,
      ⟨some 22, .load false 1 (.t 21), none⟩,
      ⟨some 23, .call 9 [.t 17, .t 22], none⟩,
      ⟨some 16, .mov (.t 23), none⟩,
      ⟨some 24, .ext (.t 16) 0, none⟩,
      ⟨some 25, .ext (.t 16) 1, none⟩,
      ⟨some 8, .alloc (.agg [.int .i64 0, .int .i64 0, .int .i64 0, .int .i64 0, .int .i64 0, .str []]), none⟩,
      ⟨none, .store 6 (.t 8) (.t 24), none⟩,
      ⟨some 9, .mov (.t 25), none⟩] none) (
    .seq (
    .region [⟨some 26, .mov (.t 0), none⟩,
      ⟨some 27, .mov (.t 7), none⟩,
      ⟨some 28, .iaddr 6 [.int .i64, .int .i64, .int .i64, .int .i64, .int .i64, .str] (.t 26) (.t 27), none⟩,
      ⟨some 29, .faddr 0 (.t 28), none⟩,
      ⟨some 30, .load false 1 (.t 29), none⟩,
      ⟨some 31, .mov (.t 2), none⟩,
      ⟨some 32, .bin .neq (.t 30) (.t 31), none⟩,
      ⟨some 33, .mov (.t 32), none⟩,
      ⟨some 34, .mov (.t 9), some (33, true)⟩,
      ⟨some 35, .un .not (.t 34), some (33, true)⟩,
      ⟨some 36, .mov (.t 35), some (33, true)⟩,
      ⟨some 37, .load true 6 (.t 8), some (36, false)⟩,
      ⟨some 38, .mov (.t 0), some (36, false)⟩,
      ⟨some 39, .mov (.t 7), some (36, false)⟩,
      ⟨some 40, .iaddr 6 [.int .i64, .int .i64, .int .i64, .int .i64, .int .i64, .str] (.t 38) (.t 39), some (36, false)⟩,
      ⟨some 41, .load true 6 (.t 40), some (36, false)⟩,
      ⟨some 42, .eqs (true, [.i, .i, .i, .i, .i, .s]) true (.t 37) (.t 41), some (36, false)⟩,
      ⟨some 43, .pick (.t 36) (.c (.bool true)) (.t 42), some (33, true)⟩,
      ⟨some 44, .pick (.t 33) (.t 43) (.c (.bool false)), none⟩] (some [[], [], [0, 1], [2, 0, 1], [3, 2, 0, 1], [], [4, 3, 2, 0, 1, 5], [6, 4, 3, 2, 0, 1, 5], [7, 6, 4, 3, 2, 0, 1, 5], [8, 7, 6, 4, 3, 2, 0, 1, 5, 7, 6, 4, 3, 2, 0, 1, 5], [9, 8, 7, 6, 4, 3, 2, 0, 1, 5, 7, 6, 4, 3, 2, 0, 1, 5, 7, 6, 4, 3, 2, 0, 1, 5, 7, 6, 4, 3, 2, 0, 1, 5], [10, 9, 8, 7, 6, 4, 3, 2, 0, 1, 5, 7, 6, 4, 3, 2, 0, 1, 5, 7, 6, 4, 3, 2, 0, 1, 5, 7, 6, 4, 3, 2, 0, 1, 5], [10, 9, 8, 7, 6, 4, 3, 2, 0, 1, 5, 7, 6, 4, 3, 2, 0, 1, 5, 7, 6, 4, 3, 2, 0, 1, 5, 7, 6, 4, 3, 2, 0, 1, 5], [10, 9, 8, 7, 6, 4, 3, 2, 0, 1, 5, 7, 6, 4, 3, 2, 0, 1, 5, 7, 6, 4, 3, 2, 0, 1, 5, 7, 6, 4, 3, 2, 0, 1, 5], [12, 10, 9, 8, 7, 6, 4, 3, 2, 0, 1, 5, 7, 6, 4, 3, 2, 0, 1, 5, 7, 6, 4, 3, 2, 0, 1, 5, 7, 6, 4, 3, 2, 0, 1, 5, 13, 10, 9, 8, 7, 6, 4, 3, 2, 0, 1, 5, 7, 6, 4, 3, 2, 0, 1, 5, 7, 6, 4, 3, 2, 0, 1, 5, 7, 6, 4, 3, 2, 0, 1, 5, 10, 9, 8, 7, 6, 4, 3, 2, 0, 1, 5, 7, 6, 4, 3, 2, 0, 1, 5, 7, 6, 4, 3, 2, 0, 1, 5, 7, 6, 4, 3, 2, 0, 1, 5], [14, 12, 10, 9, 8, 7, 6, 4, 3, 2, 0, 1, 5, 7, 6, 4, 3, 2, 0, 1, 5, 7, 6, 4, 3, 2, 0, 1, 5, 7, 6, 4, 3, 2, 0, 1, 5, 13, 10, 9, 8, 7, 6, 4, 3, 2, 0, 1, 5, 7, 6, 4, 3, 2, 0, 1, 5, 7, 6, 4, 3, 2, 0, 1, 5, 7, 6, 4, 3, 2, 0, 1, 5, 10, 9, 8, 7, 6, 4, 3, 2, 0, 1, 5, 7, 6, 4, 3, 2, 0, 1, 5, 7, 6, 4, 3, 2, 0, 1, 5, 7, 6, 4, 3, 2, 0, 1, 5, 10, 9, 8, 7, 6, 4, 3, 2, 0, 1, 5, 7, 6, 4, 3, 2, 0, 1, 5, 7, 6, 4, 3, 2, 0, 1, 5, 7, 6, 4, 3, 2, 0, 1, 5], [11, 10, 9, 8, 7, 6, 4, 3, 2, 0, 1, 5, 7, 6, 4, 3, 2, 0, 1, 5, 7, 6, 4, 3, 2, 0, 1, 5, 7, 6, 4, 3, 2, 0, 1, 5, 15, 14, 12, 10, 9, 8, 7, 6, 4, 3, 2, 0, 1, 5, 7, 6, 4, 3, 2, 0, 1, 5, 7, 6, 4, 3, 2, 0, 1, 5, 7, 6, 4, 3, 2, 0, 1, 5, 13, 10, 9, 8, 7, 6, 4, 3, 2, 0, 1, 5, 7, 6, 4, 3, 2, 0, 1, 5, 7, 6, 4, 3, 2, 0, 1, 5, 7, 6, 4, 3, 2, 0, 1, 5, 10, 9, 8, 7, 6, 4, 3, 2, 0, 1, 5, 7, 6, 4, 3, 2, 0, 1, 5, 7, 6, 4, 3, 2, 0, 1, 5, 7, 6, 4, 3, 2, 0, 1, 5, 10, 9, 8, 7, 6, 4, 3, 2, 0, 1, 5, 7, 6, 4, 3, 2, 0, 1, 5, 7, 6, 4, 3, 2, 0, 1, 5, 7, 6, 4, 3, 2, 0, 1, 5, 10, 9, 8, 7, 6, 4, 3, 2, 0, 1, 5, 7, 6, 4, 3, 2, 0, 1, 5, 7, 6, 4, 3, 2, 0, 1, 5, 7, 6, 4, 3, 2, 0, 1, 5], [10, 9, 8, 7, 6, 4, 3, 2, 0, 1, 5, 7, 6, 4, 3, 2, 0, 1, 5, 7, 6, 4, 3, 2, 0, 1, 5, 7, 6, 4, 3, 2, 0, 1, 5, 16, 11, 10, 9, 8, 7, 6, 4, 3, 2, 0, 1, 5, 7, 6, 4, 3, 2, 0, 1, 5, 7, 6, 4, 3, 2, 0, 1, 5, 7, 6, 4, 3, 2, 0, 1, 5, 15, 14, 12, 10, 9, 8, 7, 6, 4, 3, 2, 0, 1, 5, 7, 6, 4, 3, 2, 0, 1, 5, 7, 6, 4, 3, 2, 0, 1, 5, 7, 6, 4, 3, 2, 0, 1, 5, 13, 10, 9, 8, 7, 6, 4, 3, 2, 0, 1, 5, 7, 6, 4, 3, 2, 0, 1, 5, 7, 6, 4, 3, 2, 0, 1, 5, 7, 6, 4, 3, 2, 0, 1, 5, 10, 9, 8, 7, 6, 4, 3, 2, 0, 1, 5, 7, 6, 4, 3, 2, 0, 1, 5, 7, 6, 4, 3, 2, 0, 1, 5, 7, 6, 4, 3, 2, 0, 1, 5, 10, 9, 8, 7, 6, 4, 3, 2, 0, 1, 5, 7, 6, 4, 3, 2, 0, 1, 5, 7, 6, 4, 3, 2, 0, 1, 5, 7, 6, 4, 3, 2, 0, 1, 5, 10, 9, 8, 7, 6, 4, 3, 2, 0, 1, 5, 7, 6, 4, 3, 2, 0, 1, 5, 7, 6, 4, 3, 2, 0, 1, 5, 7, 6, 4, 3, 2, 0, 1, 5, 7, 6, 4, 3, 2, 0, 1, 5], [7, 6, 4, 3, 2, 0, 1, 5, 17, 10, 9, 8, 7, 6, 4, 3, 2, 0, 1, 5, 7, 6, 4, 3, 2, 0, 1, 5, 7, 6, 4, 3, 2, 0, 1, 5, 7, 6, 4, 3, 2, 0, 1, 5, 16, 11, 10, 9, 8, 7, 6, 4, 3, 2, 0, 1, 5, 7, 6, 4, 3, 2, 0, 1, 5, 7, 6, 4, 3, 2, 0, 1, 5, 7, 6, 4, 3, 2, 0, 1, 5, 15, 14, 12, 10, 9, 8, 7, 6, 4, 3, 2, 0, 1, 5, 7, 6, 4, 3, 2, 0, 1, 5, 7, 6, 4, 3, 2, 0, 1, 5, 7, 6, 4, 3, 2, 0, 1, 5, 13, 10, 9, 8, 7, 6, 4, 3, 2, 0, 1, 5, 7, 6, 4, 3, 2, 0, 1, 5, 7, 6, 4, 3, 2, 0, 1, 5, 7, 6, 4, 3, 2, 0, 1, 5, 10, 9, 8, 7, 6, 4, 3, 2, 0, 1, 5, 7, 6, 4, 3, 2, 0, 1, 5, 7, 6, 4, 3, 2, 0, 1, 5, 7, 6, 4, 3, 2, 0, 1, 5, 10, 9, 8, 7, 6, 4, 3, 2, 0, 1, 5, 7, 6, 4, 3, 2, 0, 1, 5, 7, 6, 4, 3, 2, 0, 1, 5, 7, 6, 4, 3, 2, 0, 1, 5, 10, 9, 8, 7, 6, 4, 3, 2, 0, 1, 5, 7, 6, 4, 3, 2, 0, 1, 5, 7, 6, 4, 3, 2, 0, 1, 5, 7, 6, 4, 3, 2, 0, 1, 5, 7, 6, 4, 3, 2, 0, 1, 5]])) (
    .cond (.t 44) (
     .seq (
     .region [⟨some 6, .mov (.c (.bool false)), none⟩] none) (
     .ret)) (
     .skip))))) (
   .region [⟨some 14, .mov (.t 7), none⟩,
     ⟨some 15, .bin .add (.t 14) (.c (.int .i64 1)), none⟩,
     ⟨some 7, .mov (.t 15), none⟩] none)))))) (
 .seq (
 .region [⟨some 6, .mov (.c (.bool true)), none⟩] none) (
 .ret)))⟩
def K20 : List (List Nat) := [[1002000, 0, 1, 2, 7]]

/-- corebank/corebanklaw22.sum -/
def F21 : Fun := ⟨1, 19, [(2, none)],
 .seq (
 .region [⟨some 2, .mov (.c (.int .i64 0)), none⟩] none) (
 .seq (
 .region [⟨some 3, .mov (.c (.int .i64 0)), none⟩] none) (
 .seq (
 .seq (
 .region [⟨some 4, .mov (.c (.int .i64 0)), none⟩] none) (
 .block 0 (
  .loop [1002100, 0, 3, 4] (
   .seq (
   .seq (
   .region [⟨some 5, .mov (.t 4), none⟩,
     ⟨some 6, .mov (.t 0), none⟩,
     ⟨some 7, .len .l (.t 6), none⟩,
     ⟨some 8, .bin .lss (.t 5) (.t 7), none⟩] none) (
   .cond (.t 8) (
    .skip) (
    .exit 0))) (
   .seq (
   .block 1 (
    .region [⟨some 11, .mov (.t 3), none⟩,
      ⟨some 12, .mov (.t 0), none⟩,
      ⟨some 13, .mov (.t 4), none⟩,
      ⟨some 14, .iaddr 6 [.int .i64, .int .i64, .int .i64, .int .i64, .int .i64, .str] (.t 12) (.t 13), none⟩,
      ⟨some 15, .faddr 2 (.t 14), none⟩,
      ⟨some 16, .load false 1 (.t 15), none⟩,
      ⟨some 17, .bin .add (.t 11) (.t 16), none⟩,
      ⟨some 3, .mov (.t 17), none⟩] none)) (
   .region [⟨some 9, .mov (.t 4), none⟩,
     ⟨some 10, .bin .add (.t 9) (.c (.int .i64 1)), none⟩,
     ⟨some 4, .mov (.t 10), none⟩] none)))))) (
 .seq (
 .region [⟨some 18, .mov (.t 3), none⟩,
   ⟨some 2, .mov (.t 18), none⟩] none) (
 .ret))))⟩
def K21 : List (List Nat) := [[1002100, 0, 3, 4]]

/-- corebank/hold.Expire -/
def F22 : Fun := ⟨2, 66, [(4, none), (5, none)],
 .seq (
 .region [⟨some 4, .mov (.c (.nils)), none⟩,
   ⟨some 5, .mov (.c (.nils)), none⟩] none) (
 .seq (
 .region [⟨some 16, .mkm, none⟩,
   ⟨some 6, .mov (.t 16), none⟩] none) (
 .seq (
 .seq (
 .region [⟨some 17, .mov (.t 0), none⟩,
   ⟨some 18, .len .l (.t 17), none⟩,
   ⟨some 19, .mov (.c (.int .i64 0)), none⟩] none) (
 .block 0 (
  .loop [1002200, 0, 1, 6, 17, 18, 19] (
   .seq (
   .region [⟨some 20, .bin .lss (.t 19) (.t 18), none⟩] none) (
   .seq (
   .cond (.t 20) (
    .skip) (
    .exit 0)) (
   .seq (
   .block 1 (
    .seq (
    .region [⟨some 21, .mov (.t 19), none⟩,
      ⟨some 22, .iaddr 6 [.int .i64, .int .i64, .int .i64, .int .i64, .int .i64, .str] (.t 17) (.t 19), none⟩,
      ⟨some 23, .load true 6 (.t 22), none⟩,
      ⟨some 8, .alloc (.agg [.int .i64 0, .int .i64 0, .int .i64 0, .int .i64 0, .int .i64 0, .str []]), none⟩,
      ⟨some 7, .mov (.t 21), none⟩,
      ⟨none, .store 6 (.t 8) (.t 23), none⟩] none) (
    .region [⟨some 24, .mov (.t 6), none⟩,
      ⟨some 25, .mov (.t 7), none⟩,
      ⟨some 26, .load true 6 (.t 8), none⟩,
      ⟨none, .mupd (false, [.i]) (.t 24) (.t 25) (.t 26), none⟩] none))) (
   .region [⟨some 27, .bin .add (.t 19) (.c (.int .i64 1)), none⟩,
     ⟨some 19, .mov (.t 27), none⟩] none))))))) (
 .seq (
 .region [⟨some 9, .mov (.c (.nils)), none⟩] none) (
 .seq (
 .region [⟨some 10, .mov (.c (.nils)), none⟩] none) (
 .seq (
 .seq (
 .region [⟨some 28, .mov (.t 0), none⟩,
   ⟨some 29, .len .l (.t 28), none⟩,
   ⟨some 30, .mov (.c (.int .i64 0)), none⟩] none) (
 .block 2 (
  .loop [1002201, 0, 1, 6, 9, 10, 28, 29, 30] (
   .seq (
   .region [⟨some 31, .bin .lss (.t 30) (.t 29), none⟩] none) (
   .seq (
   .cond (.t 31) (
    .skip) (
    .exit 2)) (
   .seq (
   .block 3 (
    .seq (
    .region [⟨some 32, .mov (.t 30), none⟩,
      ⟨some 33, .iaddr 6 [.int .i64, .int .i64, .int .i64, .int .i64, .int .i64, .str] (.t 28) (.t 30), none⟩,
      ⟨some 34, .load true 6 (.t 33), none⟩,
      ⟨some 12, .alloc (.agg [.int .i64 0, .int .i64 0, .int .i64 0, .int .i64 0, .int .i64 0, .str []]), none⟩,
      ⟨some 11, .mov (.t 32), none⟩,
      ⟨none, .store 6 (.t 12) (.t 34), none⟩] none) (
    .seq (
    .region [⟨some 35, .faddr 4 (.t 12), none⟩,
      ⟨some 36, .load false 1 (.t 35), none⟩,
      ⟨some 37, .mov (.t 1), none⟩,
      ⟨some 38, .bin .lss (.t 36) (.t 37), none⟩] none) (
    .cond (.t 38) (
     .seq (
     .region [⟨some 39, .mov (.t 6), none⟩,
       ⟨some 40, .mov (.t 11), none⟩,
       ⟨none, .mdel (false, [.i]) (.t 39) (.t 40), none⟩] none) (
     .region [⟨some 41, .mov (.t 10), none⟩,
       ⟨some 42, .faddr 0 (.t 12), none⟩,
       ⟨some 43, .load false 1 (.t 42), none⟩,
       ⟨some 44, .bslice 1 (.int .i64 0) 1 [(0, (.t 43))], none⟩,
       ⟨some 45, .app 1 8 (.t 41) (.t 44), none⟩,
       ⟨some 10, .mov (.t 45), none⟩] none)) (
     .skip))))) (
   .region [⟨some 46, .bin .add (.t 30) (.c (.int .i64 1)), none⟩,
     ⟨some 30, .mov (.t 46), none⟩] none))))))) (
 .seq (
 .seq (
 .region [⟨some 47, .mov (.t 0), none⟩,
   ⟨some 48, .len .l (.t 47), none⟩,
   ⟨some 49, .mov (.c (.int .i64 0)), none⟩] none) (
 .block 4 (
  .loop [1002202, 6, 9, 10, 48, 49] (
   .seq (
   .region [⟨some 50, .bin .lss (.t 49) (.t 48), none⟩] none) (
   .seq (
   .cond (.t 50) (
    .skip) (
    .exit 4)) (
   .seq (
   .block 5 (
    .seq (
    .region [⟨some 51, .mov (.t 49), none⟩,
      ⟨some 13, .mov (.t 51), none⟩] none) (
    .seq (
    .region [⟨some 53, .mov (.t 6), none⟩,
      ⟨some 54, .mov (.t 13), none⟩,
      ⟨some 55, .look (false, [.i]) (.agg [.int .i64 0, .int .i64 0, .int .i64 0, .int .i64 0, .int .i64 0, .str []]) true (.t 53) (.t 54), none⟩,
      ⟨some 52, .mov (.t 55), none⟩,
      ⟨some 56, .ext (.t 52) 0, none⟩,
      ⟨some 57, .ext (.t 52) 1, none⟩,
      ⟨some 14, .alloc (.agg [.int .i64 0, .int .i64 0, .int .i64 0, .int .i64 0, .int .i64 0, .str []]), none⟩,
      ⟨none, .store 6 (.t 14) (.t 56), none⟩,
      ⟨some 15, .mov (.t 57), none⟩] none) (
    .seq (
    .region [⟨some 58, .mov (.t 15), none⟩] none) (
    .cond (.t 58) (
     .region [⟨some 59, .mov (.t 9), none⟩,
       ⟨some 60, .load true 6 (.t 14), none⟩,
       ⟨some 61, .bslice 6 (.agg [.int .i64 0, .int .i64 0, .int .i64 0, .int .i64 0, .int .i64 0, .str []]) 1 [(0, (.t 60))], none⟩,
       ⟨some 62, .app 6 56 (.t 59) (.t 61), none⟩,
       ⟨some 9, .mov (.t 62), none⟩] none) (
     .skip)))))) (
   .region [⟨some 63, .bin .add (.t 49) (.c (.int .i64 1)), none⟩,
     ⟨some 49, .mov (.t 63), none⟩] none))))))) (
 .seq (
 .region [⟨some 64, .mov (.t 9), none⟩,
   ⟨some 65, .mov (.t 10), none⟩,
   ⟨some 4, .mov (.t 64), none⟩,
   ⟨some 5, .mov (.t 65), none⟩] none) (
 .ret))))))))⟩
def K22 : List (List Nat) := [[1002200, 0, 1, 6, 17, 18, 19], [1002201, 0, 1, 6, 9, 10, 28, 29, 30], [1002202, 6, 9, 10, 48, 49]]

/-- corebank/corebanklaw22.held -/
def F23 : Fun := ⟨2, 8, [(4, some (true, 6))],
 .seq (
 .region [⟨some 4, .alloc (.agg [.int .i64 0, .int .i64 0, .int .i64 0, .int .i64 0, .int .i64 0, .str []]), none⟩] none) (
 .seq (
 .region [⟨some 5, .mov (.t 0), none⟩,
   ⟨some 6, .mov (.t 1), none⟩,
   ⟨some 7, .build [.int .i64 0, .int .i64 0, .int .i64 0, .int .i64 0, .int .i64 0, .str []] [(0, 1, (.t 5)), (1, 1, (.c (.int .i64 1000))), (2, 1, (.c (.int .i64 100))), (3, 1, (.c (.int .i64 5))), (4, 1, (.c (.int .i64 9))), (5, 1, (.t 6))], none⟩,
   ⟨none, .store 6 (.t 4) (.t 7), none⟩] none) (
 .ret))⟩
def K23 : List (List Nat) := []

/-- corebank/hold.index -/
def F24 : Fun := ⟨2, 8, [(4, none)],
 .seq (
 .region [⟨some 3, .box 1 (.t 1), none⟩,
   ⟨some 4, .mov (.c (.int .i64 0)), none⟩] none) (
 .seq (
 .region [⟨some 5, .mov (.t 0), none⟩,
   ⟨some 6, .mkf 42 [.t 3], none⟩,
   ⟨some 7, .call 41 [.t 5, .t 6], none⟩,
   ⟨some 4, .mov (.t 7), none⟩] none) (
 .ret))⟩
def K24 : List (List Nat) := []

/-- corebank/corebankref22.index -/
def F25 : Fun := ⟨2, 20, [(4, none)],
 .seq (
 .region [⟨some 4, .mov (.c (.int .i64 0)), none⟩] none) (
 .seq (
 .seq (
 .region [⟨some 5, .mov (.c (.int .i64 0)), none⟩] none) (
 .block 0 (
  .loop [1002500, 0, 1, 5] (
   .seq (
   .seq (
   .region [⟨some 6, .mov (.t 5), none⟩,
     ⟨some 7, .mov (.t 0), none⟩,
     ⟨some 8, .len .l (.t 7), none⟩,
     ⟨some 9, .bin .lss (.t 6) (.t 8), none⟩] none) (
   .cond (.t 9) (
    .skip) (
    .exit 0))) (
   .seq (
   .block 1 (
    .seq (
    .region [⟨some 12, .mov (.t 0), none⟩,
      ⟨some 13, .mov (.t 5), none⟩,
      ⟨some 14, .iaddr 6 [.int .i64, .int .i64, .int .i64, .int .i64, .int .i64, .str] (.t 12) (.t 13), none⟩,
      ⟨some 15, .faddr 0 (.t 14), none⟩,
      ⟨some 16, .load false 1 (.t 15), none⟩,
      ⟨some 17, .mov (.t 1), none⟩,
      ⟨some 18, .bin .eql (.t 16) (.t 17), none⟩] none) (
    .cond (.t 18) (
     .seq (
     .region [⟨some 19, .mov (.t 5), none⟩,
       ⟨some 4, .mov (.t 19), none⟩] none) (
     .ret)) (
     .skip)))) (
   .region [⟨some 10, .mov (.t 5), none⟩,
     ⟨some 11, .bin .add (.t 10) (.c (.int .i64 1)), none⟩,
     ⟨some 5, .mov (.t 11), none⟩] none)))))) (
 .seq (
 .region [⟨some 4, .mov (.c (.int .i64 (-1))), none⟩] none) (
 .ret)))⟩
def K25 : List (List Nat) := [[1002500, 0, 1, 5]]

/-- corebank/hold.fields -/
def F26 : Fun := ⟨1, 38, [(2, none)],
 .seq (
 .region [⟨some 1, .box 6 (.t 0), none⟩,
   ⟨some 2, .mov (.c (.bool false)), none⟩] none) (
 .seq (
 .region [⟨some 3, .faddr 0 (.t 1), none⟩,
   ⟨some 4, .load false 1 (.t 3), none⟩,
   ⟨some 5, .bin .geq (.t 4) (.c (.int .i64 1)), none⟩,
   ⟨some 6, .mov (.t 5), none⟩,
   ⟨some 7, .faddr 1 (.t 1), some (6, true)⟩,
   ⟨some 8, .load false 1 (.t 7), some (6, true)⟩,
   ⟨some 9, .bin .geq (.t 8) (.c (.int .i64 1000)), some (6, true)⟩,
   ⟨some 10, .pick (.t 6) (.t 9) (.c (.bool false)), none⟩,
   ⟨some 11, .mov (.t 10), none⟩,
   ⟨some 12, .faddr 2 (.t 1), some (11, true)⟩,
   ⟨some 13, .load false 1 (.t 12), some (11, true)⟩,
   ⟨some 14, .bin .geq (.t 13) (.c (.int .i64 1)), some (11, true)⟩,
   ⟨some 15, .pick (.t 11) (.t 14) (.c (.bool false)), none⟩,
   ⟨some 16, .mov (.t 15), none⟩,
   ⟨some 17, .faddr 2 (.t 1), some (16, true)⟩,
   ⟨some 18, .load false 1 (.t 17), some (16, true)⟩,
   ⟨some 19, .bin .leq (.t 18) (.c (.int .i64 1000000000000)), some (16, true)⟩,
   ⟨some 20, .pick (.t 16) (.t 19) (.c (.bool false)), none⟩,
   ⟨some 21, .mov (.t 20), none⟩,
   ⟨some 22, .faddr 3 (.t 1), some (21, true)⟩,
   ⟨some 23, .load false 1 (.t 22), some (21, true)⟩,
   ⟨some 24, .call 43 [.t 23], some (21, true)⟩,
   ⟨some 25, .pick (.t 21) (.t 24) (.c (.bool false)), none⟩,
   ⟨some 26, .mov (.t 25), none⟩,
   ⟨some 27, .faddr 4 (.t 1), some (26, true)⟩,
   ⟨some 28, .load false 1 (.t 27), some (26, true)⟩,
   ⟨some 29, .call 43 [.t 28], some (26, true)⟩,
   ⟨some 30, .pick (.t 26) (.t 29) (.c (.bool false)), none⟩,
   ⟨some 31, .mov (.t 30), none⟩,
   ⟨some 32, .faddr 3 (.t 1), some (31, true)⟩,
   ⟨some 33, .load false 1 (.t 32), some (31, true)⟩,
   ⟨some 34, .faddr 4 (.t 1), some (31, true)⟩,
   ⟨some 35, .load false 1 (.t 34), some (31, true)⟩,
   ⟨some 36, .bin .leq (.t 33) (.t 35), some (31, true)⟩,
   ⟨some 37, .pick (.t 31) (.t 36) (.c (.bool false)), none⟩,
   ⟨some 2, .mov (.t 37), none⟩] none) (
 .ret))⟩
def K26 : List (List Nat) := []

/-- corebank/hold.key -/
def F27 : Fun := ⟨1, 28, [(2, none)],
 .seq (
 .region [⟨some 2, .mov (.c (.bool false)), none⟩] none) (
 .seq (
 .seq (
 .region [⟨some 4, .mov (.t 0), none⟩,
   ⟨some 5, .len .s (.t 4), none⟩,
   ⟨some 6, .mov (.c (.int .i64 0)), none⟩] none) (
 .block 0 (
  .loop [1002700, 0, 5, 6] (
   .seq (
   .region [⟨some 7, .bin .lss (.t 6) (.t 5), none⟩] none) (
   .seq (
   .cond (.t 7) (
    .skip) (
    .exit 0)) (
   .seq (
   .block 1 (
    .seq (
    .region [⟨some 8, .mov (.t 6), none⟩,
      ⟨some 3, .mov (.t 8), none⟩] none) (
    .seq (
    .region [⟨some 9, .mov (.t 0), none⟩,
      ⟨some 10, .mov (.t 3), none⟩,
      ⟨some 11, .idxs (.t 9) (.t 10), none⟩,
      ⟨some 12, .bin .lss (.t 11) (.c (.int .u8 33)), none⟩,
      ⟨some 13, .mov (.t 12), none⟩,
      ⟨some 14, .mov (.t 0), some (13, false)⟩,
      ⟨some 15, .mov (.t 3), some (13, false)⟩,
      ⟨some 16, .idxs (.t 14) (.t 15), some (13, false)⟩,
      ⟨some 17, .bin .gtr (.t 16) (.c (.int .u8 126)), some (13, false)⟩,
      ⟨some 18, .pick (.t 13) (.c (.bool true)) (.t 17), none⟩] none) (
    .cond (.t 18) (
     .seq (
     .region [⟨some 2, .mov (.c (.bool false)), none⟩] none) (
     .ret)) (
     .skip))))) (
   .region [⟨some 19, .bin .add (.t 6) (.c (.int .i64 1)), none⟩,
     ⟨some 6, .mov (.t 19), none⟩] none))))))) (
 .seq (
 .region [⟨some 20, .mov (.t 0), none⟩,
   ⟨some 21, .len .s (.t 20), none⟩,
   ⟨some 22, .bin .geq (.t 21) (.c (.int .i64 1)), none⟩,
   ⟨some 23, .mov (.t 22), none⟩,
   ⟨some 24, .mov (.t 0), some (23, true)⟩,
   ⟨some 25, .len .s (.t 24), some (23, true)⟩,
   ⟨some 26, .bin .leq (.t 25) (.c (.int .i64 48)), some (23, true)⟩,
   ⟨some 27, .pick (.t 23) (.t 26) (.c (.bool false)), none⟩,
   ⟨some 2, .mov (.t 27), none⟩] none) (
 .ret)))⟩
def K27 : List (List Nat) := [[1002700, 0, 5, 6]]

/-- corebank/hold.Check$1 -/
def F29 : Fun := ⟨1, 9, [(3, none)],
 .seq (
 .region [⟨some 2, .box 6 (.t 0), none⟩,
   ⟨some 3, .mov (.c (.bool false)), none⟩] none) (
 .seq (
 .region [⟨some 4, .faddr 5 (.t 2), none⟩,
   ⟨some 5, .load false 1 (.t 4), none⟩,
   ⟨some 6, .faddr 5 (.t 1), none⟩,
   ⟨some 7, .load false 1 (.t 6), none⟩,
   ⟨some 8, .bin .eql (.t 5) (.t 7), none⟩,
   ⟨some 3, .mov (.t 8), none⟩] none) (
 .ret))⟩
def K29 : List (List Nat) := []

/-- slices.ContainsFunc[[]corebank/api.Hold,corebank/api.Hold] -/
def F28 : Fun := ⟨2, 9, [(4, none)],
 .seq (
 .region [⟨some 4, .mov (.c (.bool false)), none⟩] none) (
 .seq (
 .region [⟨some 5, .mov (.t 0), none⟩,
   ⟨some 6, .mov (.t 1), none⟩,
   ⟨some 7, .call 41 [.t 5, .t 6], none⟩,
   ⟨some 8, .bin .geq (.t 7) (.c (.int .i64 0)), none⟩,
   ⟨some 4, .mov (.t 8), none⟩] none) (
 .ret))⟩
def K28 : List (List Nat) := []

/-- corebank/corebankref22.one -/
def F30 : Fun := ⟨1, 44, [(2, none)],
 .seq (
 .region [⟨some 1, .box 6 (.t 0), none⟩,
   ⟨some 2, .mov (.c (.int .i64 0)), none⟩] none) (
 .seq (
 .seq (
 .region [⟨some 3, .faddr 0 (.t 1), none⟩,
   ⟨some 4, .load false 1 (.t 3), none⟩,
   ⟨some 5, .bin .lss (.t 4) (.c (.int .i64 1)), none⟩,
   ⟨some 6, .mov (.t 5), none⟩,
   ⟨some 7, .faddr 1 (.t 1), some (6, false)⟩,
   ⟨some 8, .load false 1 (.t 7), some (6, false)⟩,
   ⟨some 9, .bin .lss (.t 8) (.c (.int .i64 1000)), some (6, false)⟩,
   ⟨some 10, .pick (.t 6) (.c (.bool true)) (.t 9), none⟩,
   ⟨some 11, .mov (.t 10), none⟩,
   ⟨some 12, .faddr 2 (.t 1), some (11, false)⟩,
   ⟨some 13, .load false 1 (.t 12), some (11, false)⟩,
   ⟨some 14, .bin .lss (.t 13) (.c (.int .i64 1)), some (11, false)⟩,
   ⟨some 15, .pick (.t 11) (.c (.bool true)) (.t 14), none⟩,
   ⟨some 16, .mov (.t 15), none⟩,
   ⟨some 17, .faddr 2 (.t 1), some (16, false)⟩,
   ⟨some 18, .load false 1 (.t 17), some (16, false)⟩,
   ⟨some 19, .bin .gtr (.t 18) (.c (.int .i64 1000000000000)), some (16, false)⟩,
   ⟨some 20, .pick (.t 16) (.c (.bool true)) (.t 19), none⟩,
   ⟨some 21, .mov (.t 20), none⟩,
   ⟨some 22, .faddr 3 (.t 1), some (21, false)⟩,
   ⟨some 23, .load false 1 (.t 22), some (21, false)⟩,
   ⟨some 24, .call 44 [.t 23], some (21, false)⟩,
   ⟨some 25, .un .not (.t 24), some (21, false)⟩,
   ⟨some 26, .pick (.t 21) (.c (.bool true)) (.t 25), none⟩,
   ⟨some 27, .mov (.t 26), none⟩,
   ⟨some 28, .faddr 4 (.t 1), some (27, false)⟩,
   ⟨some 29, .load false 1 (.t 28), some (27, false)⟩,
   ⟨some 30, .call 44 [.t 29], some (27, false)⟩,
   ⟨some 31, .un .not (.t 30), some (27, false)⟩,
   ⟨some 32, .pick (.t 27) (.c (.bool true)) (.t 31), none⟩,
   ⟨some 33, .mov (.t 32), none⟩,
   ⟨some 34, .faddr 4 (.t 1), some (33, false)⟩,
   ⟨some 35, .load false 1 (.t 34), some (33, false)⟩,
   ⟨some 36, .faddr 3 (.t 1), some (33, false)⟩,
   ⟨some 37, .load false 1 (.t 36), some (33, false)⟩,
   ⟨some 38, .bin .lss (.t 35) (.t 37), some (33, false)⟩,
   ⟨some 39, .pick (.t 33) (.c (.bool true)) (.t 38), none⟩] none) (
 .cond (.t 39) (
  .seq (
  .region [⟨some 2, .mov (.c (.int .i64 1)), none⟩] none) (
  .ret)) (
  .skip))) (
 .seq (
 .seq (
 .region [⟨some 40, .faddr 5 (.t 1), none⟩,
   ⟨some 41, .load false 1 (.t 40), none⟩,
   ⟨some 42, .call 45 [.t 41], none⟩,
   ⟨some 43, .un .not (.t 42), none⟩] none) (
 .cond (.t 43) (
  .seq (
  .region [⟨some 2, .mov (.c (.int .i64 4)), none⟩] none) (
  .ret)) (
  .skip))) (
 .seq (
 .region [⟨some 2, .mov (.c (.int .i64 0)), none⟩] none) (
 .ret))))⟩
def K30 : List (List Nat) := []

/-- corebank/corebankref22.named -/
def F31 : Fun := ⟨2, 19, [(4, none)],
 .seq (
 .region [⟨some 4, .mov (.c (.bool false)), none⟩] none) (
 .seq (
 .seq (
 .region [⟨some 5, .mov (.c (.int .i64 0)), none⟩] none) (
 .block 0 (
  .loop [1003100, 0, 1, 5] (
   .seq (
   .seq (
   .region [⟨some 6, .mov (.t 5), none⟩,
     ⟨some 7, .mov (.t 0), none⟩,
     ⟨some 8, .len .l (.t 7), none⟩,
     ⟨some 9, .bin .lss (.t 6) (.t 8), none⟩] none) (
   .cond (.t 9) (
    .skip) (
    .exit 0))) (
   .seq (
   .block 1 (
    .seq (
    .region [⟨some 12, .mov (.t 0), none⟩,
      ⟨some 13, .mov (.t 5), none⟩,
      ⟨some 14, .iaddr 6 [.int .i64, .int .i64, .int .i64, .int .i64, .int .i64, .str] (.t 12) (.t 13), none⟩,
      ⟨some 15, .faddr 5 (.t 14), none⟩,
      ⟨some 16, .load false 1 (.t 15), none⟩,
      ⟨some 17, .mov (.t 1), none⟩,
      ⟨some 18, .bin .eql (.t 16) (.t 17), none⟩] none) (
    .cond (.t 18) (
     .seq (
     .region [⟨some 4, .mov (.c (.bool true)), none⟩] none) (
     .ret)) (
     .skip)))) (
   .region [⟨some 10, .mov (.t 5), none⟩,
     ⟨some 11, .bin .add (.t 10) (.c (.int .i64 1)), none⟩,
     ⟨some 5, .mov (.t 11), none⟩] none)))))) (
 .seq (
 .region [⟨some 4, .mov (.c (.bool false)), none⟩] none) (
 .ret)))⟩
def K31 : List (List Nat) := [[1003100, 0, 1, 5]]

/-- corebank/corebankref22.Place -/
def F32 : Fun := ⟨2, 45, [(4, none), (5, none)],
 .seq (
 .region [⟨some 3, .box 6 (.t 1), none⟩,
   ⟨some 4, .mov (.c (.nils)), none⟩,
   ⟨some 5, .mov (.c (.int .i64 0)), none⟩] none) (
 .seq (
 .seq (
 .region [⟨some 7, .mov (.t 0), none⟩,
   ⟨some 8, .call 12 [.t 7], none⟩,
   ⟨some 9, .bin .neq (.t 8) (.c (.int .i64 0)), none⟩,
   ⟨some 10, .mov (.t 9), none⟩,
   ⟨some 11, .load true 6 (.t 3), some (10, false)⟩,
   ⟨some 12, .call 30 [.t 11], some (10, false)⟩,
   ⟨some 13, .bin .neq (.t 12) (.c (.int .i64 0)), some (10, false)⟩,
   ⟨some 14, .pick (.t 10) (.c (.bool true)) (.t 13), none⟩] none) (
 .cond (.t 14) (
  .seq (
  .region [⟨some 4, .mov (.c (.nils)), none⟩,
    ⟨some 5, .mov (.c (.int .i64 1)), none⟩] none) (
  .ret)) (
  .skip))) (
 .seq (
 .seq (
 .region [⟨some 15, .mov (.t 0), none⟩,
   ⟨some 16, .len .l (.t 15), none⟩,
   ⟨some 17, .bin .gtr (.t 16) (.c (.int .i64 0)), none⟩,
   ⟨some 18, .mov (.t 17), none⟩,
   ⟨some 19, .faddr 0 (.t 3), some (18, true)⟩,
   ⟨some 20, .load false 1 (.t 19), some (18, true)⟩,
   ⟨some 21, .mov (.t 0), some (18, true)⟩,
   ⟨some 22, .mov (.t 0), some (18, true)⟩,
   ⟨some 23, .len .l (.t 22), some (18, true)⟩,
   ⟨some 24, .bin .sub (.t 23) (.c (.int .i64 1)), some (18, true)⟩,
   ⟨some 25, .iaddr 6 [.int .i64, .int .i64, .int .i64, .int .i64, .int .i64, .str] (.t 21) (.t 24), some (18, true)⟩,
   ⟨some 26, .faddr 0 (.t 25), some (18, true)⟩,
   ⟨some 27, .load false 1 (.t 26), some (18, true)⟩,
   ⟨some 28, .bin .leq (.t 20) (.t 27), some (18, true)⟩,
   ⟨some 29, .pick (.t 18) (.t 28) (.c (.bool false)), none⟩] (some [[], [0], [1, 0], [2, 1, 0], [3, 2, 1, 0], [4, 3, 2, 1, 0, 3, 2, 1, 0], [3, 2, 1, 0], [3, 2, 1, 0], [7, 3, 2, 1, 0, 3, 2, 1, 0], [8, 7, 3, 2, 1, 0, 3, 2, 1, 0, 3, 2, 1, 0], [6, 3, 2, 1, 0, 9, 8, 7, 3, 2, 1, 0, 3, 2, 1, 0, 3, 2, 1, 0, 3, 2, 1, 0], [10, 6, 3, 2, 1, 0, 9, 8, 7, 3, 2, 1, 0, 3, 2, 1, 0, 3, 2, 1, 0, 3, 2, 1, 0, 3, 2, 1, 0], [11, 10, 6, 3, 2, 1, 0, 9, 8, 7, 3, 2, 1, 0, 3, 2, 1, 0, 3, 2, 1, 0, 3, 2, 1, 0, 3, 2, 1, 0, 3, 2, 1, 0], [5, 4, 3, 2, 1, 0, 3, 2, 1, 0, 12, 11, 10, 6, 3, 2, 1, 0, 9, 8, 7, 3, 2, 1, 0, 3, 2, 1, 0, 3, 2, 1, 0, 3, 2, 1, 0, 3, 2, 1, 0, 3, 2, 1, 0, 3, 2, 1, 0], [3, 2, 1, 0, 13, 5, 4, 3, 2, 1, 0, 3, 2, 1, 0, 12, 11, 10, 6, 3, 2, 1, 0, 9, 8, 7, 3, 2, 1, 0, 3, 2, 1, 0, 3, 2, 1, 0, 3, 2, 1, 0, 3, 2, 1, 0, 3, 2, 1, 0, 3, 2, 1, 0]])) (
 .cond (.t 29) (
  .seq (
  .region [⟨some 4, .mov (.c (.nils)), none⟩,
    ⟨some 5, .mov (.c (.int .i64 10)), none⟩] none) (
  .ret)) (
  .skip))) (
 .seq (
 .seq (
 .region [⟨some 30, .mov (.t 0), none⟩,
   ⟨some 31, .faddr 5 (.t 3), none⟩,
   ⟨some 32, .load false 1 (.t 31), none⟩,
   ⟨some 33, .call 31 [.t 30, .t 32], none⟩] none) (
 .cond (.t 33) (
  .seq (
  .region [⟨some 4, .mov (.c (.nils)), none⟩,
    ⟨some 5, .mov (.c (.int .i64 12)), none⟩] none) (
  .ret)) (
  .skip))) (
 .seq (
 .seq (
 .region [⟨some 34, .mov (.t 0), none⟩,
   ⟨some 35, .len .l (.t 34), none⟩,
   ⟨some 36, .bin .eql (.t 35) (.c (.int .i64 64)), none⟩] none) (
 .cond (.t 36) (
  .seq (
  .region [⟨some 4, .mov (.c (.nils)), none⟩,
    ⟨some 5, .mov (.c (.int .i64 5)), none⟩] none) (
  .ret)) (
  .skip))) (
 .seq (
 .region [⟨some 6, .mov (.c (.nils)), none⟩] none) (
 .seq (
 .region [⟨some 37, .mov (.t 6), none⟩,
   ⟨some 38, .mov (.t 0), none⟩,
   ⟨some 39, .app 6 56 (.t 37) (.t 38), none⟩,
   ⟨some 6, .mov (.t 39), none⟩] none) (
 .seq (
 .region [⟨some 40, .mov (.t 6), none⟩,
   ⟨some 41, .load true 6 (.t 3), none⟩,
   ⟨some 42, .bslice 6 (.agg [.int .i64 0, .int .i64 0, .int .i64 0, .int .i64 0, .int .i64 0, .str []]) 1 [(0, (.t 41))], none⟩,
   ⟨some 43, .app 6 56 (.t 40) (.t 42), none⟩,
   ⟨some 6, .mov (.t 43), none⟩] none) (
 .seq (
 .region [⟨some 44, .mov (.t 6), none⟩,
   ⟨some 4, .mov (.t 44), none⟩,
   ⟨some 5, .mov (.c (.int .i64 0)), none⟩] none) (
 .ret)))))))))⟩
def K32 : List (List Nat) := []

/-- corebank/corebankref22.SameAll -/
def F33 : Fun := ⟨2, 26, [(4, none)],
 .seq (
 .region [⟨some 4, .mov (.c (.bool false)), none⟩] none) (
 .seq (
 .seq (
 .region [⟨some 6, .mov (.t 0), none⟩,
   ⟨some 7, .len .l (.t 6), none⟩,
   ⟨some 8, .mov (.t 1), none⟩,
   ⟨some 9, .len .l (.t 8), none⟩,
   ⟨some 10, .bin .neq (.t 7) (.t 9), none⟩] none) (
 .cond (.t 10) (
  .seq (
  .region [⟨some 4, .mov (.c (.bool false)), none⟩] none) (
  .ret)) (
  .skip))) (
 .seq (
 .seq (
 .region [⟨some 5, .mov (.c (.int .i64 0)), none⟩] none) (
 .block 0 (
  .loop [1003300, 0, 1, 5] (
   .seq (
   .seq (
   .region [⟨some 11, .mov (.t 5), none⟩,
     ⟨some 12, .mov (.t 0), none⟩,
     ⟨some 13, .len .l (.t 12), none⟩,
     ⟨some 14, .bin .lss (.t 11) (.t 13), none⟩] none) (
   .cond (.t 14) (
    .skip) (
    .exit 0))) (
   .seq (
   .block 1 (
    .seq (
    .region [⟨some 17, .mov (.t 0), none⟩,
      ⟨some 18, .mov (.t 5), none⟩,
      ⟨some 19, .iaddr 6 [.int .i64, .int .i64, .int .i64, .int .i64, .int .i64, .str] (.t 17) (.t 18), none⟩,
      ⟨some 20, .load true 6 (.t 19), none⟩,
      ⟨some 21, .mov (.t 1), none⟩,
      ⟨some 22, .mov (.t 5), none⟩,
      ⟨some 23, .iaddr 6 [.int .i64, .int .i64, .int .i64, .int .i64, .int .i64, .str] (.t 21) (.t 22), none⟩,
      ⟨some 24, .load true 6 (.t 23), none⟩,
      ⟨some 25, .eqs (true, [.i, .i, .i, .i, .i, .s]) true (.t 20) (.t 24), none⟩] (some [[], [], [0, 1], [2, 0, 1], [], [], [4, 5], [6, 4, 5], [3, 2, 0, 1, 7, 6, 4, 5]])) (
    .cond (.t 25) (
     .seq (
     .region [⟨some 4, .mov (.c (.bool false)), none⟩] none) (
     .ret)) (
     .skip)))) (
   .region [⟨some 15, .mov (.t 5), none⟩,
     ⟨some 16, .bin .add (.t 15) (.c (.int .i64 1)), none⟩,
     ⟨some 5, .mov (.t 16), none⟩] none)))))) (
 .seq (
 .region [⟨some 4, .mov (.c (.bool true)), none⟩] none) (
 .ret))))⟩
def K33 : List (List Nat) := [[1003300, 0, 1, 5]]

/-- corebank/corebankref22.Use -/
def F34 : Fun := ⟨4, 67, [(8, none), (9, none)],
 .seq (
 .region [⟨some 8, .mov (.c (.nils)), none⟩,
   ⟨some 9, .mov (.c (.int .i64 0)), none⟩] none) (
 .seq (
 .region [⟨some 12, .mov (.t 0), none⟩,
   ⟨some 13, .mov (.t 1), none⟩,
   ⟨some 14, .call 25 [.t 12, .t 13], none⟩,
   ⟨some 10, .mov (.t 14), none⟩] none) (
 .seq (
 .seq (
 .region [⟨some 15, .mov (.t 10), none⟩,
   ⟨some 16, .bin .lss (.t 15) (.c (.int .i64 0)), none⟩] none) (
 .cond (.t 16) (
  .seq (
  .region [⟨some 8, .mov (.c (.nils)), none⟩,
    ⟨some 9, .mov (.c (.int .i64 11)), none⟩] none) (
  .ret)) (
  .skip))) (
 .seq (
 .seq (
 .region [⟨some 17, .mov (.t 3), none⟩,
   ⟨some 18, .mov (.t 0), none⟩,
   ⟨some 19, .mov (.t 10), none⟩,
   ⟨some 20, .iaddr 6 [.int .i64, .int .i64, .int .i64, .int .i64, .int .i64, .str] (.t 18) (.t 19), none⟩,
   ⟨some 21, .faddr 3 (.t 20), none⟩,
   ⟨some 22, .load false 1 (.t 21), none⟩,
   ⟨some 23, .bin .lss (.t 17) (.t 22), none⟩,
   ⟨some 24, .mov (.t 23), none⟩,
   ⟨some 25, .mov (.t 3), some (24, false)⟩,
   ⟨some 26, .mov (.t 0), some (24, false)⟩,
   ⟨some 27, .mov (.t 10), some (24, false)⟩,
   ⟨some 28, .iaddr 6 [.int .i64, .int .i64, .int .i64, .int .i64, .int .i64, .str] (.t 26) (.t 27), some (24, false)⟩,
   ⟨some 29, .faddr 4 (.t 28), some (24, false)⟩,
   ⟨some 30, .load false 1 (.t 29), some (24, false)⟩,
   ⟨some 31, .bin .gtr (.t 25) (.t 30), some (24, false)⟩,
   ⟨some 32, .pick (.t 24) (.c (.bool true)) (.t 31), none⟩] none) (
 .cond (.t 32) (
  .seq (
  .region [⟨some 8, .mov (.c (.nils)), none⟩,
    ⟨some 9, .mov (.c (.int .i64 23)), none⟩] none) (
  .ret)) (
  .skip))) (
 .seq (
 .seq (
 .region [⟨some 33, .mov (.t 2), none⟩,
   ⟨some 34, .bin .lss (.t 33) (.c (.int .i64 1)), none⟩] none) (
 .cond (.t 34) (
  .seq (
  .region [⟨some 8, .mov (.c (.nils)), none⟩,
    ⟨some 9, .mov (.c (.int .i64 1)), none⟩] none) (
  .ret)) (
  .skip))) (
 .seq (
 .seq (
 .region [⟨some 35, .mov (.t 2), none⟩,
   ⟨some 36, .mov (.t 0), none⟩,
   ⟨some 37, .mov (.t 10), none⟩,
   ⟨some 38, .iaddr 6 [.int .i64, .int .i64, .int .i64, .int .i64, .int .i64, .str] (.t 36) (.t 37), none⟩,
   ⟨some 39, .faddr 2 (.t 38), none⟩,
   ⟨some 40, .load false 1 (.t 39), none⟩,
   ⟨some 41, .bin .gtr (.t 35) (.t 40), none⟩] none) (
 .cond (.t 41) (
  .seq (
  .region [⟨some 8, .mov (.c (.nils)), none⟩,
    ⟨some 9, .mov (.c (.int .i64 18)), none⟩] none) (
  .ret)) (
  .skip))) (
 .seq (
 .seq (
 .region [⟨some 42, .mov (.t 2), none⟩,
   ⟨some 43, .mov (.t 0), none⟩,
   ⟨some 44, .mov (.t 10), none⟩,
   ⟨some 45, .iaddr 6 [.int .i64, .int .i64, .int .i64, .int .i64, .int .i64, .str] (.t 43) (.t 44), none⟩,
   ⟨some 46, .faddr 2 (.t 45), none⟩,
   ⟨some 47, .load false 1 (.t 46), none⟩,
   ⟨some 48, .bin .eql (.t 42) (.t 47), none⟩] none) (
 .cond (.t 48) (
  .seq (
  .region [⟨some 49, .mov (.t 0), none⟩,
    ⟨some 50, .mov (.t 10), none⟩,
    ⟨some 51, .call 46 [.t 49, .t 50], none⟩,
    ⟨some 8, .mov (.t 51), none⟩,
    ⟨some 9, .mov (.c (.int .i64 0)), none⟩] none) (
  .ret)) (
  .skip))) (
 .seq (
 .region [⟨some 11, .mov (.c (.nils)), none⟩] none) (
 .seq (
 .region [⟨some 52, .mov (.t 11), none⟩,
   ⟨some 53, .mov (.t 0), none⟩,
   ⟨some 54, .app 6 56 (.t 52) (.t 53), none⟩,
   ⟨some 11, .mov (.t 54), none⟩] none) (
 .seq (
 .region [⟨some 55, .mov (.t 11), none⟩,
   ⟨some 56, .mov (.t 10), none⟩,
   ⟨some 57, .mov (.t 11), none⟩,
   ⟨some 58, .mov (.t 10), none⟩,
   ⟨some 59, .iaddr 6 [.int .i64, .int .i64, .int .i64, .int .i64, .int .i64, .str] (.t 57) (.t 58), none⟩,
   ⟨some 60, .faddr 2 (.t 59), none⟩,
   ⟨some 61, .load false 1 (.t 60), none⟩,
   ⟨some 62, .mov (.t 2), none⟩,
   ⟨some 63, .bin .sub (.t 61) (.t 62), none⟩,
   ⟨some 64, .iaddr 6 [.int .i64, .int .i64, .int .i64, .int .i64, .int .i64, .str] (.t 55) (.t 56), none⟩,
   ⟨some 65, .faddr 2 (.t 64), none⟩,
   ⟨none, .store 1 (.t 65) (.t 63), none⟩] none) (
 .seq (
 .region [⟨some 66, .mov (.t 11), none⟩,
   ⟨some 8, .mov (.t 66), none⟩,
   ⟨some 9, .mov (.c (.int .i64 0)), none⟩] none) (
 .ret)))))))))))⟩
def K34 : List (List Nat) := []

/-- corebank/corebankref22.Release -/
def F35 : Fun := ⟨2, 15, [(4, none), (5, none)],
 .seq (
 .region [⟨some 4, .mov (.c (.nils)), none⟩,
   ⟨some 5, .mov (.c (.int .i64 0)), none⟩] none) (
 .seq (
 .region [⟨some 7, .mov (.t 0), none⟩,
   ⟨some 8, .mov (.t 1), none⟩,
   ⟨some 9, .call 25 [.t 7, .t 8], none⟩,
   ⟨some 6, .mov (.t 9), none⟩] none) (
 .seq (
 .seq (
 .region [⟨some 10, .mov (.t 6), none⟩,
   ⟨some 11, .bin .lss (.t 10) (.c (.int .i64 0)), none⟩] none) (
 .cond (.t 11) (
  .seq (
  .region [⟨some 4, .mov (.c (.nils)), none⟩,
    ⟨some 5, .mov (.c (.int .i64 11)), none⟩] none) (
  .ret)) (
  .skip))) (
 .seq (
 .region [⟨some 12, .mov (.t 0), none⟩,
   ⟨some 13, .mov (.t 6), none⟩,
   ⟨some 14, .call 46 [.t 12, .t 13], none⟩,
   ⟨some 4, .mov (.t 14), none⟩,
   ⟨some 5, .mov (.c (.int .i64 0)), none⟩] none) (
 .ret))))⟩
def K35 : List (List Nat) := []

/-- corebank/corebankref22.Expire -/
def F36 : Fun := ⟨2, 39, [(4, none), (5, none)],
 .seq (
 .region [⟨some 4, .mov (.c (.nils)), none⟩,
   ⟨some 5, .mov (.c (.nils)), none⟩] none) (
 .seq (
 .region [⟨some 6, .mov (.c (.nils)), none⟩] none) (
 .seq (
 .region [⟨some 7, .mov (.c (.nils)), none⟩] none) (
 .seq (
 .seq (
 .region [⟨some 8, .mov (.c (.int .i64 0)), none⟩] none) (
 .block 0 (
  .loop [1003600, 0, 1, 6, 7, 8] (
   .seq (
   .seq (
   .region [⟨some 9, .mov (.t 8), none⟩,
     ⟨some 10, .mov (.t 0), none⟩,
     ⟨some 11, .len .l (.t 10), none⟩,
     ⟨some 12, .bin .lss (.t 9) (.t 11), none⟩] none) (
   .cond (.t 12) (
    .skip) (
    .exit 0))) (
   .seq (
   .block 1 (
    .seq (
    .region [⟨some 15, .mov (.t 0), none⟩,
      ⟨some 16, .mov (.t 8), none⟩,
      ⟨some 17, .iaddr 6 [.int .i64, .int .i64, .int .i64, .int .i64, .int .i64, .str] (.t 15) (.t 16), none⟩,
      ⟨some 18, .faddr 4 (.t 17), none⟩,
      ⟨some 19, .load false 1 (.t 18), none⟩,
      ⟨some 20, .mov (.t 1), none⟩,
      ⟨some 21, .bin .lss (.t 19) (.t 20), none⟩] none) (
    .cond (.t 21) (
     .region [⟨some 22, .mov (.t 7), none⟩,
       ⟨some 23, .mov (.t 0), none⟩,
       ⟨some 24, .mov (.t 8), none⟩,
       ⟨some 25, .iaddr 6 [.int .i64, .int .i64, .int .i64, .int .i64, .int .i64, .str] (.t 23) (.t 24), none⟩,
       ⟨some 26, .faddr 0 (.t 25), none⟩,
       ⟨some 27, .load false 1 (.t 26), none⟩,
       ⟨some 28, .bslice 1 (.int .i64 0) 1 [(0, (.t 27))], none⟩,
       ⟨some 29, .app 1 8 (.t 22) (.t 28), none⟩,
       ⟨some 7, .mov (.t 29), none⟩] none) (
     .region [⟨some 30, .mov (.t 6), none⟩,
       ⟨some 31, .mov (.t 0), none⟩,
       ⟨some 32, .mov (.t 8), none⟩,
       ⟨some 33, .iaddr 6 [.int .i64, .int .i64, .int .i64, .int .i64, .int .i64, .str] (.t 31) (.t 32), none⟩,
       ⟨some 34, .load true 6 (.t 33), none⟩,
       ⟨some 35, .bslice 6 (.agg [.int .i64 0, .int .i64 0, .int .i64 0, .int .i64 0, .int .i64 0, .str []]) 1 [(0, (.t 34))], none⟩,
       ⟨some 36, .app 6 56 (.t 30) (.t 35), none⟩,
       ⟨some 6, .mov (.t 36), none⟩] none)))) (
   .region [⟨some 13, .mov (.t 8), none⟩,
     ⟨some 14, .bin .add (.t 13) (.c (.int .i64 1)), none⟩,
     ⟨some 8, .mov (.t 14), none⟩] none)))))) (
 .seq (
 .region [⟨some 37, .mov (.t 6), none⟩,
   ⟨some 38, .mov (.t 7), none⟩,
   ⟨some 4, .mov (.t 37), none⟩,
   ⟨some 5, .mov (.t 38), none⟩] none) (
 .ret)))))⟩
def K36 : List (List Nat) := [[1003600, 0, 1, 6, 7, 8]]

/-- corebank/corebankref07.SameInts -/
def F37 : Fun := ⟨2, 26, [(4, none)],
 .seq (
 .region [⟨some 4, .mov (.c (.bool false)), none⟩] none) (
 .seq (
 .seq (
 .region [⟨some 6, .mov (.t 0), none⟩,
   ⟨some 7, .len .l (.t 6), none⟩,
   ⟨some 8, .mov (.t 1), none⟩,
   ⟨some 9, .len .l (.t 8), none⟩,
   ⟨some 10, .bin .neq (.t 7) (.t 9), none⟩] none) (
 .cond (.t 10) (
  .seq (
  .region [⟨some 4, .mov (.c (.bool false)), none⟩] none) (
  .ret)) (
  .skip))) (
 .seq (
 .seq (
 .region [⟨some 5, .mov (.c (.int .i64 0)), none⟩] none) (
 .block 0 (
  .loop [1003700, 0, 1, 5] (
   .seq (
   .seq (
   .region [⟨some 11, .mov (.t 5), none⟩,
     ⟨some 12, .mov (.t 0), none⟩,
     ⟨some 13, .len .l (.t 12), none⟩,
     ⟨some 14, .bin .lss (.t 11) (.t 13), none⟩] none) (
   .cond (.t 14) (
    .skip) (
    .exit 0))) (
   .seq (
   .block 1 (
    .seq (
    .region [⟨some 17, .mov (.t 0), none⟩,
      ⟨some 18, .mov (.t 5), none⟩,
      ⟨some 19, .iaddr 1 [.int .i64] (.t 17) (.t 18), none⟩,
      ⟨some 20, .load false 1 (.t 19), none⟩,
      ⟨some 21, .mov (.t 1), none⟩,
      ⟨some 22, .mov (.t 5), none⟩,
      ⟨some 23, .iaddr 1 [.int .i64] (.t 21) (.t 22), none⟩,
      ⟨some 24, .load false 1 (.t 23), none⟩,
      ⟨some 25, .bin .neq (.t 20) (.t 24), none⟩] (some [[], [], [0, 1], [2, 0, 1], [], [], [4, 5], [6, 4, 5], [3, 2, 0, 1, 7, 6, 4, 5]])) (
    .cond (.t 25) (
     .seq (
     .region [⟨some 4, .mov (.c (.bool false)), none⟩] none) (
     .ret)) (
     .skip)))) (
   .region [⟨some 15, .mov (.t 5), none⟩,
     ⟨some 16, .bin .add (.t 15) (.c (.int .i64 1)), none⟩,
     ⟨some 5, .mov (.t 16), none⟩] none)))))) (
 .seq (
 .region [⟨some 4, .mov (.c (.bool true)), none⟩] none) (
 .ret))))⟩
def K37 : List (List Nat) := [[1003700, 0, 1, 5]]

/-- corebank/hold.Place$1 -/
def F38 : Fun := ⟨1, 9, [(3, none)],
 .seq (
 .region [⟨some 2, .box 6 (.t 0), none⟩,
   ⟨some 3, .mov (.c (.bool false)), none⟩] none) (
 .seq (
 .region [⟨some 4, .faddr 5 (.t 2), none⟩,
   ⟨some 5, .load false 1 (.t 4), none⟩,
   ⟨some 6, .faddr 5 (.t 1), none⟩,
   ⟨some 7, .load false 1 (.t 6), none⟩,
   ⟨some 8, .bin .eql (.t 5) (.t 7), none⟩,
   ⟨some 3, .mov (.t 8), none⟩] none) (
 .ret))⟩
def K38 : List (List Nat) := []

/-- slices.Clone[[]corebank/api.Hold,corebank/api.Hold] -/
def F39 : Fun := ⟨1, 8, [(2, none)],
 .seq (
 .region [⟨some 2, .mov (.c (.nils)), none⟩] none) (
 .seq (
 .seq (
 .region [⟨some 3, .mov (.t 0), none⟩,
   ⟨some 4, .eqn .s false (.t 3) (.c (.nils)), none⟩] none) (
 .cond (.t 4) (
  .seq (
  .region [⟨some 2, .mov (.c (.nils)), none⟩] none) (
  .ret)) (
  .skip))) (
 .seq (
 .region [⟨some 5, .bslice 6 (.agg [.int .i64 0, .int .i64 0, .int .i64 0, .int .i64 0, .int .i64 0, .str []]) 0 [], none⟩,
   ⟨some 6, .mov (.t 0), none⟩,
   ⟨some 7, .app 6 56 (.t 5) (.t 6), none⟩,
   ⟨some 2, .mov (.t 7), none⟩] none) (
 .ret)))⟩
def K39 : List (List Nat) := []

/-- slices.Delete[[]corebank/api.Hold,corebank/api.Hold] -/
def F40 : Fun := ⟨3, 33, [(6, none)],
 .seq (
 .region [⟨some 6, .mov (.c (.nils)), none⟩] none) (
 .seq (
 .region [⟨some 8, .mov (.t 0), none⟩,
   ⟨some 9, .mov (.t 1), none⟩,
   ⟨some 10, .mov (.t 2), none⟩,
   ⟨some 11, .mov (.t 0), none⟩,
   ⟨some 12, .len .l (.t 11), none⟩,
   ⟨some 13, .slc3 (.t 8) (.t 9) (.t 10) (.t 12), none⟩] none) (
 .seq (
 .seq (
 .region [⟨some 14, .mov (.t 1), none⟩,
   ⟨some 15, .mov (.t 2), none⟩,
   ⟨some 16, .bin .eql (.t 14) (.t 15), none⟩] none) (
 .cond (.t 16) (
  .seq (
  .region [⟨some 17, .mov (.t 0), none⟩,
    ⟨some 6, .mov (.t 17), none⟩] none) (
  .ret)) (
  .skip))) (
 .seq (
 .region [⟨some 18, .mov (.t 0), none⟩,
   ⟨some 19, .len .l (.t 18), none⟩,
   ⟨some 7, .mov (.t 19), none⟩] none) (
 .seq (
 .region [⟨some 20, .mov (.t 0), none⟩,
   ⟨some 21, .mov (.t 1), none⟩,
   ⟨some 22, .slc 6 (.t 20) none (some (.t 21)), none⟩,
   ⟨some 23, .mov (.t 0), none⟩,
   ⟨some 24, .mov (.t 2), none⟩,
   ⟨some 25, .slc 6 (.t 23) (some (.t 24)) none, none⟩,
   ⟨some 26, .app 6 56 (.t 22) (.t 25), none⟩,
   ⟨some 0, .mov (.t 26), none⟩] (some [[], [], [0, 1], [], [], [3, 4], [2, 0, 1, 5, 3, 4], [6, 2, 0, 1, 5, 3, 4, 6, 2, 0, 1, 5, 3, 4, 0, 1, 2, 0, 1, 3, 4, 5, 3, 4, 6, 2, 0, 1, 5, 3, 4]])) (
 .seq (
 .region [⟨some 27, .mov (.t 0), none⟩,
   ⟨some 28, .mov (.t 0), none⟩,
   ⟨some 29, .len .l (.t 28), none⟩,
   ⟨some 30, .mov (.t 7), none⟩,
   ⟨some 31, .slc 6 (.t 27) (some (.t 29)) (some (.t 30)), none⟩,
   ⟨none, .clr 6 (.agg [.int .i64 0, .int .i64 0, .int .i64 0, .int .i64 0, .int .i64 0, .str []]) (.t 31), none⟩] none) (
 .seq (
 .region [⟨some 32, .mov (.t 0), none⟩,
   ⟨some 6, .mov (.t 32), none⟩] none) (
 .ret)))))))⟩
def K40 : List (List Nat) := []

/-- corebank/hold.index$1 -/
def F42 : Fun := ⟨1, 8, [(3, none)],
 .seq (
 .region [⟨some 2, .box 6 (.t 0), none⟩,
   ⟨some 3, .mov (.c (.bool false)), none⟩] none) (
 .seq (
 .region [⟨some 4, .faddr 0 (.t 2), none⟩,
   ⟨some 5, .load false 1 (.t 4), none⟩,
   ⟨some 6, .load false 1 (.t 1), none⟩,
   ⟨some 7, .bin .eql (.t 5) (.t 6), none⟩,
   ⟨some 3, .mov (.t 7), none⟩] none) (
 .ret))⟩
def K42 : List (List Nat) := []

/-- slices.IndexFunc[[]corebank/api.Hold,corebank/api.Hold] -/
def F41 : Fun := ⟨2, 19, [(4, none)],
 .seq (
 .region [⟨some 4, .mov (.c (.int .i64 0)), none⟩] none) (
 .seq (
 .seq (
 .region [⟨some 6, .mov (.t 0), none⟩,
   ⟨some 7, .len .l (.t 6), none⟩,
   ⟨some 8, .mov (.c (.int .i64 0)), none⟩] none) (
 .block 0 (
  .loop [1004100, 0, 1, 7, 8] (
   .seq (
   .region [⟨some 9, .bin .lss (.t 8) (.t 7), none⟩] none) (
   .seq (
   .cond (.t 9) (
    .skip) (
    .exit 0)) (
   .seq (
   .block 1 (
    .seq (
    .region [⟨some 10, .mov (.t 8), none⟩,
      ⟨some 5, .mov (.t 10), none⟩] none) (
    .seq (
    .region [⟨some 11, .mov (.t 1), none⟩,
      ⟨some 12, .mov (.t 0), none⟩,
      ⟨some 13, .mov (.t 5), none⟩,
      ⟨some 14, .iaddr 6 [.int .i64, .int .i64, .int .i64, .int .i64, .int .i64, .str] (.t 12) (.t 13), none⟩,
      ⟨some 15, .load true 6 (.t 14), none⟩,
      ⟨some 16, .callv (.t 11) [.t 15], none⟩] none) (
    .cond (.t 16) (
     .seq (
     .region [⟨some 17, .mov (.t 5), none⟩,
       ⟨some 4, .mov (.t 17), none⟩] none) (
     .ret)) (
     .skip))))) (
   .region [⟨some 18, .bin .add (.t 8) (.c (.int .i64 1)), none⟩,
     ⟨some 8, .mov (.t 18), none⟩] none))))))) (
 .seq (
 .region [⟨some 4, .mov (.c (.int .i64 (-1))), none⟩] none) (
 .ret)))⟩
def K41 : List (List Nat) := [[1004100, 0, 1, 7, 8]]

/-- corebank/hold.day -/
def F43 : Fun := ⟨1, 9, [(2, none)],
 .seq (
 .region [⟨some 2, .mov (.c (.bool false)), none⟩] none) (
 .seq (
 .region [⟨some 3, .mov (.t 0), none⟩,
   ⟨some 4, .bin .geq (.t 3) (.c (.int .i64 0)), none⟩,
   ⟨some 5, .mov (.t 4), none⟩,
   ⟨some 6, .mov (.t 0), some (5, true)⟩,
   ⟨some 7, .bin .leq (.t 6) (.c (.int .i64 73048)), some (5, true)⟩,
   ⟨some 8, .pick (.t 5) (.t 7) (.c (.bool false)), none⟩,
   ⟨some 2, .mov (.t 8), none⟩] none) (
 .ret))⟩
def K43 : List (List Nat) := []

/-- corebank/corebankref04.Valid -/
def F44 : Fun := ⟨1, 9, [(2, none)],
 .seq (
 .region [⟨some 2, .mov (.c (.bool false)), none⟩] none) (
 .seq (
 .region [⟨some 3, .mov (.t 0), none⟩,
   ⟨some 4, .bin .geq (.t 3) (.c (.int .i64 0)), none⟩,
   ⟨some 5, .mov (.t 4), none⟩,
   ⟨some 6, .mov (.t 0), some (5, true)⟩,
   ⟨some 7, .bin .leq (.t 6) (.c (.int .i64 73048)), some (5, true)⟩,
   ⟨some 8, .pick (.t 5) (.t 7) (.c (.bool false)), none⟩,
   ⟨some 2, .mov (.t 8), none⟩] none) (
 .ret))⟩
def K44 : List (List Nat) := []

/-- corebank/corebankref07.Key -/
def F45 : Fun := ⟨1, 10, [(2, none)],
 .seq (
 .region [⟨some 2, .mov (.c (.bool false)), none⟩] none) (
 .seq (
 .region [⟨some 3, .mov (.t 0), none⟩,
   ⟨some 4, .len .s (.t 3), none⟩,
   ⟨some 5, .bin .geq (.t 4) (.c (.int .i64 1)), none⟩,
   ⟨some 6, .mov (.t 5), none⟩,
   ⟨some 7, .mov (.t 0), some (6, true)⟩,
   ⟨some 8, .call 47 [.t 7, .c (.int .i64 48), .c (.int .u8 33)], some (6, true)⟩,
   ⟨some 9, .pick (.t 6) (.t 8) (.c (.bool false)), none⟩,
   ⟨some 2, .mov (.t 9), none⟩] none) (
 .ret))⟩
def K45 : List (List Nat) := []

/-- corebank/corebankref22.without -/
def F46 : Fun := ⟨2, 18, [(4, none)],
 .seq (
 .region [⟨some 4, .mov (.c (.nils)), none⟩] none) (
 .seq (
 .region [⟨some 5, .mov (.c (.nils)), none⟩] none) (
 .seq (
 .region [⟨some 6, .mov (.t 5), none⟩,
   ⟨some 7, .mov (.t 0), none⟩,
   ⟨some 8, .mov (.t 1), none⟩,
   ⟨some 9, .slc 6 (.t 7) none (some (.t 8)), none⟩,
   ⟨some 10, .app 6 56 (.t 6) (.t 9), none⟩,
   ⟨some 5, .mov (.t 10), none⟩] none) (
 .seq (
 .region [⟨some 11, .mov (.t 5), none⟩,
   ⟨some 12, .mov (.t 0), none⟩,
   ⟨some 13, .mov (.t 1), none⟩,
   ⟨some 14, .bin .add (.t 13) (.c (.int .i64 1)), none⟩,
   ⟨some 15, .slc 6 (.t 12) (some (.t 14)) none, none⟩,
   ⟨some 16, .app 6 56 (.t 11) (.t 15), none⟩,
   ⟨some 5, .mov (.t 16), none⟩] none) (
 .seq (
 .region [⟨some 17, .mov (.t 5), none⟩,
   ⟨some 4, .mov (.t 17), none⟩] none) (
 .ret)))))⟩
def K46 : List (List Nat) := []

/-- corebank/corebankref07.Printed -/
def F47 : Fun := ⟨3, 29, [(6, none)],
 .seq (
 .region [⟨some 6, .mov (.c (.bool false)), none⟩] none) (
 .seq (
 .seq (
 .region [⟨some 8, .mov (.t 0), none⟩,
   ⟨some 9, .len .s (.t 8), none⟩,
   ⟨some 10, .mov (.t 1), none⟩,
   ⟨some 11, .bin .gtr (.t 9) (.t 10), none⟩] none) (
 .cond (.t 11) (
  .seq (
  .region [⟨some 6, .mov (.c (.bool false)), none⟩] none) (
  .ret)) (
  .skip))) (
 .seq (
 .seq (
 .region [⟨some 7, .mov (.c (.int .i64 0)), none⟩] none) (
 .block 0 (
  .loop [1004700, 0, 2, 7] (
   .seq (
   .seq (
   .region [⟨some 12, .mov (.t 7), none⟩,
     ⟨some 13, .mov (.t 0), none⟩,
     ⟨some 14, .len .s (.t 13), none⟩,
     ⟨some 15, .bin .lss (.t 12) (.t 14), none⟩] none) (
   .cond (.t 15) (
    .skip) (
    .exit 0))) (
   .seq (
   .block 1 (
    .seq (
    .region [⟨some 18, .mov (.t 0), none⟩,
      ⟨some 19, .mov (.t 7), none⟩,
      ⟨some 20, .idxs (.t 18) (.t 19), none⟩,
      ⟨some 21, .mov (.t 2), none⟩,
      ⟨some 22, .bin .lss (.t 20) (.t 21), none⟩,
      ⟨some 23, .mov (.t 22), none⟩,
      ⟨some 24, .mov (.t 0), some (23, false)⟩,
      ⟨some 25, .mov (.t 7), some (23, false)⟩,
      ⟨some 26, .idxs (.t 24) (.t 25), some (23, false)⟩,
      ⟨some 27, .bin .gtr (.t 26) (.c (.int .u8 126)), some (23, false)⟩,
      ⟨some 28, .pick (.t 23) (.c (.bool true)) (.t 27), none⟩] none) (
    .cond (.t 28) (
     .seq (
     .region [⟨some 6, .mov (.c (.bool false)), none⟩] none) (
     .ret)) (
     .skip)))) (
   .region [⟨some 16, .mov (.t 7), none⟩,
     ⟨some 17, .bin .add (.t 16) (.c (.int .i64 1)), none⟩,
     ⟨some 7, .mov (.t 17), none⟩] none)))))) (
 .seq (
 .region [⟨some 6, .mov (.c (.bool true)), none⟩] none) (
 .ret))))⟩
def K47 : List (List Nat) := [[1004700, 0, 2, 7]]

def tab : List (Nat × Fun) := [(3, F3), (4, F4), (5, F5), (6, F6), (7, F7), (8, F8), (9, F9), (10, F10), (11, F11), (12, F12), (13, F13), (14, F14), (15, F15), (16, F16), (17, F17), (18, F18), (19, F19), (20, F20), (21, F21), (22, F22), (23, F23), (24, F24), (25, F25), (26, F26), (27, F27), (29, F29), (28, F28), (30, F30), (31, F31), (32, F32), (33, F33), (34, F34), (35, F35), (36, F36), (37, F37), (38, F38), (39, F39), (40, F40), (42, F42), (41, F41), (43, F43), (44, F44), (45, F45), (46, F46), (47, F47)]

def lookF : List (Nat × Fun) → Nat → Option Fun
  | [], _ => none
  | (i, F) :: l, f => if f = i then some F else lookF l f

end Go.Proofs.H22

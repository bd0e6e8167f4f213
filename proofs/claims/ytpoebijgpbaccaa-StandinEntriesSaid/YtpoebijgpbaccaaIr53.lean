/- The intermediate code of the functions reached. Printed by a program of mine. -/
import Derived.Test.YtpoebijgpbaccaaE3
set_option linter.unusedVariables false
set_option linter.unusedSimpArgs false
set_option linter.unnecessarySimpa false
namespace Go.Proofs.H53
open Go Go.Eng

/-- corebank/corebanklaw53.StandinChecks -/
def F3 : Fun := ⟨2, 26, [(4, none)],
 .seq (
 .region [⟨some 2, .box 3 (.t 0), none⟩,
   ⟨some 4, .mov (.c (.bool false)), none⟩] none) (
 .seq (
 .seq (
 .region [⟨some 5, .load true 3 [.int .i64, .slice 3, .slice 3] (.t 2), none⟩,
   ⟨some 6, .call 7 [.t 5], none⟩,
   ⟨some 7, .un .not (.t 6), none⟩] none) (
 .cond (.t 7) (
  .seq (
  .region [⟨some 8, .call 8 [], none⟩,
    ⟨some 4, .mov (.t 8), none⟩] none) (
  .ret)) (
  .skip))) (
 .seq (
 .region [⟨some 9, .load true 3 [.int .i64, .slice 3, .slice 3] (.t 2), none⟩,
   ⟨some 10, .call 9 [.t 9], none⟩,
   ⟨some 11, .load true 3 [.int .i64, .slice 3, .slice 3] (.t 2), none⟩,
   ⟨some 12, .call 10 [.t 11], none⟩,
   ⟨some 13, .bin .eql (.t 10) (.t 12), none⟩,
   ⟨some 14, .mov (.t 13), none⟩,
   ⟨some 15, .load true 3 [.int .i64, .slice 3, .slice 3] (.t 2), some (14, true)⟩,
   ⟨some 16, .mov (.t 1), some (14, true)⟩,
   ⟨some 17, .call 11 [.t 15, .t 16], some (14, true)⟩,
   ⟨some 18, .load true 3 [.int .i64, .slice 3, .slice 3] (.t 2), some (14, true)⟩,
   ⟨some 19, .mov (.t 1), some (14, true)⟩,
   ⟨some 20, .call 12 [.t 18, .t 19], some (14, true)⟩,
   ⟨some 21, .bin .eql (.t 17) (.t 20), some (14, true)⟩,
   ⟨some 22, .pick (.t 14) (.t 21) (.c (.bool false)), none⟩,
   ⟨some 23, .mov (.t 22), none⟩,
   ⟨some 24, .call 8 [], some (23, true)⟩,
   ⟨some 25, .pick (.t 23) (.t 24) (.c (.bool false)), none⟩,
   ⟨some 4, .mov (.t 25), none⟩] (some [[], [0], [], [2, 1, 0], [3, 2, 1, 0], [4, 3, 2, 1, 0], [5, 4, 3, 2, 1, 0], [5, 4, 3, 2, 1, 0], [6, 7, 5, 4, 3, 2, 1, 0], [5, 4, 3, 2, 1, 0], [5, 4, 3, 2, 1, 0], [9, 10, 8, 6, 7, 5, 4, 3, 2, 1, 0], [11, 9, 10, 8, 6, 7, 5, 4, 3, 2, 1, 0], [12, 11, 9, 10, 8, 6, 7, 5, 4, 3, 2, 1, 0], [13, 12, 11, 9, 10, 8, 6, 7, 5, 4, 3, 2, 1, 0], [14, 13, 12, 11, 9, 10, 8, 6, 7, 5, 4, 3, 2, 1, 0], [15, 14, 13, 12, 11, 9, 10, 8, 6, 7, 5, 4, 3, 2, 1, 0], [16, 15, 14, 13, 12, 11, 9, 10, 8, 6, 7, 5, 4, 3, 2, 1, 0]])) (
 .ret)))⟩
def K3 : List (List Nat) := []
def Hn3 : List (Nat × Nat) := []

/-- corebank/corebanklaw53.StandinDecides -/
def F4 : Fun := ⟨2, 52, [(4, none)],
 .seq (
 .region [⟨some 2, .box 3 (.t 0), none⟩,
   ⟨some 3, .box 3 (.t 1), none⟩,
   ⟨some 4, .mov (.c (.bool false)), none⟩] none) (
 .seq (
 .seq (
 .region [⟨some 9, .load true 3 [.int .i64, .slice 3, .slice 3] (.t 2), none⟩,
   ⟨some 10, .call 7 [.t 9], none⟩,
   ⟨some 11, .un .not (.t 10), none⟩,
   ⟨some 12, .mov (.t 11), none⟩,
   ⟨some 13, .faddr 2 (.t 3), some (12, false)⟩,
   ⟨some 14, .load false 1 [.str] (.t 13), some (12, false)⟩,
   ⟨some 15, .len .s (.t 14), some (12, false)⟩,
   ⟨some 16, .bin .gtr (.t 15) (.c (.int .i64 100)), some (12, false)⟩,
   ⟨some 17, .pick (.t 12) (.c (.bool true)) (.t 16), none⟩] none) (
 .cond (.t 17) (
  .seq (
  .region [⟨some 18, .call 8 [], none⟩,
    ⟨some 4, .mov (.t 18), none⟩] none) (
  .ret)) (
  .skip))) (
 .seq (
 .region [⟨some 20, .load true 3 [.int .i64, .slice 3, .slice 3] (.t 2), none⟩,
   ⟨some 21, .faddr 0 (.t 3), none⟩,
   ⟨some 22, .load false 1 [.int .i64] (.t 21), none⟩,
   ⟨some 23, .faddr 1 (.t 3), none⟩,
   ⟨some 24, .load false 1 [.int .i64] (.t 23), none⟩,
   ⟨some 25, .faddr 2 (.t 3), none⟩,
   ⟨some 26, .load false 1 [.str] (.t 25), none⟩,
   ⟨some 27, .call 13 [.t 20, .t 22, .t 24, .t 26], none⟩,
   ⟨some 19, .mov (.t 27), none⟩,
   ⟨some 28, .ext (.t 19) 0, none⟩,
   ⟨some 29, .ext (.t 19) 1, none⟩,
   ⟨some 5, .alloc (.agg [.int .i64 0, .nils 3, .nils 3]), none⟩,
   ⟨none, .store 3 (.t 5) (.t 28), none⟩,
   ⟨some 6, .mov (.t 29), none⟩] none) (
 .seq (
 .region [⟨some 31, .load true 3 [.int .i64, .slice 3, .slice 3] (.t 2), none⟩,
   ⟨some 32, .faddr 0 (.t 3), none⟩,
   ⟨some 33, .load false 1 [.int .i64] (.t 32), none⟩,
   ⟨some 34, .faddr 1 (.t 3), none⟩,
   ⟨some 35, .load false 1 [.int .i64] (.t 34), none⟩,
   ⟨some 36, .faddr 2 (.t 3), none⟩,
   ⟨some 37, .load false 1 [.str] (.t 36), none⟩,
   ⟨some 38, .call 14 [.t 31, .t 33, .t 35, .t 37], none⟩,
   ⟨some 30, .mov (.t 38), none⟩,
   ⟨some 39, .ext (.t 30) 0, none⟩,
   ⟨some 40, .ext (.t 30) 1, none⟩,
   ⟨some 7, .alloc (.agg [.int .i64 0, .nils 3, .nils 3]), none⟩,
   ⟨none, .store 3 (.t 7) (.t 39), none⟩,
   ⟨some 8, .mov (.t 40), none⟩] none) (
 .seq (
 .region [⟨some 41, .load true 3 [.int .i64, .slice 3, .slice 3] (.t 5), none⟩,
   ⟨some 42, .load true 3 [.int .i64, .slice 3, .slice 3] (.t 7), none⟩,
   ⟨some 43, .call 15 [.t 41, .t 42], none⟩,
   ⟨some 44, .mov (.t 43), none⟩,
   ⟨some 45, .mov (.t 6), some (44, true)⟩,
   ⟨some 46, .mov (.t 8), some (44, true)⟩,
   ⟨some 47, .bin .eql (.t 45) (.t 46), some (44, true)⟩,
   ⟨some 48, .pick (.t 44) (.t 47) (.c (.bool false)), none⟩,
   ⟨some 49, .mov (.t 48), none⟩,
   ⟨some 50, .call 8 [], some (49, true)⟩,
   ⟨some 51, .pick (.t 49) (.t 50) (.c (.bool false)), none⟩,
   ⟨some 4, .mov (.t 51), none⟩] none) (
 .ret)))))⟩
def K4 : List (List Nat) := []
def Hn4 : List (Nat × Nat) := []

/-- corebank/corebanklaw53.StandinEntries -/
def F5 : Fun := ⟨3, 76, [(6, none)],
 .seq (
 .region [⟨some 3, .box 22 (.t 0), none⟩,
   ⟨some 4, .box 3 (.t 1), none⟩,
   ⟨some 6, .mov (.c (.bool false)), none⟩] none) (
 .seq (
 .seq (
 .region [⟨some 12, .faddr 18 (.t 3), none⟩,
   ⟨some 13, .load false 1 [.slice 7] (.t 12), none⟩,
   ⟨some 14, .len .l (.t 13), none⟩,
   ⟨some 15, .bin .gtr (.t 14) (.c (.int .i64 12)), none⟩,
   ⟨some 16, .mov (.t 15), none⟩,
   ⟨some 17, .faddr 17 (.t 3), some (16, false)⟩,
   ⟨some 18, .load false 1 [.slice 19] (.t 17), some (16, false)⟩,
   ⟨some 19, .len .l (.t 18), some (16, false)⟩,
   ⟨some 20, .bin .gtr (.t 19) (.c (.int .i64 30)), some (16, false)⟩,
   ⟨some 21, .pick (.t 16) (.c (.bool true)) (.t 20), none⟩,
   ⟨some 22, .mov (.t 21), none⟩,
   ⟨some 23, .load true 3 [.int .i64, .slice 3, .slice 3] (.t 4), some (22, false)⟩,
   ⟨some 24, .call 7 [.t 23], some (22, false)⟩,
   ⟨some 25, .un .not (.t 24), some (22, false)⟩,
   ⟨some 26, .pick (.t 22) (.c (.bool true)) (.t 25), none⟩] none) (
 .cond (.t 26) (
  .seq (
  .region [⟨some 27, .call 8 [], none⟩,
    ⟨some 6, .mov (.t 27), none⟩] none) (
  .ret)) (
  .skip))) (
 .seq (
 .region [⟨some 29, .load true 22 [.slice 2, .slice 3, .slice 4, .int .i64, .int .i64, .int .i64, .int .i64, .int .i64, .int .i64, .int .i64, .int .i64, .int .i64, .int .i64, .int .i64, .int .i64, .int .i64, .int .i64, .slice 19, .slice 7, .slice 10, .slice 6, .slice 7] (.t 3), none⟩,
   ⟨some 30, .load true 3 [.int .i64, .slice 3, .slice 3] (.t 4), none⟩,
   ⟨some 31, .mov (.t 2), none⟩,
   ⟨some 32, .call 16 [.t 29, .t 30, .t 31], none⟩,
   ⟨some 28, .mov (.t 32), none⟩,
   ⟨some 33, .ext (.t 28) 0, none⟩,
   ⟨some 34, .ext (.t 28) 1, none⟩,
   ⟨some 7, .mov (.t 33), none⟩,
   ⟨some 8, .mov (.t 34), none⟩] none) (
 .seq (
 .region [⟨some 36, .load true 22 [.slice 2, .slice 3, .slice 4, .int .i64, .int .i64, .int .i64, .int .i64, .int .i64, .int .i64, .int .i64, .int .i64, .int .i64, .int .i64, .int .i64, .int .i64, .int .i64, .int .i64, .slice 19, .slice 7, .slice 10, .slice 6, .slice 7] (.t 3), none⟩,
   ⟨some 37, .load true 3 [.int .i64, .slice 3, .slice 3] (.t 4), none⟩,
   ⟨some 38, .mov (.t 2), none⟩,
   ⟨some 39, .call 17 [.t 36, .t 37, .t 38], none⟩,
   ⟨some 35, .mov (.t 39), none⟩,
   ⟨some 40, .ext (.t 35) 0, none⟩,
   ⟨some 41, .ext (.t 35) 1, none⟩,
   ⟨some 9, .mov (.t 40), none⟩,
   ⟨some 10, .mov (.t 41), none⟩] none) (
 .seq (
 .seq (
 .region [⟨some 42, .mov (.t 7), none⟩,
   ⟨some 43, .mov (.t 9), none⟩,
   ⟨some 44, .call 18 [.t 42, .t 43], none⟩,
   ⟨some 45, .un .not (.t 44), none⟩,
   ⟨some 46, .mov (.t 45), none⟩,
   ⟨some 47, .mov (.t 8), some (46, false)⟩,
   ⟨some 48, .mov (.t 10), some (46, false)⟩,
   ⟨some 49, .bin .neq (.t 47) (.t 48), some (46, false)⟩,
   ⟨some 50, .pick (.t 46) (.c (.bool true)) (.t 49), none⟩] none) (
 .cond (.t 50) (
  .seq (
  .region [⟨some 6, .mov (.c (.bool false)), none⟩] none) (
  .ret)) (
  .skip))) (
 .seq (
 .seq (
 .region [⟨some 11, .mov (.c (.int .i64 0)), none⟩] none) (
 .block 0 (
  .loop [1000500, 7, 11, 2000000, 6] (
   .seq (
   .seq (
   .region [⟨some 51, .mov (.t 11), none⟩,
     ⟨some 52, .mov (.t 7), none⟩,
     ⟨some 53, .len .l (.t 52), none⟩,
     ⟨some 54, .bin .lss (.t 51) (.t 53), none⟩] none) (
   .cond (.t 54) (
    .skip) (
    .exit 0))) (
   .seq (
   .block 1 (
    .seq (
    .region [⟨some 57, .mov (.t 7), none⟩,
      ⟨some 58, .mov (.t 11), none⟩,
      ⟨some 59, .iaddr 10 [.int .i64, .int .i64, .int .i64, .int .i64, .int .i64, .int .i64, .str, .str, .slice 3, .int .u64] (.t 57) (.t 58), none⟩,
      ⟨some 60, .faddr 8 (.t 59), none⟩,
      ⟨some 61, .load false 1 [.slice 3] (.t 60), none⟩,
      ⟨some 62, .iaddr 3 [.int .i64, .int .i64, .str] (.t 61) (.c (.int .i64 0)), none⟩,
      ⟨some 63, .faddr 1 (.t 62), none⟩,
      ⟨some 64, .load false 1 [.int .i64] (.t 63), none⟩,
      ⟨some 65, .mov (.t 7), none⟩,
      ⟨some 66, .mov (.t 11), none⟩,
      ⟨some 67, .iaddr 10 [.int .i64, .int .i64, .int .i64, .int .i64, .int .i64, .int .i64, .str, .str, .slice 3, .int .u64] (.t 65) (.t 66), none⟩,
      ⟨some 68, .faddr 8 (.t 67), none⟩,
      ⟨some 69, .load false 1 [.slice 3] (.t 68), none⟩,
      ⟨some 70, .iaddr 3 [.int .i64, .int .i64, .str] (.t 69) (.c (.int .i64 1)), none⟩,
      ⟨some 71, .faddr 1 (.t 70), none⟩,
      ⟨some 72, .load false 1 [.int .i64] (.t 71), none⟩,
      ⟨some 73, .bin .add (.t 64) (.t 72), none⟩,
      ⟨some 74, .bin .neq (.t 73) (.c (.int .i64 0)), none⟩] (some [[], [], [0, 1], [2, 0, 1], [3, 2, 0, 1], [4, 3, 2, 0, 1], [5, 4, 3, 2, 0, 1], [6, 5, 4, 3, 2, 0, 1], [], [], [8, 9], [10, 8, 9], [11, 10, 8, 9], [12, 11, 10, 8, 9], [13, 12, 11, 10, 8, 9], [14, 13, 12, 11, 10, 8, 9], [7, 6, 5, 4, 3, 2, 0, 1, 15, 14, 13, 12, 11, 10, 8, 9], [16, 7, 6, 5, 4, 3, 2, 0, 1, 15, 14, 13, 12, 11, 10, 8, 9]])) (
    .cond (.t 74) (
     .seq (
     .region [⟨some 6, .mov (.c (.bool false)), none⟩] none) (
     .ret)) (
     .skip)))) (
   .region [⟨some 55, .mov (.t 11), none⟩,
     ⟨some 56, .bin .add (.t 55) (.c (.int .i64 1)), none⟩,
     ⟨some 11, .mov (.t 56), none⟩] none)))))) (
 .seq (
 .region [⟨some 75, .call 8 [], none⟩,
   ⟨some 6, .mov (.t 75), none⟩] none) (
 .ret)))))))⟩
def K5 : List (List Nat) := [[1000500, 7, 11, 2000000, 6]]
def Hn5 : List (Nat × Nat) := []

/-- corebank/corebanklaw53.StandinLimits -/
def F6 : Fun := ⟨2, 209, [(4, none)],
 .seq (
 .region [⟨some 2, .box 3 (.t 0), none⟩,
   ⟨some 4, .mov (.c (.bool false)), none⟩] none) (
 .seq (
 .seq (
 .region [⟨some 14, .load true 3 [.int .i64, .slice 3, .slice 3] (.t 2), none⟩,
   ⟨some 15, .call 7 [.t 14], none⟩,
   ⟨some 16, .un .not (.t 15), none⟩,
   ⟨some 17, .mov (.t 16), none⟩,
   ⟨some 18, .mov (.t 1), some (17, false)⟩,
   ⟨some 19, .len .l (.t 18), some (17, false)⟩,
   ⟨some 20, .bin .gtr (.t 19) (.c (.int .i64 40)), some (17, false)⟩,
   ⟨some 21, .pick (.t 17) (.c (.bool true)) (.t 20), none⟩,
   ⟨some 22, .mov (.t 21), none⟩,
   ⟨some 23, .load true 3 [.int .i64, .slice 3, .slice 3] (.t 2), some (22, false)⟩,
   ⟨some 24, .call 9 [.t 23], some (22, false)⟩,
   ⟨some 25, .bin .neq (.t 24) (.c (.int .i64 0)), some (22, false)⟩,
   ⟨some 26, .pick (.t 22) (.c (.bool true)) (.t 25), none⟩,
   ⟨some 27, .mov (.t 26), none⟩,
   ⟨some 28, .load true 3 [.int .i64, .slice 3, .slice 3] (.t 2), some (27, false)⟩,
   ⟨some 29, .call 10 [.t 28], some (27, false)⟩,
   ⟨some 30, .bin .neq (.t 29) (.c (.int .i64 0)), some (27, false)⟩,
   ⟨some 31, .pick (.t 27) (.c (.bool true)) (.t 30), none⟩] none) (
 .cond (.t 31) (
  .seq (
  .region [⟨some 32, .call 8 [], none⟩,
    ⟨some 4, .mov (.t 32), none⟩] none) (
  .ret)) (
  .skip))) (
 .seq (
 .region [⟨some 33, .load true 3 [.int .i64, .slice 3, .slice 3] (.t 2), none⟩,
   ⟨some 5, .alloc (.agg [.int .i64 0, .nils 3, .nils 3]), none⟩,
   ⟨none, .store 3 (.t 5) (.t 33), none⟩] none) (
 .seq (
 .seq (
 .region [⟨some 6, .mov (.c (.int .i64 0)), none⟩] none) (
 .block 0 (
  .loop [1000600, 1, 2, 5, 6, 2000000, 2, 4, 5] (
   .seq (
   .seq (
   .region [⟨some 34, .mov (.t 6), none⟩,
     ⟨some 35, .mov (.t 1), none⟩,
     ⟨some 36, .len .l (.t 35), none⟩,
     ⟨some 37, .bin .lss (.t 34) (.t 36), none⟩] none) (
   .cond (.t 37) (
    .skip) (
    .exit 0))) (
   .seq (
   .block 1 (
    .seq (
    .seq (
    .region [⟨some 40, .mov (.t 1), none⟩,
      ⟨some 41, .mov (.t 6), none⟩,
      ⟨some 42, .iaddr 3 [.int .i64, .int .i64, .str] (.t 40) (.t 41), none⟩,
      ⟨some 43, .faddr 2 (.t 42), none⟩,
      ⟨some 44, .load false 1 [.str] (.t 43), none⟩,
      ⟨some 45, .len .s (.t 44), none⟩,
      ⟨some 46, .bin .gtr (.t 45) (.c (.int .i64 100)), none⟩] none) (
    .cond (.t 46) (
     .seq (
     .region [⟨some 47, .call 8 [], none⟩,
       ⟨some 4, .mov (.t 47), none⟩] none) (
     .ret)) (
     .skip))) (
    .seq (
    .region [⟨some 49, .load true 3 [.int .i64, .slice 3, .slice 3] (.t 2), none⟩,
      ⟨some 50, .mov (.t 1), none⟩,
      ⟨some 51, .mov (.t 6), none⟩,
      ⟨some 52, .iaddr 3 [.int .i64, .int .i64, .str] (.t 50) (.t 51), none⟩,
      ⟨some 53, .faddr 0 (.t 52), none⟩,
      ⟨some 54, .load false 1 [.int .i64] (.t 53), none⟩,
      ⟨some 55, .mov (.t 1), none⟩,
      ⟨some 56, .mov (.t 6), none⟩,
      ⟨some 57, .iaddr 3 [.int .i64, .int .i64, .str] (.t 55) (.t 56), none⟩,
      ⟨some 58, .faddr 1 (.t 57), none⟩,
      ⟨some 59, .load false 1 [.int .i64] (.t 58), none⟩,
      ⟨some 60, .mov (.t 1), none⟩,
      ⟨some 61, .mov (.t 6), none⟩,
      ⟨some 62, .iaddr 3 [.int .i64, .int .i64, .str] (.t 60) (.t 61), none⟩,
      ⟨some 63, .faddr 2 (.t 62), none⟩,
      ⟨some 64, .load false 1 [.str] (.t 63), none⟩,
      ⟨some 65, .call 13 [.t 49, .t 54, .t 59, .t 64], none⟩,
      ⟨some 48, .mov (.t 65), none⟩,
      ⟨some 66, .ext (.t 48) 0, none⟩,
      ⟨some 67, .ext (.t 48) 1, none⟩,
      ⟨some 7, .alloc (.agg [.int .i64 0, .nils 3, .nils 3]), none⟩,
      ⟨none, .store 3 (.t 7) (.t 66), none⟩,
      ⟨some 8, .mov (.t 67), none⟩] (some [[], [], [], [1, 2], [3, 1, 2], [4, 3, 1, 2], [], [], [6, 7], [8, 6, 7], [9, 8, 6, 7], [], [], [11, 12], [13, 11, 12], [14, 13, 11, 12], [0, 5, 4, 3, 1, 2, 10, 9, 8, 6, 7, 15, 14, 13, 11, 12], [16, 0, 5, 4, 3, 1, 2, 10, 9, 8, 6, 7, 15, 14, 13, 11, 12], [17, 16, 0, 5, 4, 3, 1, 2, 10, 9, 8, 6, 7, 15, 14, 13, 11, 12], [17, 16, 0, 5, 4, 3, 1, 2, 10, 9, 8, 6, 7, 15, 14, 13, 11, 12], [], [18, 17, 16, 0, 5, 4, 3, 1, 2, 10, 9, 8, 6, 7, 15, 14, 13, 11, 12, 20], [19, 21, 18, 17, 16, 0, 5, 4, 3, 1, 2, 10, 9, 8, 6, 7, 15, 14, 13, 11, 12, 20]])) (
    .seq (
    .seq (
    .region [⟨some 68, .mov (.t 8), none⟩,
      ⟨some 69, .bin .neq (.t 68) (.c (.int .i64 0)), none⟩] none) (
    .cond (.t 69) (
     .seq (
     .seq (
     .region [⟨some 70, .load true 3 [.int .i64, .slice 3, .slice 3] (.t 7), none⟩,
       ⟨some 71, .build [.int .i64 0, .nils 3, .nils 3] [], none⟩,
       ⟨some 72, .call 15 [.t 70, .t 71], none⟩,
       ⟨some 73, .un .not (.t 72), none⟩] none) (
     .cond (.t 73) (
      .seq (
      .region [⟨some 4, .mov (.c (.bool false)), none⟩] none) (
      .ret)) (
      .skip))) (
     .exit 1)) (
     .skip))) (
    .seq (
    .region [⟨some 74, .faddr 2 (.t 2), none⟩,
      ⟨some 75, .load false 1 [.slice 3] (.t 74), none⟩,
      ⟨some 76, .len .l (.t 75), none⟩,
      ⟨some 9, .mov (.t 76), none⟩] none) (
    .seq (
    .seq (
    .region [⟨some 77, .faddr 2 (.t 7), none⟩,
      ⟨some 78, .load false 1 [.slice 3] (.t 77), none⟩,
      ⟨some 79, .len .l (.t 78), none⟩,
      ⟨some 80, .mov (.t 9), none⟩,
      ⟨some 81, .bin .add (.t 80) (.c (.int .i64 1)), none⟩,
      ⟨some 82, .bin .neq (.t 79) (.t 81), none⟩,
      ⟨some 83, .mov (.t 82), none⟩,
      ⟨some 84, .faddr 2 (.t 7), some (83, false)⟩,
      ⟨some 85, .load false 1 [.slice 3] (.t 84), some (83, false)⟩,
      ⟨some 86, .mov (.t 9), some (83, false)⟩,
      ⟨some 87, .iaddr 3 [.int .i64, .int .i64, .str] (.t 85) (.t 86), some (83, false)⟩,
      ⟨some 88, .load true 3 [.int .i64, .int .i64, .str] (.t 87), some (83, false)⟩,
      ⟨some 89, .mov (.t 1), some (83, false)⟩,
      ⟨some 90, .mov (.t 6), some (83, false)⟩,
      ⟨some 91, .iaddr 3 [.int .i64, .int .i64, .str] (.t 89) (.t 90), some (83, false)⟩,
      ⟨some 92, .load true 3 [.int .i64, .int .i64, .str] (.t 91), some (83, false)⟩,
      ⟨some 93, .eqs (true, [.i, .i, .s]) true (.t 88) (.t 92), some (83, false)⟩,
      ⟨some 94, .pick (.t 83) (.c (.bool true)) (.t 93), none⟩,
      ⟨some 95, .mov (.t 94), none⟩,
      ⟨some 96, .faddr 0 (.t 7), some (95, false)⟩,
      ⟨some 97, .load false 1 [.int .i64] (.t 96), some (95, false)⟩,
      ⟨some 98, .faddr 0 (.t 2), some (95, false)⟩,
      ⟨some 99, .load false 1 [.int .i64] (.t 98), some (95, false)⟩,
      ⟨some 100, .bin .neq (.t 97) (.t 99), some (95, false)⟩,
      ⟨some 101, .pick (.t 95) (.c (.bool true)) (.t 100), none⟩,
      ⟨some 102, .mov (.t 101), none⟩,
      ⟨some 103, .faddr 1 (.t 7), some (102, false)⟩,
      ⟨some 104, .load false 1 [.slice 3] (.t 103), some (102, false)⟩,
      ⟨some 105, .len .l (.t 104), some (102, false)⟩,
      ⟨some 106, .faddr 1 (.t 2), some (102, false)⟩,
      ⟨some 107, .load false 1 [.slice 3] (.t 106), some (102, false)⟩,
      ⟨some 108, .len .l (.t 107), some (102, false)⟩,
      ⟨some 109, .bin .neq (.t 105) (.t 108), some (102, false)⟩,
      ⟨some 110, .pick (.t 102) (.c (.bool true)) (.t 109), none⟩] (some [[], [0], [1, 0], [], [3], [2, 1, 0, 4, 3], [5, 2, 1, 0, 4, 3], [6, 5, 2, 1, 0, 4, 3], [7, 6, 5, 2, 1, 0, 4, 3], [6, 5, 2, 1, 0, 4, 3], [8, 7, 9, 6, 5, 2, 1, 0, 4, 3], [10, 8, 7, 9, 6, 5, 2, 1, 0, 4, 3], [6, 5, 2, 1, 0, 4, 3], [6, 5, 2, 1, 0, 4, 3], [12, 13, 6, 5, 2, 1, 0, 4, 3], [14, 12, 13, 6, 5, 2, 1, 0, 4, 3], [11, 10, 8, 7, 9, 15, 14, 12, 13, 6, 5, 2, 1, 0, 4, 3], [16, 11, 10, 8, 7, 9, 15, 14, 12, 13, 6, 5, 2, 1, 0, 4, 3], [17, 16, 11, 10, 8, 7, 9, 15, 14, 12, 13, 6, 5, 2, 1, 0, 4, 3], [18, 17, 16, 11, 10, 8, 7, 9, 15, 14, 12, 13, 6, 5, 2, 1, 0, 4, 3], [19, 18, 17, 16, 11, 10, 8, 7, 9, 15, 14, 12, 13, 6, 5, 2, 1, 0, 4, 3], [18, 17, 16, 11, 10, 8, 7, 9, 15, 14, 12, 13, 6, 5, 2, 1, 0, 4, 3], [21, 18, 17, 16, 11, 10, 8, 7, 9, 15, 14, 12, 13, 6, 5, 2, 1, 0, 4, 3], [20, 19, 22, 21, 18, 17, 16, 11, 10, 8, 7, 9, 15, 14, 12, 13, 6, 5, 2, 1, 0, 4, 3], [23, 20, 19, 22, 21, 18, 17, 16, 11, 10, 8, 7, 9, 15, 14, 12, 13, 6, 5, 2, 1, 0, 4, 3], [24, 23, 20, 19, 22, 21, 18, 17, 16, 11, 10, 8, 7, 9, 15, 14, 12, 13, 6, 5, 2, 1, 0, 4, 3], [25, 24, 23, 20, 19, 22, 21, 18, 17, 16, 11, 10, 8, 7, 9, 15, 14, 12, 13, 6, 5, 2, 1, 0, 4, 3], [26, 25, 24, 23, 20, 19, 22, 21, 18, 17, 16, 11, 10, 8, 7, 9, 15, 14, 12, 13, 6, 5, 2, 1, 0, 4, 3], [27, 26, 25, 24, 23, 20, 19, 22, 21, 18, 17, 16, 11, 10, 8, 7, 9, 15, 14, 12, 13, 6, 5, 2, 1, 0, 4, 3], [25, 24, 23, 20, 19, 22, 21, 18, 17, 16, 11, 10, 8, 7, 9, 15, 14, 12, 13, 6, 5, 2, 1, 0, 4, 3], [29, 25, 24, 23, 20, 19, 22, 21, 18, 17, 16, 11, 10, 8, 7, 9, 15, 14, 12, 13, 6, 5, 2, 1, 0, 4, 3], [30, 29, 25, 24, 23, 20, 19, 22, 21, 18, 17, 16, 11, 10, 8, 7, 9, 15, 14, 12, 13, 6, 5, 2, 1, 0, 4, 3], [28, 27, 26, 31, 30, 29, 25, 24, 23, 20, 19, 22, 21, 18, 17, 16, 11, 10, 8, 7, 9, 15, 14, 12, 13, 6, 5, 2, 1, 0, 4, 3], [32, 28, 27, 26, 31, 30, 29, 25, 24, 23, 20, 19, 22, 21, 18, 17, 16, 11, 10, 8, 7, 9, 15, 14, 12, 13, 6, 5, 2, 1, 0, 4, 3]])) (
    .cond (.t 110) (
     .seq (
     .region [⟨some 4, .mov (.c (.bool false)), none⟩] none) (
     .ret)) (
     .skip))) (
    .region [⟨some 111, .load true 3 [.int .i64, .slice 3, .slice 3] (.t 7), none⟩,
      ⟨none, .store 3 (.t 2) (.t 111), none⟩] none))))))) (
   .region [⟨some 38, .mov (.t 6), none⟩,
     ⟨some 39, .bin .add (.t 38) (.c (.int .i64 1)), none⟩,
     ⟨some 6, .mov (.t 39), none⟩] none)))))) (
 .seq (
 .seq (
 .region [⟨some 10, .mov (.c (.int .i64 0)), none⟩] none) (
 .block 2 (
  .loop [1000601, 2, 5, 10, 2000000, 2, 4] (
   .seq (
   .seq (
   .region [⟨some 112, .mov (.t 10), none⟩,
     ⟨some 113, .faddr 1 (.t 5), none⟩,
     ⟨some 114, .load false 1 [.slice 3] (.t 113), none⟩,
     ⟨some 115, .len .l (.t 114), none⟩,
     ⟨some 116, .bin .lss (.t 112) (.t 115), none⟩] none) (
   .cond (.t 116) (
    .skip) (
    .exit 2))) (
   .seq (
   .block 3 (
    .seq (
    .region [⟨some 119, .faddr 1 (.t 2), none⟩,
      ⟨some 120, .load false 1 [.slice 3] (.t 119), none⟩,
      ⟨some 121, .mov (.t 10), none⟩,
      ⟨some 122, .iaddr 3 [.int .i64, .int .i64, .int .i64] (.t 120) (.t 121), none⟩,
      ⟨some 123, .load true 3 [.int .i64, .int .i64, .int .i64] (.t 122), none⟩,
      ⟨some 11, .alloc (.agg [.int .i64 0, .int .i64 0, .int .i64 0]), none⟩,
      ⟨none, .store 3 (.t 11) (.t 123), none⟩] none) (
    .seq (
    .region [⟨some 12, .mov (.c (.int .i64 0)), none⟩] none) (
    .seq (
    .seq (
    .region [⟨some 13, .mov (.c (.int .i64 0)), none⟩] none) (
    .block 4 (
     .loop [1000602, 2, 5, 10, 11, 12, 13, 2000000, 2, 5, 10, 11, 12] (
      .seq (
      .seq (
      .region [⟨some 124, .mov (.t 13), none⟩,
        ⟨some 125, .faddr 2 (.t 2), none⟩,
        ⟨some 126, .load false 1 [.slice 3] (.t 125), none⟩,
        ⟨some 127, .len .l (.t 126), none⟩,
        ⟨some 128, .bin .lss (.t 124) (.t 127), none⟩] none) (
      .cond (.t 128) (
       .skip) (
       .exit 4))) (
      .seq (
      .block 5 (
       .seq (
       .region [⟨some 131, .faddr 2 (.t 2), none⟩,
         ⟨some 132, .load false 1 [.slice 3] (.t 131), none⟩,
         ⟨some 133, .mov (.t 13), none⟩,
         ⟨some 134, .iaddr 3 [.int .i64, .int .i64, .str] (.t 132) (.t 133), none⟩,
         ⟨some 135, .faddr 0 (.t 134), none⟩,
         ⟨some 136, .load false 1 [.int .i64] (.t 135), none⟩,
         ⟨some 137, .faddr 0 (.t 11), none⟩,
         ⟨some 138, .load false 1 [.int .i64] (.t 137), none⟩,
         ⟨some 139, .bin .eql (.t 136) (.t 138), none⟩,
         ⟨some 140, .mov (.t 139), none⟩,
         ⟨some 141, .faddr 2 (.t 2), some (140, true)⟩,
         ⟨some 142, .load false 1 [.slice 3] (.t 141), some (140, true)⟩,
         ⟨some 143, .mov (.t 13), some (140, true)⟩,
         ⟨some 144, .iaddr 3 [.int .i64, .int .i64, .str] (.t 142) (.t 143), some (140, true)⟩,
         ⟨some 145, .faddr 1 (.t 144), some (140, true)⟩,
         ⟨some 146, .load false 1 [.int .i64] (.t 145), some (140, true)⟩,
         ⟨some 147, .bin .lss (.t 146) (.c (.int .i64 0)), some (140, true)⟩,
         ⟨some 148, .pick (.t 140) (.t 147) (.c (.bool false)), none⟩] (some [[], [0], [], [1, 0, 2], [3, 1, 0, 2], [4, 3, 1, 0, 2], [], [6], [5, 4, 3, 1, 0, 2, 7, 6], [8, 5, 4, 3, 1, 0, 2, 7, 6], [9, 8, 5, 4, 3, 1, 0, 2, 7, 6], [10, 9, 8, 5, 4, 3, 1, 0, 2, 7, 6], [9, 8, 5, 4, 3, 1, 0, 2, 7, 6], [11, 10, 12, 9, 8, 5, 4, 3, 1, 0, 2, 7, 6], [13, 11, 10, 12, 9, 8, 5, 4, 3, 1, 0, 2, 7, 6], [14, 13, 11, 10, 12, 9, 8, 5, 4, 3, 1, 0, 2, 7, 6], [15, 14, 13, 11, 10, 12, 9, 8, 5, 4, 3, 1, 0, 2, 7, 6], [16, 15, 14, 13, 11, 10, 12, 9, 8, 5, 4, 3, 1, 0, 2, 7, 6]])) (
       .cond (.t 148) (
        .region [⟨some 149, .mov (.t 12), none⟩,
          ⟨some 150, .faddr 2 (.t 2), none⟩,
          ⟨some 151, .load false 1 [.slice 3] (.t 150), none⟩,
          ⟨some 152, .mov (.t 13), none⟩,
          ⟨some 153, .iaddr 3 [.int .i64, .int .i64, .str] (.t 151) (.t 152), none⟩,
          ⟨some 154, .faddr 1 (.t 153), none⟩,
          ⟨some 155, .load false 1 [.int .i64] (.t 154), none⟩,
          ⟨some 156, .bin .sub (.t 149) (.t 155), none⟩,
          ⟨some 12, .mov (.t 156), none⟩] none) (
        .skip)))) (
      .region [⟨some 129, .mov (.t 13), none⟩,
        ⟨some 130, .bin .add (.t 129) (.c (.int .i64 1)), none⟩,
        ⟨some 13, .mov (.t 130), none⟩] none)))))) (
    .seq (
    .region [⟨some 157, .faddr 0 (.t 11), none⟩,
      ⟨some 158, .load false 1 [.int .i64] (.t 157), none⟩,
      ⟨some 159, .faddr 1 (.t 5), none⟩,
      ⟨some 160, .load false 1 [.slice 3] (.t 159), none⟩,
      ⟨some 161, .mov (.t 10), none⟩,
      ⟨some 162, .iaddr 3 [.int .i64, .int .i64, .int .i64] (.t 160) (.t 161), none⟩,
      ⟨some 163, .faddr 0 (.t 162), none⟩,
      ⟨some 164, .load false 1 [.int .i64] (.t 163), none⟩,
      ⟨some 165, .bin .neq (.t 158) (.t 164), none⟩,
      ⟨some 166, .mov (.t 165), none⟩,
      ⟨some 167, .faddr 1 (.t 11), some (166, false)⟩,
      ⟨some 168, .load false 1 [.int .i64] (.t 167), some (166, false)⟩,
      ⟨some 169, .faddr 1 (.t 5), some (166, false)⟩,
      ⟨some 170, .load false 1 [.slice 3] (.t 169), some (166, false)⟩,
      ⟨some 171, .mov (.t 10), some (166, false)⟩,
      ⟨some 172, .iaddr 3 [.int .i64, .int .i64, .int .i64] (.t 170) (.t 171), some (166, false)⟩,
      ⟨some 173, .faddr 1 (.t 172), some (166, false)⟩,
      ⟨some 174, .load false 1 [.int .i64] (.t 173), some (166, false)⟩,
      ⟨some 175, .bin .neq (.t 168) (.t 174), some (166, false)⟩,
      ⟨some 176, .pick (.t 166) (.c (.bool true)) (.t 175), none⟩,
      ⟨some 177, .mov (.t 176), none⟩,
      ⟨some 178, .faddr 2 (.t 11), some (177, false)⟩,
      ⟨some 179, .load false 1 [.int .i64] (.t 178), some (177, false)⟩,
      ⟨some 180, .mov (.t 12), some (177, false)⟩,
      ⟨some 181, .bin .neq (.t 179) (.t 180), some (177, false)⟩,
      ⟨some 182, .pick (.t 177) (.c (.bool true)) (.t 181), none⟩,
      ⟨some 183, .mov (.t 182), none⟩,
      ⟨some 184, .mov (.t 12), some (183, false)⟩,
      ⟨some 185, .faddr 1 (.t 11), some (183, false)⟩,
      ⟨some 186, .load false 1 [.int .i64] (.t 185), some (183, false)⟩,
      ⟨some 187, .bin .gtr (.t 184) (.t 186), some (183, false)⟩,
      ⟨some 188, .pick (.t 183) (.c (.bool true)) (.t 187), none⟩,
      ⟨some 189, .mov (.t 188), none⟩,
      ⟨some 190, .mov (.t 12), some (189, false)⟩,
      ⟨some 191, .faddr 0 (.t 2), some (189, false)⟩,
      ⟨some 192, .load false 1 [.int .i64] (.t 191), some (189, false)⟩,
      ⟨some 193, .bin .gtr (.t 190) (.t 192), some (189, false)⟩,
      ⟨some 194, .pick (.t 189) (.c (.bool true)) (.t 193), none⟩,
      ⟨some 195, .mov (.t 194), none⟩,
      ⟨some 196, .load true 3 [.int .i64, .slice 3, .slice 3] (.t 2), some (195, false)⟩,
      ⟨some 197, .faddr 0 (.t 11), some (195, false)⟩,
      ⟨some 198, .load false 1 [.int .i64] (.t 197), some (195, false)⟩,
      ⟨some 199, .call 11 [.t 196, .t 198], some (195, false)⟩,
      ⟨some 200, .mov (.t 12), some (195, false)⟩,
      ⟨some 201, .bin .neq (.t 199) (.t 200), some (195, false)⟩,
      ⟨some 202, .pick (.t 195) (.c (.bool true)) (.t 201), none⟩] (some [[], [0], [], [2], [], [3, 2, 4], [5, 3, 2, 4], [6, 5, 3, 2, 4], [1, 0, 7, 6, 5, 3, 2, 4], [8, 1, 0, 7, 6, 5, 3, 2, 4], [9, 8, 1, 0, 7, 6, 5, 3, 2, 4], [10, 9, 8, 1, 0, 7, 6, 5, 3, 2, 4], [9, 8, 1, 0, 7, 6, 5, 3, 2, 4], [12, 9, 8, 1, 0, 7, 6, 5, 3, 2, 4], [9, 8, 1, 0, 7, 6, 5, 3, 2, 4], [13, 12, 14, 9, 8, 1, 0, 7, 6, 5, 3, 2, 4], [15, 13, 12, 14, 9, 8, 1, 0, 7, 6, 5, 3, 2, 4], [16, 15, 13, 12, 14, 9, 8, 1, 0, 7, 6, 5, 3, 2, 4], [11, 10, 17, 16, 15, 13, 12, 14, 9, 8, 1, 0, 7, 6, 5, 3, 2, 4], [18, 11, 10, 17, 16, 15, 13, 12, 14, 9, 8, 1, 0, 7, 6, 5, 3, 2, 4], [19, 18, 11, 10, 17, 16, 15, 13, 12, 14, 9, 8, 1, 0, 7, 6, 5, 3, 2, 4], [20, 19, 18, 11, 10, 17, 16, 15, 13, 12, 14, 9, 8, 1, 0, 7, 6, 5, 3, 2, 4], [21, 20, 19, 18, 11, 10, 17, 16, 15, 13, 12, 14, 9, 8, 1, 0, 7, 6, 5, 3, 2, 4], [20, 19, 18, 11, 10, 17, 16, 15, 13, 12, 14, 9, 8, 1, 0, 7, 6, 5, 3, 2, 4], [22, 21, 23, 20, 19, 18, 11, 10, 17, 16, 15, 13, 12, 14, 9, 8, 1, 0, 7, 6, 5, 3, 2, 4], [24, 22, 21, 23, 20, 19, 18, 11, 10, 17, 16, 15, 13, 12, 14, 9, 8, 1, 0, 7, 6, 5, 3, 2, 4], [25, 24, 22, 21, 23, 20, 19, 18, 11, 10, 17, 16, 15, 13, 12, 14, 9, 8, 1, 0, 7, 6, 5, 3, 2, 4], [26, 25, 24, 22, 21, 23, 20, 19, 18, 11, 10, 17, 16, 15, 13, 12, 14, 9, 8, 1, 0, 7, 6, 5, 3, 2, 4], [26, 25, 24, 22, 21, 23, 20, 19, 18, 11, 10, 17, 16, 15, 13, 12, 14, 9, 8, 1, 0, 7, 6, 5, 3, 2, 4], [28, 26, 25, 24, 22, 21, 23, 20, 19, 18, 11, 10, 17, 16, 15, 13, 12, 14, 9, 8, 1, 0, 7, 6, 5, 3, 2, 4], [27, 29, 28, 26, 25, 24, 22, 21, 23, 20, 19, 18, 11, 10, 17, 16, 15, 13, 12, 14, 9, 8, 1, 0, 7, 6, 5, 3, 2, 4], [30, 27, 29, 28, 26, 25, 24, 22, 21, 23, 20, 19, 18, 11, 10, 17, 16, 15, 13, 12, 14, 9, 8, 1, 0, 7, 6, 5, 3, 2, 4], [31, 30, 27, 29, 28, 26, 25, 24, 22, 21, 23, 20, 19, 18, 11, 10, 17, 16, 15, 13, 12, 14, 9, 8, 1, 0, 7, 6, 5, 3, 2, 4], [32, 31, 30, 27, 29, 28, 26, 25, 24, 22, 21, 23, 20, 19, 18, 11, 10, 17, 16, 15, 13, 12, 14, 9, 8, 1, 0, 7, 6, 5, 3, 2, 4], [32, 31, 30, 27, 29, 28, 26, 25, 24, 22, 21, 23, 20, 19, 18, 11, 10, 17, 16, 15, 13, 12, 14, 9, 8, 1, 0, 7, 6, 5, 3, 2, 4], [34, 32, 31, 30, 27, 29, 28, 26, 25, 24, 22, 21, 23, 20, 19, 18, 11, 10, 17, 16, 15, 13, 12, 14, 9, 8, 1, 0, 7, 6, 5, 3, 2, 4], [33, 35, 34, 32, 31, 30, 27, 29, 28, 26, 25, 24, 22, 21, 23, 20, 19, 18, 11, 10, 17, 16, 15, 13, 12, 14, 9, 8, 1, 0, 7, 6, 5, 3, 2, 4], [36, 33, 35, 34, 32, 31, 30, 27, 29, 28, 26, 25, 24, 22, 21, 23, 20, 19, 18, 11, 10, 17, 16, 15, 13, 12, 14, 9, 8, 1, 0, 7, 6, 5, 3, 2, 4], [37, 36, 33, 35, 34, 32, 31, 30, 27, 29, 28, 26, 25, 24, 22, 21, 23, 20, 19, 18, 11, 10, 17, 16, 15, 13, 12, 14, 9, 8, 1, 0, 7, 6, 5, 3, 2, 4], [38, 37, 36, 33, 35, 34, 32, 31, 30, 27, 29, 28, 26, 25, 24, 22, 21, 23, 20, 19, 18, 11, 10, 17, 16, 15, 13, 12, 14, 9, 8, 1, 0, 7, 6, 5, 3, 2, 4], [38, 37, 36, 33, 35, 34, 32, 31, 30, 27, 29, 28, 26, 25, 24, 22, 21, 23, 20, 19, 18, 11, 10, 17, 16, 15, 13, 12, 14, 9, 8, 1, 0, 7, 6, 5, 3, 2, 4], [40, 38, 37, 36, 33, 35, 34, 32, 31, 30, 27, 29, 28, 26, 25, 24, 22, 21, 23, 20, 19, 18, 11, 10, 17, 16, 15, 13, 12, 14, 9, 8, 1, 0, 7, 6, 5, 3, 2, 4], [39, 41, 40, 38, 37, 36, 33, 35, 34, 32, 31, 30, 27, 29, 28, 26, 25, 24, 22, 21, 23, 20, 19, 18, 11, 10, 17, 16, 15, 13, 12, 14, 9, 8, 1, 0, 7, 6, 5, 3, 2, 4], [38, 37, 36, 33, 35, 34, 32, 31, 30, 27, 29, 28, 26, 25, 24, 22, 21, 23, 20, 19, 18, 11, 10, 17, 16, 15, 13, 12, 14, 9, 8, 1, 0, 7, 6, 5, 3, 2, 4], [42, 39, 41, 40, 43, 38, 37, 36, 33, 35, 34, 32, 31, 30, 27, 29, 28, 26, 25, 24, 22, 21, 23, 20, 19, 18, 11, 10, 17, 16, 15, 13, 12, 14, 9, 8, 1, 0, 7, 6, 5, 3, 2, 4], [44, 42, 39, 41, 40, 43, 38, 37, 36, 33, 35, 34, 32, 31, 30, 27, 29, 28, 26, 25, 24, 22, 21, 23, 20, 19, 18, 11, 10, 17, 16, 15, 13, 12, 14, 9, 8, 1, 0, 7, 6, 5, 3, 2, 4]])) (
    .cond (.t 202) (
     .seq (
     .region [⟨some 4, .mov (.c (.bool false)), none⟩] none) (
     .ret)) (
     .skip))))))) (
   .region [⟨some 117, .mov (.t 10), none⟩,
     ⟨some 118, .bin .add (.t 117) (.c (.int .i64 1)), none⟩,
     ⟨some 10, .mov (.t 118), none⟩] none)))))) (
 .seq (
 .region [⟨some 203, .load true 3 [.int .i64, .slice 3, .slice 3] (.t 2), none⟩,
   ⟨some 204, .call 9 [.t 203], none⟩,
   ⟨some 205, .bin .eql (.t 204) (.c (.int .i64 0)), none⟩,
   ⟨some 206, .mov (.t 205), none⟩,
   ⟨some 207, .call 8 [], some (206, true)⟩,
   ⟨some 208, .pick (.t 206) (.t 207) (.c (.bool false)), none⟩,
   ⟨some 4, .mov (.t 208), none⟩] none) (
 .ret))))))⟩
def K6 : List (List Nat) := [[1000600, 1, 2, 5, 6, 2000000, 2, 4, 5], [1000601, 2, 5, 10, 2000000, 2, 4], [1000602, 2, 5, 10, 11, 12, 13, 2000000, 2, 5, 10, 11, 12]]
def Hn6 : List (Nat × Nat) := []

/-- corebank/corebanklaw53.few -/
def F7 : Fun := ⟨1, 29, [(2, none)],
 .seq (
 .region [⟨some 1, .box 3 (.t 0), none⟩,
   ⟨some 2, .mov (.c (.bool false)), none⟩] none) (
 .seq (
 .seq (
 .region [⟨some 4, .faddr 1 (.t 1), none⟩,
   ⟨some 5, .load false 1 [.slice 3] (.t 4), none⟩,
   ⟨some 6, .len .l (.t 5), none⟩,
   ⟨some 7, .bin .gtr (.t 6) (.c (.int .i64 80)), none⟩,
   ⟨some 8, .mov (.t 7), none⟩,
   ⟨some 9, .faddr 2 (.t 1), some (8, false)⟩,
   ⟨some 10, .load false 1 [.slice 3] (.t 9), some (8, false)⟩,
   ⟨some 11, .len .l (.t 10), some (8, false)⟩,
   ⟨some 12, .bin .gtr (.t 11) (.c (.int .i64 80)), some (8, false)⟩,
   ⟨some 13, .pick (.t 8) (.c (.bool true)) (.t 12), none⟩] none) (
 .cond (.t 13) (
  .seq (
  .region [⟨some 2, .mov (.c (.bool false)), none⟩] none) (
  .ret)) (
  .skip))) (
 .seq (
 .seq (
 .region [⟨some 3, .mov (.c (.int .i64 0)), none⟩] none) (
 .block 0 (
  .loop [1000700, 1, 3, 2000000, 2] (
   .seq (
   .seq (
   .region [⟨some 14, .mov (.t 3), none⟩,
     ⟨some 15, .faddr 2 (.t 1), none⟩,
     ⟨some 16, .load false 1 [.slice 3] (.t 15), none⟩,
     ⟨some 17, .len .l (.t 16), none⟩,
     ⟨some 18, .bin .lss (.t 14) (.t 17), none⟩] none) (
   .cond (.t 18) (
    .skip) (
    .exit 0))) (
   .seq (
   .block 1 (
    .seq (
    .region [⟨some 21, .faddr 2 (.t 1), none⟩,
      ⟨some 22, .load false 1 [.slice 3] (.t 21), none⟩,
      ⟨some 23, .mov (.t 3), none⟩,
      ⟨some 24, .iaddr 3 [.int .i64, .int .i64, .str] (.t 22) (.t 23), none⟩,
      ⟨some 25, .faddr 2 (.t 24), none⟩,
      ⟨some 26, .load false 1 [.str] (.t 25), none⟩,
      ⟨some 27, .len .s (.t 26), none⟩,
      ⟨some 28, .bin .gtr (.t 27) (.c (.int .i64 100)), none⟩] none) (
    .cond (.t 28) (
     .seq (
     .region [⟨some 2, .mov (.c (.bool false)), none⟩] none) (
     .ret)) (
     .skip)))) (
   .region [⟨some 19, .mov (.t 3), none⟩,
     ⟨some 20, .bin .add (.t 19) (.c (.int .i64 1)), none⟩,
     ⟨some 3, .mov (.t 20), none⟩] none)))))) (
 .seq (
 .region [⟨some 2, .mov (.c (.bool true)), none⟩] none) (
 .ret))))⟩
def K7 : List (List Nat) := [[1000700, 1, 3, 2000000, 2]]
def Hn7 : List (Nat × Nat) := []

/-- corebank/corebanklaw53.lives -/
def F8 : Fun := ⟨0, 93, [(0, none)],
 .seq (
 .region [⟨some 0, .mov (.c (.bool false)), none⟩] none) (
 .seq (
 .region [⟨some 14, .call 19 [], none⟩,
   ⟨some 15, .call 13 [.t 14, .c (.int .i64 1000), .c (.int .i64 (-200)), .c (.str [97])], none⟩,
   ⟨some 13, .mov (.t 15), none⟩,
   ⟨some 16, .ext (.t 13) 0, none⟩,
   ⟨some 17, .ext (.t 13) 1, none⟩,
   ⟨some 1, .alloc (.agg [.int .i64 0, .nils 3, .nils 3]), none⟩,
   ⟨none, .store 3 (.t 1) (.t 16), none⟩,
   ⟨some 2, .mov (.t 17), none⟩] none) (
 .seq (
 .region [⟨some 19, .load true 3 [.int .i64, .slice 3, .slice 3] (.t 1), none⟩,
   ⟨some 20, .call 13 [.t 19, .c (.int .i64 1000), .c (.int .i64 (-100)), .c (.str [98])], none⟩,
   ⟨some 18, .mov (.t 20), none⟩,
   ⟨some 21, .ext (.t 18) 0, none⟩,
   ⟨some 22, .ext (.t 18) 1, none⟩,
   ⟨some 3, .alloc (.agg [.int .i64 0, .nils 3, .nils 3]), none⟩,
   ⟨none, .store 3 (.t 3) (.t 21), none⟩,
   ⟨some 4, .mov (.t 22), none⟩] none) (
 .seq (
 .region [⟨some 24, .load true 3 [.int .i64, .slice 3, .slice 3] (.t 1), none⟩,
   ⟨some 25, .call 13 [.t 24, .c (.int .i64 1000), .c (.int .i64 (-101)), .c (.str [98])], none⟩,
   ⟨some 23, .mov (.t 25), none⟩,
   ⟨some 26, .ext (.t 23) 0, none⟩,
   ⟨some 27, .ext (.t 23) 1, none⟩,
   ⟨some 5, .alloc (.agg [.int .i64 0, .nils 3, .nils 3]), none⟩,
   ⟨none, .store 3 (.t 5) (.t 26), none⟩,
   ⟨some 6, .mov (.t 27), none⟩] none) (
 .seq (
 .region [⟨some 29, .call 19 [], none⟩,
   ⟨some 30, .call 13 [.t 29, .c (.int .i64 1000), .c (.int .i64 70), .c (.str [100])], none⟩,
   ⟨some 28, .mov (.t 30), none⟩,
   ⟨some 31, .ext (.t 28) 0, none⟩,
   ⟨some 32, .ext (.t 28) 1, none⟩,
   ⟨some 7, .alloc (.agg [.int .i64 0, .nils 3, .nils 3]), none⟩,
   ⟨none, .store 3 (.t 7) (.t 31), none⟩,
   ⟨some 8, .mov (.t 32), none⟩] none) (
 .seq (
 .region [⟨some 33, .build [.int .i64 0, .int .i64 0, .int .i64 0, .int .i64 0, .int .i64 0, .int .i64 0, .int .i64 0, .int .i64 0, .int .i64 0, .int .i64 0, .int .i64 0, .int .i64 0, .int .i64 0, .int .i64 0] [(0, 1, (.c (.int .i64 7)))], none⟩,
   ⟨some 34, .build [.str [], .str [], .str [], .int .i64 0, .int .i64 0, .int .i64 0, .int .i64 0, .nils 2, .bool false, .int .i64 0, .int .i64 0, .bool false, .nils 2, .bool false, .int .i64 0, .int .i64 0, .bool false, .nils 10, .nils 6] [(0, 1, (.c (.str [103, 105, 114, 111]))), (1, 1, (.c (.str [69, 85, 82])))], none⟩,
   ⟨some 35, .bslice 19 (.agg [.str [], .str [], .str [], .int .i64 0, .int .i64 0, .int .i64 0, .int .i64 0, .nils 2, .bool false, .int .i64 0, .int .i64 0, .bool false, .nils 2, .bool false, .int .i64 0, .int .i64 0, .bool false, .nils 10, .nils 6]) 1 [(0, (.t 34))], none⟩,
   ⟨some 36, .build [.int .i64 0, .int .i64 0, .int .i64 0, .int .i64 0, .str [], .str [], .str []] [(0, 1, (.c (.int .i64 1000))), (5, 1, (.c (.str [103, 105, 114, 111])))], none⟩,
   ⟨some 37, .bslice 7 (.agg [.int .i64 0, .int .i64 0, .int .i64 0, .int .i64 0, .str [], .str [], .str []]) 1 [(0, (.t 36))], none⟩,
   ⟨some 38, .build [.nils 2, .nils 3, .nils 4, .int .i64 0, .int .i64 0, .int .i64 0, .int .i64 0, .int .i64 0, .int .i64 0, .int .i64 0, .int .i64 0, .int .i64 0, .int .i64 0, .int .i64 0, .int .i64 0, .int .i64 0, .int .i64 0, .nils 19, .nils 7, .nils 10, .nils 6, .nils 7] [(3, 14, (.t 33)), (17, 1, (.t 35)), (18, 1, (.t 37))], none⟩,
   ⟨some 9, .alloc (.agg [.nils 2, .nils 3, .nils 4, .int .i64 0, .int .i64 0, .int .i64 0, .int .i64 0, .int .i64 0, .int .i64 0, .int .i64 0, .int .i64 0, .int .i64 0, .int .i64 0, .int .i64 0, .int .i64 0, .int .i64 0, .int .i64 0, .nils 19, .nils 7, .nils 10, .nils 6, .nils 7]), none⟩,
   ⟨none, .store 22 (.t 9) (.t 38), none⟩] none) (
 .seq (
 .region [⟨some 40, .load true 22 [.slice 2, .slice 3, .slice 4, .int .i64, .int .i64, .int .i64, .int .i64, .int .i64, .int .i64, .int .i64, .int .i64, .int .i64, .int .i64, .int .i64, .int .i64, .int .i64, .int .i64, .slice 19, .slice 7, .slice 10, .slice 6, .slice 7] (.t 9), none⟩,
   ⟨some 41, .load true 3 [.int .i64, .slice 3, .slice 3] (.t 7), none⟩,
   ⟨some 42, .call 16 [.t 40, .t 41, .c (.int .i64 5)], none⟩,
   ⟨some 39, .mov (.t 42), none⟩,
   ⟨some 43, .ext (.t 39) 0, none⟩,
   ⟨some 44, .ext (.t 39) 1, none⟩,
   ⟨some 10, .mov (.t 43), none⟩,
   ⟨some 11, .mov (.t 44), none⟩] none) (
 .seq (
 .seq (
 .region [⟨some 45, .mov (.t 2), none⟩,
   ⟨some 46, .bin .neq (.t 45) (.c (.int .i64 0)), none⟩,
   ⟨some 47, .mov (.t 46), none⟩,
   ⟨some 48, .mov (.t 4), some (47, false)⟩,
   ⟨some 49, .bin .neq (.t 48) (.c (.int .i64 0)), some (47, false)⟩,
   ⟨some 50, .pick (.t 47) (.c (.bool true)) (.t 49), none⟩,
   ⟨some 51, .mov (.t 50), none⟩,
   ⟨some 52, .mov (.t 6), some (51, false)⟩,
   ⟨some 53, .bin .neq (.t 52) (.c (.int .i64 18)), some (51, false)⟩,
   ⟨some 54, .pick (.t 51) (.c (.bool true)) (.t 53), none⟩,
   ⟨some 55, .mov (.t 54), none⟩,
   ⟨some 56, .mov (.t 8), some (55, false)⟩,
   ⟨some 57, .bin .neq (.t 56) (.c (.int .i64 0)), some (55, false)⟩,
   ⟨some 58, .pick (.t 55) (.c (.bool true)) (.t 57), none⟩,
   ⟨some 59, .mov (.t 58), none⟩,
   ⟨some 60, .mov (.t 11), some (59, false)⟩,
   ⟨some 61, .bin .neq (.t 60) (.c (.int .i64 0)), some (59, false)⟩,
   ⟨some 62, .pick (.t 59) (.c (.bool true)) (.t 61), none⟩,
   ⟨some 63, .mov (.t 62), none⟩,
   ⟨some 64, .mov (.t 10), some (63, false)⟩,
   ⟨some 65, .len .l (.t 64), some (63, false)⟩,
   ⟨some 66, .bin .neq (.t 65) (.c (.int .i64 1)), some (63, false)⟩,
   ⟨some 67, .pick (.t 63) (.c (.bool true)) (.t 66), none⟩] none) (
 .cond (.t 67) (
  .seq (
  .region [⟨some 0, .mov (.c (.bool false)), none⟩] none) (
  .ret)) (
  .skip))) (
 .seq (
 .region [⟨some 68, .build [.int .i64 0, .int .i64 0, .str []] [(0, 1, (.c (.int .i64 7))), (1, 1, (.c (.int .i64 70))), (2, 1, (.c (.str [69, 85, 82])))], none⟩,
   ⟨some 69, .build [.int .i64 0, .int .i64 0, .str []] [(0, 1, (.c (.int .i64 1000))), (1, 1, (.c (.int .i64 (-70)))), (2, 1, (.c (.str [69, 85, 82])))], none⟩,
   ⟨some 70, .bslice 3 (.agg [.int .i64 0, .int .i64 0, .str []]) 2 [(0, (.t 68)), (1, (.t 69))], none⟩,
   ⟨some 71, .build [.int .i64 0, .int .i64 0, .int .i64 0, .int .i64 0, .int .i64 0, .int .i64 0, .str [], .str [], .nils 3, .int .u64 0] [(1, 1, (.c (.int .i64 5))), (2, 1, (.c (.int .i64 5))), (3, 1, (.c (.int .i64 1))), (4, 1, (.c (.int .i64 3))), (6, 1, (.c (.str [100]))), (8, 1, (.t 70))], none⟩,
   ⟨some 12, .alloc (.agg [.int .i64 0, .int .i64 0, .int .i64 0, .int .i64 0, .int .i64 0, .int .i64 0, .str [], .str [], .nils 3, .int .u64 0]), none⟩,
   ⟨none, .store 10 (.t 12) (.t 71), none⟩] none) (
 .seq (
 .region [⟨some 72, .load true 3 [.int .i64, .slice 3, .slice 3] (.t 3), none⟩,
   ⟨some 73, .call 11 [.t 72, .c (.int .i64 1000)], none⟩,
   ⟨some 74, .bin .eql (.t 73) (.c (.int .i64 300)), none⟩,
   ⟨some 75, .mov (.t 74), none⟩,
   ⟨some 76, .load true 3 [.int .i64, .slice 3, .slice 3] (.t 3), some (75, true)⟩,
   ⟨some 77, .call 9 [.t 76], some (75, true)⟩,
   ⟨some 78, .bin .eql (.t 77) (.c (.int .i64 0)), some (75, true)⟩,
   ⟨some 79, .pick (.t 75) (.t 78) (.c (.bool false)), none⟩,
   ⟨some 80, .mov (.t 79), none⟩,
   ⟨some 81, .mov (.t 10), some (80, true)⟩,
   ⟨some 82, .iaddr 10 [.int .i64, .int .i64, .int .i64, .int .i64, .int .i64, .int .i64, .str, .str, .slice 3, .int .u64] (.t 81) (.c (.int .i64 0)), some (80, true)⟩,
   ⟨some 83, .load true 10 [.int .i64, .int .i64, .int .i64, .int .i64, .int .i64, .int .i64, .str, .str, .slice 3, .int .u64] (.t 82), some (80, true)⟩,
   ⟨some 84, .load true 10 [.int .i64, .int .i64, .int .i64, .int .i64, .int .i64, .int .i64, .str, .str, .slice 3, .int .u64] (.t 12), some (80, true)⟩,
   ⟨some 85, .call 20 [.t 83, .t 84], some (80, true)⟩,
   ⟨some 86, .pick (.t 80) (.t 85) (.c (.bool false)), none⟩,
   ⟨some 87, .mov (.t 86), none⟩,
   ⟨some 88, .build [.nils 2, .nils 3, .nils 4, .int .i64 0, .int .i64 0, .int .i64 0, .int .i64 0, .int .i64 0, .int .i64 0, .int .i64 0, .int .i64 0, .int .i64 0, .int .i64 0, .int .i64 0, .int .i64 0, .int .i64 0, .int .i64 0, .nils 19, .nils 7, .nils 10, .nils 6, .nils 7] [], some (87, true)⟩,
   ⟨some 89, .call 21 [.t 88, .c (.int .i64 5), .c (.int .i64 9)], some (87, true)⟩,
   ⟨some 90, .fld false 0 1 (.t 89), some (87, true)⟩,
   ⟨some 91, .bin .eql (.t 90) (.c (.int .i64 9)), some (87, true)⟩,
   ⟨some 92, .pick (.t 87) (.t 91) (.c (.bool false)), none⟩,
   ⟨some 0, .mov (.t 92), none⟩] (some [[], [0], [1, 0], [2, 1, 0], [3, 2, 1, 0], [4, 3, 2, 1, 0], [5, 4, 3, 2, 1, 0], [6, 5, 4, 3, 2, 1, 0], [7, 6, 5, 4, 3, 2, 1, 0], [8, 7, 6, 5, 4, 3, 2, 1, 0], [9, 8, 7, 6, 5, 4, 3, 2, 1, 0], [10, 9, 8, 7, 6, 5, 4, 3, 2, 1, 0], [8, 7, 6, 5, 4, 3, 2, 1, 0], [11, 10, 9, 12, 8, 7, 6, 5, 4, 3, 2, 1, 0], [13, 11, 10, 9, 12, 8, 7, 6, 5, 4, 3, 2, 1, 0], [14, 13, 11, 10, 9, 12, 8, 7, 6, 5, 4, 3, 2, 1, 0], [15, 14, 13, 11, 10, 9, 12, 8, 7, 6, 5, 4, 3, 2, 1, 0], [16, 15, 14, 13, 11, 10, 9, 12, 8, 7, 6, 5, 4, 3, 2, 1, 0], [17, 16, 15, 14, 13, 11, 10, 9, 12, 8, 7, 6, 5, 4, 3, 2, 1, 0], [18, 17, 16, 15, 14, 13, 11, 10, 9, 12, 8, 7, 6, 5, 4, 3, 2, 1, 0], [19, 18, 17, 16, 15, 14, 13, 11, 10, 9, 12, 8, 7, 6, 5, 4, 3, 2, 1, 0], [20, 19, 18, 17, 16, 15, 14, 13, 11, 10, 9, 12, 8, 7, 6, 5, 4, 3, 2, 1, 0]])) (
 .ret))))))))))⟩
def K8 : List (List Nat) := []
def Hn8 : List (Nat × Nat) := []

/-- corebank/standin.Check -/
def F9 : Fun := ⟨1, 84, [(2, none)],
 .seq (
 .region [⟨some 1, .box 3 (.t 0), none⟩,
   ⟨some 2, .mov (.c (.int .i64 0)), none⟩] none) (
 .seq (
 .block 0 (
  .seq (
  .region [⟨some 11, .faddr 1 (.t 1), none⟩,
    ⟨some 12, .load false 1 [.slice 3] (.t 11), none⟩,
    ⟨some 13, .len .l (.t 12), none⟩,
    ⟨some 14, .bin .gtr (.t 13) (.c (.int .i64 64)), none⟩,
    ⟨some 15, .mov (.t 14), none⟩,
    ⟨some 16, .faddr 2 (.t 1), some (15, false)⟩,
    ⟨some 17, .load false 1 [.slice 3] (.t 16), some (15, false)⟩,
    ⟨some 18, .len .l (.t 17), some (15, false)⟩,
    ⟨some 19, .bin .gtr (.t 18) (.c (.int .i64 64)), some (15, false)⟩,
    ⟨some 20, .pick (.t 15) (.c (.bool true)) (.t 19), none⟩,
    ⟨some 10, .mov (.t 20), none⟩] none) (
  .cond (.t 10) (
   .seq (
   .region [⟨some 2, .mov (.c (.int .i64 5)), none⟩] none) (
   .ret)) (
   .seq (
   .region [⟨some 22, .faddr 0 (.t 1), none⟩,
     ⟨some 23, .load false 1 [.int .i64] (.t 22), none⟩,
     ⟨some 24, .bin .lss (.t 23) (.c (.int .i64 0)), none⟩,
     ⟨some 25, .mov (.t 24), none⟩,
     ⟨some 26, .faddr 0 (.t 1), some (25, false)⟩,
     ⟨some 27, .load false 1 [.int .i64] (.t 26), some (25, false)⟩,
     ⟨some 28, .bin .gtr (.t 27) (.c (.int .i64 1000000000000)), some (25, false)⟩,
     ⟨some 29, .pick (.t 25) (.c (.bool true)) (.t 28), none⟩,
     ⟨some 21, .mov (.t 29), none⟩] none) (
   .cond (.t 21) (
    .seq (
    .region [⟨some 2, .mov (.c (.int .i64 1)), none⟩] none) (
    .ret)) (
    .skip)))))) (
 .seq (
 .seq (
 .region [⟨some 30, .faddr 1 (.t 1), none⟩,
   ⟨some 31, .load false 1 [.slice 3] (.t 30), none⟩,
   ⟨some 32, .call 22 [.t 31], none⟩,
   ⟨some 3, .mov (.t 32), none⟩] none) (
 .seq (
 .region [⟨some 33, .mov (.t 3), none⟩,
   ⟨some 34, .bin .neq (.t 33) (.c (.int .i64 0)), none⟩] none) (
 .cond (.t 34) (
  .seq (
  .region [⟨some 35, .mov (.t 3), none⟩,
    ⟨some 2, .mov (.t 35), none⟩] none) (
  .ret)) (
  .skip)))) (
 .seq (
 .seq (
 .region [⟨some 36, .load true 3 [.int .i64, .slice 3, .slice 3] (.t 1), none⟩,
   ⟨some 37, .call 23 [.t 36], none⟩,
   ⟨some 4, .mov (.t 37), none⟩] none) (
 .seq (
 .region [⟨some 38, .mov (.t 4), none⟩,
   ⟨some 39, .bin .neq (.t 38) (.c (.int .i64 0)), none⟩] none) (
 .cond (.t 39) (
  .seq (
  .region [⟨some 40, .mov (.t 4), none⟩,
    ⟨some 2, .mov (.t 40), none⟩] none) (
  .ret)) (
  .skip)))) (
 .seq (
 .seq (
 .region [⟨some 41, .faddr 1 (.t 1), none⟩,
   ⟨some 42, .load false 1 [.slice 3] (.t 41), none⟩,
   ⟨some 43, .len .l (.t 42), none⟩,
   ⟨some 44, .mov (.c (.int .i64 0)), none⟩] none) (
 .block 1 (
  .loop [1000900, 1, 42, 43, 44, 2000000, 2] (
   .seq (
   .region [⟨some 45, .bin .lss (.t 44) (.t 43), none⟩] none) (
   .seq (
   .cond (.t 45) (
    .skip) (
    .exit 1)) (
   .seq (
   .block 2 (
    .seq (
    .region [⟨some 46, .iaddr 3 [.int .i64, .int .i64, .int .i64] (.t 42) (.t 44), none⟩,
      ⟨some 47, .load true 3 [.int .i64, .int .i64, .int .i64] (.t 46), none⟩,
      ⟨some 6, .alloc (.agg [.int .i64 0, .int .i64 0, .int .i64 0]), none⟩,
      ⟨none, .store 3 (.t 6) (.t 47), none⟩] none) (
    .seq (
    .region [⟨some 7, .mov (.c (.int .i64 0)), none⟩] none) (
    .seq (
    .seq (
    .region [⟨some 48, .faddr 2 (.t 1), none⟩,
      ⟨some 49, .load false 1 [.slice 3] (.t 48), none⟩,
      ⟨some 50, .len .l (.t 49), none⟩,
      ⟨some 51, .mov (.c (.int .i64 0)), none⟩] none) (
    .block 3 (
     .loop [1000901, 1, 6, 7, 42, 43, 44, 49, 50, 51, 2000000, 1, 6, 7, 42, 43, 44] (
      .seq (
      .region [⟨some 52, .bin .lss (.t 51) (.t 50), none⟩] none) (
      .seq (
      .cond (.t 52) (
       .skip) (
       .exit 3)) (
      .seq (
      .block 4 (
       .seq (
       .region [⟨some 53, .iaddr 3 [.int .i64, .int .i64, .str] (.t 49) (.t 51), none⟩,
         ⟨some 54, .load true 3 [.int .i64, .int .i64, .str] (.t 53), none⟩,
         ⟨some 9, .alloc (.agg [.int .i64 0, .int .i64 0, .str []]), none⟩,
         ⟨none, .store 3 (.t 9) (.t 54), none⟩] none) (
       .seq (
       .region [⟨some 55, .faddr 0 (.t 9), none⟩,
         ⟨some 56, .load false 1 [.int .i64] (.t 55), none⟩,
         ⟨some 57, .faddr 0 (.t 6), none⟩,
         ⟨some 58, .load false 1 [.int .i64] (.t 57), none⟩,
         ⟨some 59, .bin .eql (.t 56) (.t 58), none⟩] none) (
       .cond (.t 59) (
        .region [⟨some 60, .mov (.t 7), none⟩,
          ⟨some 61, .faddr 1 (.t 9), none⟩,
          ⟨some 62, .load false 1 [.int .i64] (.t 61), none⟩,
          ⟨some 63, .un .neg (.t 62), none⟩,
          ⟨some 64, .mx [.c (.int .i64 0), .t 63], none⟩,
          ⟨some 65, .bin .add (.t 60) (.t 64), none⟩,
          ⟨some 7, .mov (.t 65), none⟩] none) (
        .skip))))) (
      .region [⟨some 66, .bin .add (.t 51) (.c (.int .i64 1)), none⟩,
        ⟨some 51, .mov (.t 66), none⟩] none))))))) (
    .seq (
    .region [⟨some 67, .faddr 2 (.t 6), none⟩,
      ⟨some 68, .load false 1 [.int .i64] (.t 67), none⟩,
      ⟨some 69, .mov (.t 7), none⟩,
      ⟨some 70, .bin .neq (.t 68) (.t 69), none⟩,
      ⟨some 71, .mov (.t 70), none⟩,
      ⟨some 72, .mov (.t 7), some (71, false)⟩,
      ⟨some 73, .faddr 1 (.t 6), some (71, false)⟩,
      ⟨some 74, .load false 1 [.int .i64] (.t 73), some (71, false)⟩,
      ⟨some 75, .bin .gtr (.t 72) (.t 74), some (71, false)⟩,
      ⟨some 76, .pick (.t 71) (.c (.bool true)) (.t 75), none⟩,
      ⟨some 77, .mov (.t 76), none⟩,
      ⟨some 78, .mov (.t 7), some (77, false)⟩,
      ⟨some 79, .faddr 0 (.t 1), some (77, false)⟩,
      ⟨some 80, .load false 1 [.int .i64] (.t 79), some (77, false)⟩,
      ⟨some 81, .bin .gtr (.t 78) (.t 80), some (77, false)⟩,
      ⟨some 82, .pick (.t 77) (.c (.bool true)) (.t 81), none⟩] none) (
    .cond (.t 82) (
     .seq (
     .region [⟨some 2, .mov (.c (.int .i64 25)), none⟩] none) (
     .ret)) (
     .skip))))))) (
   .region [⟨some 83, .bin .add (.t 44) (.c (.int .i64 1)), none⟩,
     ⟨some 44, .mov (.t 83), none⟩] none))))))) (
 .seq (
 .region [⟨some 2, .mov (.c (.int .i64 0)), none⟩] none) (
 .ret))))))⟩
def K9 : List (List Nat) := [[1000900, 1, 42, 43, 44, 2000000, 2], [1000901, 1, 6, 7, 42, 43, 44, 49, 50, 51, 2000000, 1, 6, 7, 42, 43, 44]]
def Hn9 : List (Nat × Nat) := []

/-- corebank/corebankref53.Check -/
def F10 : Fun := ⟨1, 130, [(2, none)],
 .seq (
 .region [⟨some 1, .box 3 (.t 0), none⟩,
   ⟨some 2, .mov (.c (.int .i64 0)), none⟩] none) (
 .seq (
 .seq (
 .region [⟨some 9, .faddr 1 (.t 1), none⟩,
   ⟨some 10, .load false 1 [.slice 3] (.t 9), none⟩,
   ⟨some 11, .len .l (.t 10), none⟩,
   ⟨some 12, .bin .gtr (.t 11) (.c (.int .i64 64)), none⟩,
   ⟨some 13, .mov (.t 12), none⟩,
   ⟨some 14, .faddr 2 (.t 1), some (13, false)⟩,
   ⟨some 15, .load false 1 [.slice 3] (.t 14), some (13, false)⟩,
   ⟨some 16, .len .l (.t 15), some (13, false)⟩,
   ⟨some 17, .bin .gtr (.t 16) (.c (.int .i64 64)), some (13, false)⟩,
   ⟨some 18, .pick (.t 13) (.c (.bool true)) (.t 17), none⟩] none) (
 .cond (.t 18) (
  .seq (
  .region [⟨some 2, .mov (.c (.int .i64 5)), none⟩] none) (
  .ret)) (
  .skip))) (
 .seq (
 .seq (
 .region [⟨some 19, .faddr 0 (.t 1), none⟩,
   ⟨some 20, .load false 1 [.int .i64] (.t 19), none⟩,
   ⟨some 21, .bin .lss (.t 20) (.c (.int .i64 0)), none⟩,
   ⟨some 22, .mov (.t 21), none⟩,
   ⟨some 23, .faddr 0 (.t 1), some (22, false)⟩,
   ⟨some 24, .load false 1 [.int .i64] (.t 23), some (22, false)⟩,
   ⟨some 25, .bin .gtr (.t 24) (.c (.int .i64 1000000000000)), some (22, false)⟩,
   ⟨some 26, .pick (.t 22) (.c (.bool true)) (.t 25), none⟩] none) (
 .cond (.t 26) (
  .seq (
  .region [⟨some 2, .mov (.c (.int .i64 1)), none⟩] none) (
  .ret)) (
  .skip))) (
 .seq (
 .seq (
 .region [⟨some 3, .mov (.c (.int .i64 0)), none⟩] none) (
 .block 0 (
  .loop [1001000, 1, 3, 2000000, 1, 2] (
   .seq (
   .seq (
   .region [⟨some 27, .mov (.t 3), none⟩,
     ⟨some 28, .faddr 1 (.t 1), none⟩,
     ⟨some 29, .load false 1 [.slice 3] (.t 28), none⟩,
     ⟨some 30, .len .l (.t 29), none⟩,
     ⟨some 31, .bin .lss (.t 27) (.t 30), none⟩] none) (
   .cond (.t 31) (
    .skip) (
    .exit 0))) (
   .seq (
   .block 1 (
    .seq (
    .region [⟨some 34, .faddr 1 (.t 1), none⟩,
      ⟨some 35, .load false 1 [.slice 3] (.t 34), none⟩,
      ⟨some 36, .mov (.t 3), none⟩,
      ⟨some 37, .iaddr 3 [.int .i64, .int .i64, .int .i64] (.t 35) (.t 36), none⟩,
      ⟨some 38, .load true 3 [.int .i64, .int .i64, .int .i64] (.t 37), none⟩,
      ⟨some 4, .alloc (.agg [.int .i64 0, .int .i64 0, .int .i64 0]), none⟩,
      ⟨none, .store 3 (.t 4) (.t 38), none⟩] none) (
    .seq (
    .seq (
    .region [⟨some 39, .faddr 0 (.t 4), none⟩,
      ⟨some 40, .load false 1 [.int .i64] (.t 39), none⟩,
      ⟨some 41, .bin .lss (.t 40) (.c (.int .i64 1000)), none⟩,
      ⟨some 42, .mov (.t 41), none⟩,
      ⟨some 43, .faddr 1 (.t 4), some (42, false)⟩,
      ⟨some 44, .load false 1 [.int .i64] (.t 43), some (42, false)⟩,
      ⟨some 45, .bin .lss (.t 44) (.c (.int .i64 0)), some (42, false)⟩,
      ⟨some 46, .pick (.t 42) (.c (.bool true)) (.t 45), none⟩,
      ⟨some 47, .mov (.t 46), none⟩,
      ⟨some 48, .faddr 2 (.t 4), some (47, false)⟩,
      ⟨some 49, .load false 1 [.int .i64] (.t 48), some (47, false)⟩,
      ⟨some 50, .bin .lss (.t 49) (.c (.int .i64 0)), some (47, false)⟩,
      ⟨some 51, .pick (.t 47) (.c (.bool true)) (.t 50), none⟩] none) (
    .cond (.t 51) (
     .seq (
     .region [⟨some 2, .mov (.c (.int .i64 1)), none⟩] none) (
     .ret)) (
     .skip))) (
    .seq (
    .region [⟨some 52, .mov (.t 3), none⟩,
      ⟨some 53, .bin .gtr (.t 52) (.c (.int .i64 0)), none⟩,
      ⟨some 54, .mov (.t 53), none⟩,
      ⟨some 55, .faddr 0 (.t 4), some (54, true)⟩,
      ⟨some 56, .load false 1 [.int .i64] (.t 55), some (54, true)⟩,
      ⟨some 57, .faddr 1 (.t 1), some (54, true)⟩,
      ⟨some 58, .load false 1 [.slice 3] (.t 57), some (54, true)⟩,
      ⟨some 59, .mov (.t 3), some (54, true)⟩,
      ⟨some 60, .bin .sub (.t 59) (.c (.int .i64 1)), some (54, true)⟩,
      ⟨some 61, .iaddr 3 [.int .i64, .int .i64, .int .i64] (.t 58) (.t 60), some (54, true)⟩,
      ⟨some 62, .faddr 0 (.t 61), some (54, true)⟩,
      ⟨some 63, .load false 1 [.int .i64] (.t 62), some (54, true)⟩,
      ⟨some 64, .bin .leq (.t 56) (.t 63), some (54, true)⟩,
      ⟨some 65, .pick (.t 54) (.t 64) (.c (.bool false)), none⟩] (some [[], [0], [1, 0], [2, 1, 0], [3, 2, 1, 0], [2, 1, 0], [5, 2, 1, 0], [2, 1, 0], [7, 2, 1, 0], [6, 5, 8, 7, 2, 1, 0], [9, 6, 5, 8, 7, 2, 1, 0], [10, 9, 6, 5, 8, 7, 2, 1, 0], [4, 3, 11, 10, 9, 6, 5, 8, 7, 2, 1, 0], [12, 4, 3, 11, 10, 9, 6, 5, 8, 7, 2, 1, 0]])) (
    .cond (.t 65) (
     .seq (
     .region [⟨some 2, .mov (.c (.int .i64 10)), none⟩] none) (
     .ret)) (
     .skip)))))) (
   .region [⟨some 32, .mov (.t 3), none⟩,
     ⟨some 33, .bin .add (.t 32) (.c (.int .i64 1)), none⟩,
     ⟨some 3, .mov (.t 33), none⟩] none)))))) (
 .seq (
 .seq (
 .region [⟨some 5, .mov (.c (.int .i64 0)), none⟩] none) (
 .block 2 (
  .loop [1001001, 1, 5, 2000000, 1, 2] (
   .seq (
   .seq (
   .region [⟨some 66, .mov (.t 5), none⟩,
     ⟨some 67, .faddr 2 (.t 1), none⟩,
     ⟨some 68, .load false 1 [.slice 3] (.t 67), none⟩,
     ⟨some 69, .len .l (.t 68), none⟩,
     ⟨some 70, .bin .lss (.t 66) (.t 69), none⟩] none) (
   .cond (.t 70) (
    .skip) (
    .exit 2))) (
   .seq (
   .block 3 (
    .seq (
    .region [⟨some 73, .faddr 2 (.t 1), none⟩,
      ⟨some 74, .load false 1 [.slice 3] (.t 73), none⟩,
      ⟨some 75, .mov (.t 5), none⟩,
      ⟨some 76, .iaddr 3 [.int .i64, .int .i64, .str] (.t 74) (.t 75), none⟩,
      ⟨some 77, .load true 3 [.int .i64, .int .i64, .str] (.t 76), none⟩,
      ⟨some 6, .alloc (.agg [.int .i64 0, .int .i64 0, .str []]), none⟩,
      ⟨none, .store 3 (.t 6) (.t 77), none⟩] none) (
    .seq (
    .seq (
    .region [⟨some 78, .faddr 1 (.t 6), none⟩,
      ⟨some 79, .load false 1 [.int .i64] (.t 78), none⟩,
      ⟨some 80, .faddr 2 (.t 6), none⟩,
      ⟨some 81, .load false 1 [.str] (.t 80), none⟩,
      ⟨some 82, .call 24 [.t 79, .t 81], none⟩,
      ⟨some 83, .un .not (.t 82), none⟩] none) (
    .cond (.t 83) (
     .seq (
     .region [⟨some 2, .mov (.c (.int .i64 1)), none⟩] none) (
     .ret)) (
     .skip))) (
    .seq (
    .seq (
    .region [⟨some 84, .load true 3 [.int .i64, .slice 3, .slice 3] (.t 1), none⟩,
      ⟨some 85, .faddr 0 (.t 6), none⟩,
      ⟨some 86, .load false 1 [.int .i64] (.t 85), none⟩,
      ⟨some 87, .call 25 [.t 84, .t 86], none⟩,
      ⟨some 88, .bin .lss (.t 87) (.c (.int .i64 0)), none⟩] none) (
    .cond (.t 88) (
     .seq (
     .region [⟨some 2, .mov (.c (.int .i64 11)), none⟩] none) (
     .ret)) (
     .skip))) (
    .seq (
    .region [⟨some 89, .faddr 2 (.t 1), none⟩,
      ⟨some 90, .load false 1 [.slice 3] (.t 89), none⟩,
      ⟨some 91, .mov (.t 5), none⟩,
      ⟨some 92, .slc 3 (.t 90) none (some (.t 91)), none⟩,
      ⟨some 93, .faddr 2 (.t 6), none⟩,
      ⟨some 94, .load false 1 [.str] (.t 93), none⟩,
      ⟨some 95, .call 26 [.t 92, .t 94], none⟩] (some [[], [0], [], [1, 0, 2], [], [4], [3, 1, 0, 2, 5, 4]])) (
    .cond (.t 95) (
     .seq (
     .region [⟨some 2, .mov (.c (.int .i64 12)), none⟩] none) (
     .ret)) (
     .skip))))))) (
   .region [⟨some 71, .mov (.t 5), none⟩,
     ⟨some 72, .bin .add (.t 71) (.c (.int .i64 1)), none⟩,
     ⟨some 5, .mov (.t 72), none⟩] none)))))) (
 .seq (
 .seq (
 .region [⟨some 7, .mov (.c (.int .i64 0)), none⟩] none) (
 .block 4 (
  .loop [1001002, 1, 7, 2000000, 2] (
   .seq (
   .seq (
   .region [⟨some 96, .mov (.t 7), none⟩,
     ⟨some 97, .faddr 1 (.t 1), none⟩,
     ⟨some 98, .load false 1 [.slice 3] (.t 97), none⟩,
     ⟨some 99, .len .l (.t 98), none⟩,
     ⟨some 100, .bin .lss (.t 96) (.t 99), none⟩] none) (
   .cond (.t 100) (
    .skip) (
    .exit 4))) (
   .seq (
   .block 5 (
    .seq (
    .region [⟨some 103, .faddr 1 (.t 1), none⟩,
      ⟨some 104, .load false 1 [.slice 3] (.t 103), none⟩,
      ⟨some 105, .mov (.t 7), none⟩,
      ⟨some 106, .iaddr 3 [.int .i64, .int .i64, .int .i64] (.t 104) (.t 105), none⟩,
      ⟨some 107, .load true 3 [.int .i64, .int .i64, .int .i64] (.t 106), none⟩,
      ⟨some 8, .alloc (.agg [.int .i64 0, .int .i64 0, .int .i64 0]), none⟩,
      ⟨none, .store 3 (.t 8) (.t 107), none⟩] none) (
    .seq (
    .region [⟨some 108, .faddr 2 (.t 8), none⟩,
      ⟨some 109, .load false 1 [.int .i64] (.t 108), none⟩,
      ⟨some 110, .faddr 2 (.t 1), none⟩,
      ⟨some 111, .load false 1 [.slice 3] (.t 110), none⟩,
      ⟨some 112, .faddr 0 (.t 8), none⟩,
      ⟨some 113, .load false 1 [.int .i64] (.t 112), none⟩,
      ⟨some 114, .call 27 [.t 111, .t 113], none⟩,
      ⟨some 115, .bin .neq (.t 109) (.t 114), none⟩,
      ⟨some 116, .mov (.t 115), none⟩,
      ⟨some 117, .faddr 2 (.t 8), some (116, false)⟩,
      ⟨some 118, .load false 1 [.int .i64] (.t 117), some (116, false)⟩,
      ⟨some 119, .faddr 1 (.t 8), some (116, false)⟩,
      ⟨some 120, .load false 1 [.int .i64] (.t 119), some (116, false)⟩,
      ⟨some 121, .bin .gtr (.t 118) (.t 120), some (116, false)⟩,
      ⟨some 122, .pick (.t 116) (.c (.bool true)) (.t 121), none⟩,
      ⟨some 123, .mov (.t 122), none⟩,
      ⟨some 124, .faddr 2 (.t 8), some (123, false)⟩,
      ⟨some 125, .load false 1 [.int .i64] (.t 124), some (123, false)⟩,
      ⟨some 126, .faddr 0 (.t 1), some (123, false)⟩,
      ⟨some 127, .load false 1 [.int .i64] (.t 126), some (123, false)⟩,
      ⟨some 128, .bin .gtr (.t 125) (.t 127), some (123, false)⟩,
      ⟨some 129, .pick (.t 123) (.c (.bool true)) (.t 128), none⟩] (some [[], [0], [], [2], [], [4], [3, 2, 5, 4], [1, 0, 6, 3, 2, 5, 4], [7, 1, 0, 6, 3, 2, 5, 4], [8, 7, 1, 0, 6, 3, 2, 5, 4], [9, 8, 7, 1, 0, 6, 3, 2, 5, 4], [8, 7, 1, 0, 6, 3, 2, 5, 4], [11, 8, 7, 1, 0, 6, 3, 2, 5, 4], [10, 9, 12, 11, 8, 7, 1, 0, 6, 3, 2, 5, 4], [13, 10, 9, 12, 11, 8, 7, 1, 0, 6, 3, 2, 5, 4], [14, 13, 10, 9, 12, 11, 8, 7, 1, 0, 6, 3, 2, 5, 4], [15, 14, 13, 10, 9, 12, 11, 8, 7, 1, 0, 6, 3, 2, 5, 4], [16, 15, 14, 13, 10, 9, 12, 11, 8, 7, 1, 0, 6, 3, 2, 5, 4], [15, 14, 13, 10, 9, 12, 11, 8, 7, 1, 0, 6, 3, 2, 5, 4], [18, 15, 14, 13, 10, 9, 12, 11, 8, 7, 1, 0, 6, 3, 2, 5, 4], [17, 16, 19, 18, 15, 14, 13, 10, 9, 12, 11, 8, 7, 1, 0, 6, 3, 2, 5, 4], [20, 17, 16, 19, 18, 15, 14, 13, 10, 9, 12, 11, 8, 7, 1, 0, 6, 3, 2, 5, 4]])) (
    .cond (.t 129) (
     .seq (
     .region [⟨some 2, .mov (.c (.int .i64 25)), none⟩] none) (
     .ret)) (
     .skip))))) (
   .region [⟨some 101, .mov (.t 7), none⟩,
     ⟨some 102, .bin .add (.t 101) (.c (.int .i64 1)), none⟩,
     ⟨some 7, .mov (.t 102), none⟩] none)))))) (
 .seq (
 .region [⟨some 2, .mov (.c (.int .i64 0)), none⟩] none) (
 .ret)))))))⟩
def K10 : List (List Nat) := [[1001000, 1, 3, 2000000, 1, 2], [1001001, 1, 5, 2000000, 1, 2], [1001002, 1, 7, 2000000, 2]]
def Hn10 : List (Nat × Nat) := []

/-- corebank/standin.Used -/
def F11 : Fun := ⟨2, 18, [(4, none)],
 .seq (
 .region [⟨some 2, .box 3 (.t 0), none⟩,
   ⟨some 4, .mov (.c (.int .i64 0)), none⟩] none) (
 .seq (
 .region [⟨some 6, .faddr 1 (.t 2), none⟩,
   ⟨some 7, .load false 1 [.slice 3] (.t 6), none⟩,
   ⟨some 8, .mov (.t 1), none⟩,
   ⟨some 9, .call 28 [.t 7, .t 8], none⟩,
   ⟨some 5, .mov (.t 9), none⟩] none) (
 .seq (
 .seq (
 .region [⟨some 10, .mov (.t 5), none⟩,
   ⟨some 11, .bin .lss (.t 10) (.c (.int .i64 0)), none⟩] none) (
 .cond (.t 11) (
  .seq (
  .region [⟨some 4, .mov (.c (.int .i64 0)), none⟩] none) (
  .ret)) (
  .skip))) (
 .seq (
 .region [⟨some 12, .faddr 1 (.t 2), none⟩,
   ⟨some 13, .load false 1 [.slice 3] (.t 12), none⟩,
   ⟨some 14, .mov (.t 5), none⟩,
   ⟨some 15, .iaddr 3 [.int .i64, .int .i64, .int .i64] (.t 13) (.t 14), none⟩,
   ⟨some 16, .faddr 2 (.t 15), none⟩,
   ⟨some 17, .load false 1 [.int .i64] (.t 16), none⟩,
   ⟨some 4, .mov (.t 17), none⟩] none) (
 .ret))))⟩
def K11 : List (List Nat) := []
def Hn11 : List (Nat × Nat) := []

/-- corebank/corebankref53.Used -/
def F12 : Fun := ⟨2, 17, [(4, none)],
 .seq (
 .region [⟨some 2, .box 3 (.t 0), none⟩,
   ⟨some 4, .mov (.c (.int .i64 0)), none⟩] none) (
 .seq (
 .region [⟨some 6, .load true 3 [.int .i64, .slice 3, .slice 3] (.t 2), none⟩,
   ⟨some 7, .mov (.t 1), none⟩,
   ⟨some 8, .call 25 [.t 6, .t 7], none⟩,
   ⟨some 5, .mov (.t 8), none⟩] none) (
 .seq (
 .seq (
 .region [⟨some 9, .mov (.t 5), none⟩,
   ⟨some 10, .bin .lss (.t 9) (.c (.int .i64 0)), none⟩] none) (
 .cond (.t 10) (
  .seq (
  .region [⟨some 4, .mov (.c (.int .i64 0)), none⟩] none) (
  .ret)) (
  .skip))) (
 .seq (
 .region [⟨some 11, .faddr 1 (.t 2), none⟩,
   ⟨some 12, .load false 1 [.slice 3] (.t 11), none⟩,
   ⟨some 13, .mov (.t 5), none⟩,
   ⟨some 14, .iaddr 3 [.int .i64, .int .i64, .int .i64] (.t 12) (.t 13), none⟩,
   ⟨some 15, .faddr 2 (.t 14), none⟩,
   ⟨some 16, .load false 1 [.int .i64] (.t 15), none⟩,
   ⟨some 4, .mov (.t 16), none⟩] none) (
 .ret))))⟩
def K12 : List (List Nat) := []
def Hn12 : List (Nat × Nat) := []

/-- corebank/standin.Authorize -/
def F13 : Fun := ⟨4, 92, [(8, some (true, 3)), (9, none)],
 .seq (
 .region [⟨some 4, .box 3 (.t 0), none⟩,
   ⟨some 7, .box 1 (.t 3), none⟩,
   ⟨some 8, .alloc (.agg [.int .i64 0, .nils 3, .nils 3]), none⟩,
   ⟨some 9, .mov (.c (.int .i64 0)), none⟩] none) (
 .seq (
 .region [⟨some 13, .faddr 1 (.t 4), none⟩,
   ⟨some 14, .load false 1 [.slice 3] (.t 13), none⟩,
   ⟨some 15, .mov (.t 1), none⟩,
   ⟨some 16, .call 28 [.t 14, .t 15], none⟩,
   ⟨some 10, .mov (.t 16), none⟩] none) (
 .seq (
 .block 0 (
  .seq (
  .region [⟨some 18, .load true 3 [.int .i64, .slice 3, .slice 3] (.t 4), none⟩,
    ⟨some 19, .call 9 [.t 18], none⟩,
    ⟨some 20, .bin .neq (.t 19) (.c (.int .i64 0)), none⟩,
    ⟨some 21, .mov (.t 20), none⟩,
    ⟨some 22, .mov (.t 2), some (21, false)⟩,
    ⟨some 23, .bin .eql (.t 22) (.c (.int .i64 0)), some (21, false)⟩,
    ⟨some 24, .pick (.t 21) (.c (.bool true)) (.t 23), none⟩,
    ⟨some 25, .mov (.t 24), none⟩,
    ⟨some 26, .mov (.t 2), some (25, false)⟩,
    ⟨some 27, .call 29 [.t 26], some (25, false)⟩,
    ⟨some 28, .un .not (.t 27), some (25, false)⟩,
    ⟨some 29, .pick (.t 25) (.c (.bool true)) (.t 28), none⟩,
    ⟨some 30, .mov (.t 29), none⟩,
    ⟨some 31, .load false 1 [.str] (.t 7), some (30, false)⟩,
    ⟨some 32, .call 30 [.t 31], some (30, false)⟩,
    ⟨some 33, .un .not (.t 32), some (30, false)⟩,
    ⟨some 34, .pick (.t 30) (.c (.bool true)) (.t 33), none⟩,
    ⟨some 17, .mov (.t 34), none⟩] none) (
  .cond (.t 17) (
   .seq (
   .region [⟨some 35, .build [.int .i64 0, .nils 3, .nils 3] [], none⟩,
     ⟨none, .store 3 (.t 8) (.t 35), none⟩,
     ⟨some 9, .mov (.c (.int .i64 1)), none⟩] none) (
   .ret)) (
   .seq (
   .region [⟨some 37, .mov (.t 10), none⟩,
     ⟨some 38, .bin .lss (.t 37) (.c (.int .i64 0)), none⟩,
     ⟨some 36, .mov (.t 38), none⟩] none) (
   .cond (.t 36) (
    .seq (
    .region [⟨some 39, .build [.int .i64 0, .nils 3, .nils 3] [], none⟩,
      ⟨none, .store 3 (.t 8) (.t 39), none⟩,
      ⟨some 9, .mov (.c (.int .i64 11)), none⟩] none) (
    .ret)) (
    .seq (
    .region [⟨some 41, .faddr 2 (.t 4), none⟩,
      ⟨some 42, .load false 1 [.slice 3] (.t 41), none⟩,
      ⟨some 43, .mkf 32 [.t 7], none⟩,
      ⟨some 44, .call 31 [.t 42, .t 43], none⟩,
      ⟨some 40, .mov (.t 44), none⟩] none) (
    .cond (.t 40) (
     .seq (
     .region [⟨some 45, .build [.int .i64 0, .nils 3, .nils 3] [], none⟩,
       ⟨none, .store 3 (.t 8) (.t 45), none⟩,
       ⟨some 9, .mov (.c (.int .i64 12)), none⟩] none) (
     .ret)) (
     .seq (
     .region [⟨some 47, .faddr 2 (.t 4), none⟩,
       ⟨some 48, .load false 1 [.slice 3] (.t 47), none⟩,
       ⟨some 49, .len .l (.t 48), none⟩,
       ⟨some 50, .bin .geq (.t 49) (.c (.int .i64 64)), none⟩,
       ⟨some 46, .mov (.t 50), none⟩] none) (
     .cond (.t 46) (
      .seq (
      .region [⟨some 51, .build [.int .i64 0, .nils 3, .nils 3] [], none⟩,
        ⟨none, .store 3 (.t 8) (.t 51), none⟩,
        ⟨some 9, .mov (.c (.int .i64 5)), none⟩] none) (
      .ret)) (
      .skip)))))))))) (
 .seq (
 .region [⟨some 53, .mov (.t 2), none⟩,
   ⟨some 54, .call 33 [.t 53], none⟩,
   ⟨some 55, .faddr 1 (.t 4), none⟩,
   ⟨some 56, .load false 1 [.slice 3] (.t 55), none⟩,
   ⟨some 57, .mov (.t 10), none⟩,
   ⟨some 58, .iaddr 3 [.int .i64, .int .i64, .int .i64] (.t 56) (.t 57), none⟩,
   ⟨some 59, .load true 3 [.int .i64, .int .i64, .int .i64] (.t 58), none⟩,
   ⟨some 60, .faddr 0 (.t 4), none⟩,
   ⟨some 61, .load false 1 [.int .i64] (.t 60), none⟩,
   ⟨some 62, .mkb "corebank/standin.accept" (.t 54), none⟩,
   ⟨some 63, .nilm "corebank/standin.accept" [(103, 78), (101, 77)] (.t 62), none⟩,
   ⟨some 64, .mov (.t 54), none⟩,
   ⟨some 65, .invk [(103, 78), (101, 77)] (.t 64) [.t 59, .t 61], none⟩,
   ⟨some 52, .mov (.t 65), none⟩,
   ⟨some 66, .ext (.t 52) 0, none⟩,
   ⟨some 67, .ext (.t 52) 1, none⟩,
   ⟨some 11, .alloc (.agg [.int .i64 0, .int .i64 0, .int .i64 0]), none⟩,
   ⟨none, .store 3 (.t 11) (.t 66), none⟩,
   ⟨some 12, .mov (.t 67), none⟩] (some [[], [0], [], [2], [], [3, 2, 4], [5, 3, 2, 4], [], [7], [1, 0], [9, 1, 0], [10, 9, 1, 0], [11, 10, 9, 6, 5, 3, 2, 4, 8, 7, 1, 0], [12, 11, 10, 9, 6, 5, 3, 2, 4, 8, 7, 1, 0], [13, 12, 11, 10, 9, 6, 5, 3, 2, 4, 8, 7, 1, 0], [13, 12, 11, 10, 9, 6, 5, 3, 2, 4, 8, 7, 1, 0], [], [14, 13, 12, 11, 10, 9, 6, 5, 3, 2, 4, 8, 7, 1, 0, 16], [15, 17, 14, 13, 12, 11, 10, 9, 6, 5, 3, 2, 4, 8, 7, 1, 0, 16]])) (
 .seq (
 .seq (
 .region [⟨some 68, .mov (.t 12), none⟩,
   ⟨some 69, .bin .neq (.t 68) (.c (.int .i64 0)), none⟩] none) (
 .cond (.t 69) (
  .seq (
  .region [⟨some 70, .build [.int .i64 0, .nils 3, .nils 3] [], none⟩,
    ⟨some 71, .mov (.t 12), none⟩,
    ⟨none, .store 3 (.t 8) (.t 70), none⟩,
    ⟨some 9, .mov (.t 71), none⟩] none) (
  .ret)) (
  .skip))) (
 .seq (
 .region [⟨some 72, .faddr 1 (.t 4), none⟩,
   ⟨some 73, .load false 1 [.slice 3] (.t 72), none⟩,
   ⟨some 74, .call 34 [.t 73], none⟩,
   ⟨some 75, .faddr 1 (.t 4), none⟩,
   ⟨none, .store 1 (.t 75) (.t 74), none⟩] none) (
 .seq (
 .region [⟨some 76, .faddr 1 (.t 4), none⟩,
   ⟨some 77, .load false 1 [.slice 3] (.t 76), none⟩,
   ⟨some 78, .mov (.t 10), none⟩,
   ⟨some 79, .load true 3 [.int .i64, .int .i64, .int .i64] (.t 11), none⟩,
   ⟨some 80, .iaddr 3 [.int .i64, .int .i64, .int .i64] (.t 77) (.t 78), none⟩,
   ⟨none, .store 3 (.t 80) (.t 79), none⟩] none) (
 .seq (
 .region [⟨some 81, .faddr 2 (.t 4), none⟩,
   ⟨some 82, .load false 1 [.slice 3] (.t 81), none⟩,
   ⟨some 83, .call 35 [.t 82], none⟩,
   ⟨some 84, .mov (.t 1), none⟩,
   ⟨some 85, .mov (.t 2), none⟩,
   ⟨some 86, .load false 1 [.str] (.t 7), none⟩,
   ⟨some 87, .build [.int .i64 0, .int .i64 0, .str []] [(0, 1, (.t 84)), (1, 1, (.t 85)), (2, 1, (.t 86))], none⟩,
   ⟨some 88, .bslice 3 (.agg [.int .i64 0, .int .i64 0, .str []]) 1 [(0, (.t 87))], none⟩,
   ⟨some 89, .app 3 32 (.t 83) (.t 88), none⟩,
   ⟨some 90, .faddr 2 (.t 4), none⟩,
   ⟨none, .store 1 (.t 90) (.t 89), none⟩] (some [[], [0], [1, 0], [], [], [], [3, 4, 5], [6, 3, 4, 5], [7, 6, 3, 4, 5, 2, 1, 0], [8, 7, 6, 3, 4, 5, 2, 1, 0], [9, 8, 7, 6, 3, 4, 5, 2, 1, 0]])) (
 .seq (
 .region [⟨some 91, .load true 3 [.int .i64, .slice 3, .slice 3] (.t 4), none⟩,
   ⟨none, .store 3 (.t 8) (.t 91), none⟩,
   ⟨some 9, .mov (.c (.int .i64 0)), none⟩] none) (
 .ret)))))))))⟩
def K13 : List (List Nat) := []
def Hn13 : List (Nat × Nat) := []

/-- corebank/corebankref53.Authorize -/
def F14 : Fun := ⟨4, 93, [(8, some (true, 3)), (9, none)],
 .seq (
 .region [⟨some 4, .box 3 (.t 0), none⟩,
   ⟨some 8, .alloc (.agg [.int .i64 0, .nils 3, .nils 3]), none⟩,
   ⟨some 9, .mov (.c (.int .i64 0)), none⟩] none) (
 .seq (
 .seq (
 .region [⟨some 13, .load true 3 [.int .i64, .slice 3, .slice 3] (.t 4), none⟩,
   ⟨some 14, .call 10 [.t 13], none⟩,
   ⟨some 15, .bin .neq (.t 14) (.c (.int .i64 0)), none⟩,
   ⟨some 16, .mov (.t 15), none⟩,
   ⟨some 17, .mov (.t 2), some (16, false)⟩,
   ⟨some 18, .mov (.t 3), some (16, false)⟩,
   ⟨some 19, .call 24 [.t 17, .t 18], some (16, false)⟩,
   ⟨some 20, .un .not (.t 19), some (16, false)⟩,
   ⟨some 21, .pick (.t 16) (.c (.bool true)) (.t 20), none⟩] none) (
 .cond (.t 21) (
  .seq (
  .region [⟨some 22, .build [.int .i64 0, .nils 3, .nils 3] [], none⟩,
    ⟨none, .store 3 (.t 8) (.t 22), none⟩,
    ⟨some 9, .mov (.c (.int .i64 1)), none⟩] none) (
  .ret)) (
  .skip))) (
 .seq (
 .region [⟨some 23, .load true 3 [.int .i64, .slice 3, .slice 3] (.t 4), none⟩,
   ⟨some 24, .mov (.t 1), none⟩,
   ⟨some 25, .call 25 [.t 23, .t 24], none⟩,
   ⟨some 10, .mov (.t 25), none⟩] none) (
 .seq (
 .seq (
 .region [⟨some 26, .mov (.t 10), none⟩,
   ⟨some 27, .bin .lss (.t 26) (.c (.int .i64 0)), none⟩] none) (
 .cond (.t 27) (
  .seq (
  .region [⟨some 28, .build [.int .i64 0, .nils 3, .nils 3] [], none⟩,
    ⟨none, .store 3 (.t 8) (.t 28), none⟩,
    ⟨some 9, .mov (.c (.int .i64 11)), none⟩] none) (
  .ret)) (
  .skip))) (
 .seq (
 .seq (
 .region [⟨some 29, .faddr 2 (.t 4), none⟩,
   ⟨some 30, .load false 1 [.slice 3] (.t 29), none⟩,
   ⟨some 31, .mov (.t 3), none⟩,
   ⟨some 32, .call 26 [.t 30, .t 31], none⟩] none) (
 .cond (.t 32) (
  .seq (
  .region [⟨some 33, .build [.int .i64 0, .nils 3, .nils 3] [], none⟩,
    ⟨none, .store 3 (.t 8) (.t 33), none⟩,
    ⟨some 9, .mov (.c (.int .i64 12)), none⟩] none) (
  .ret)) (
  .skip))) (
 .seq (
 .seq (
 .region [⟨some 34, .faddr 2 (.t 4), none⟩,
   ⟨some 35, .load false 1 [.slice 3] (.t 34), none⟩,
   ⟨some 36, .len .l (.t 35), none⟩,
   ⟨some 37, .bin .geq (.t 36) (.c (.int .i64 64)), none⟩] none) (
 .cond (.t 37) (
  .seq (
  .region [⟨some 38, .build [.int .i64 0, .nils 3, .nils 3] [], none⟩,
    ⟨none, .store 3 (.t 8) (.t 38), none⟩,
    ⟨some 9, .mov (.c (.int .i64 5)), none⟩] none) (
  .ret)) (
  .skip))) (
 .seq (
 .region [⟨some 39, .bslice 3 (.agg [.int .i64 0, .int .i64 0, .int .i64 0]) 0 [], none⟩,
   ⟨some 40, .faddr 1 (.t 4), none⟩,
   ⟨some 41, .load false 1 [.slice 3] (.t 40), none⟩,
   ⟨some 42, .app 3 24 (.t 39) (.t 41), none⟩,
   ⟨some 11, .mov (.t 42), none⟩] none) (
 .seq (
 .seq (
 .region [⟨some 43, .mov (.t 2), none⟩,
   ⟨some 44, .bin .lss (.t 43) (.c (.int .i64 0)), none⟩] none) (
 .cond (.t 44) (
  .seq (
  .region [⟨some 45, .mov (.t 11), none⟩,
    ⟨some 46, .mov (.t 10), none⟩,
    ⟨some 47, .mov (.t 11), none⟩,
    ⟨some 48, .mov (.t 10), none⟩,
    ⟨some 49, .iaddr 3 [.int .i64, .int .i64, .int .i64] (.t 47) (.t 48), none⟩,
    ⟨some 50, .faddr 2 (.t 49), none⟩,
    ⟨some 51, .load false 1 [.int .i64] (.t 50), none⟩,
    ⟨some 52, .mov (.t 2), none⟩,
    ⟨some 53, .bin .sub (.t 51) (.t 52), none⟩,
    ⟨some 54, .iaddr 3 [.int .i64, .int .i64, .int .i64] (.t 45) (.t 46), none⟩,
    ⟨some 55, .faddr 2 (.t 54), none⟩,
    ⟨none, .store 1 (.t 55) (.t 53), none⟩] none) (
  .seq (
  .region [⟨some 56, .mov (.t 11), none⟩,
    ⟨some 57, .mov (.t 10), none⟩,
    ⟨some 58, .iaddr 3 [.int .i64, .int .i64, .int .i64] (.t 56) (.t 57), none⟩,
    ⟨some 59, .faddr 2 (.t 58), none⟩,
    ⟨some 60, .load false 1 [.int .i64] (.t 59), none⟩,
    ⟨some 61, .mov (.t 11), none⟩,
    ⟨some 62, .mov (.t 10), none⟩,
    ⟨some 63, .iaddr 3 [.int .i64, .int .i64, .int .i64] (.t 61) (.t 62), none⟩,
    ⟨some 64, .faddr 1 (.t 63), none⟩,
    ⟨some 65, .load false 1 [.int .i64] (.t 64), none⟩,
    ⟨some 66, .bin .gtr (.t 60) (.t 65), none⟩,
    ⟨some 67, .mov (.t 66), none⟩,
    ⟨some 68, .mov (.t 11), some (67, false)⟩,
    ⟨some 69, .mov (.t 10), some (67, false)⟩,
    ⟨some 70, .iaddr 3 [.int .i64, .int .i64, .int .i64] (.t 68) (.t 69), some (67, false)⟩,
    ⟨some 71, .faddr 2 (.t 70), some (67, false)⟩,
    ⟨some 72, .load false 1 [.int .i64] (.t 71), some (67, false)⟩,
    ⟨some 73, .faddr 0 (.t 4), some (67, false)⟩,
    ⟨some 74, .load false 1 [.int .i64] (.t 73), some (67, false)⟩,
    ⟨some 75, .bin .gtr (.t 72) (.t 74), some (67, false)⟩,
    ⟨some 76, .pick (.t 67) (.c (.bool true)) (.t 75), none⟩] (some [[], [], [0, 1], [2, 0, 1], [3, 2, 0, 1], [], [], [5, 6], [7, 5, 6], [8, 7, 5, 6], [4, 3, 2, 0, 1, 9, 8, 7, 5, 6], [10, 4, 3, 2, 0, 1, 9, 8, 7, 5, 6], [11, 10, 4, 3, 2, 0, 1, 9, 8, 7, 5, 6], [11, 10, 4, 3, 2, 0, 1, 9, 8, 7, 5, 6], [12, 13, 11, 10, 4, 3, 2, 0, 1, 9, 8, 7, 5, 6], [14, 12, 13, 11, 10, 4, 3, 2, 0, 1, 9, 8, 7, 5, 6], [15, 14, 12, 13, 11, 10, 4, 3, 2, 0, 1, 9, 8, 7, 5, 6], [11, 10, 4, 3, 2, 0, 1, 9, 8, 7, 5, 6], [17, 11, 10, 4, 3, 2, 0, 1, 9, 8, 7, 5, 6], [16, 15, 14, 12, 13, 18, 17, 11, 10, 4, 3, 2, 0, 1, 9, 8, 7, 5, 6], [19, 16, 15, 14, 12, 13, 18, 17, 11, 10, 4, 3, 2, 0, 1, 9, 8, 7, 5, 6]])) (
  .cond (.t 76) (
   .seq (
   .region [⟨some 77, .build [.int .i64 0, .nils 3, .nils 3] [], none⟩,
     ⟨none, .store 3 (.t 8) (.t 77), none⟩,
     ⟨some 9, .mov (.c (.int .i64 18)), none⟩] none) (
   .ret)) (
   .skip)))) (
  .skip))) (
 .seq (
 .region [⟨some 78, .bslice 3 (.agg [.int .i64 0, .int .i64 0, .str []]) 0 [], none⟩,
   ⟨some 79, .faddr 2 (.t 4), none⟩,
   ⟨some 80, .load false 1 [.slice 3] (.t 79), none⟩,
   ⟨some 81, .app 3 32 (.t 78) (.t 80), none⟩,
   ⟨some 12, .mov (.t 81), none⟩] none) (
 .seq (
 .region [⟨some 82, .faddr 0 (.t 4), none⟩,
   ⟨some 83, .load false 1 [.int .i64] (.t 82), none⟩,
   ⟨some 84, .mov (.t 11), none⟩,
   ⟨some 85, .mov (.t 12), none⟩,
   ⟨some 86, .mov (.t 1), none⟩,
   ⟨some 87, .mov (.t 2), none⟩,
   ⟨some 88, .mov (.t 3), none⟩,
   ⟨some 89, .build [.int .i64 0, .int .i64 0, .str []] [(0, 1, (.t 86)), (1, 1, (.t 87)), (2, 1, (.t 88))], none⟩,
   ⟨some 90, .bslice 3 (.agg [.int .i64 0, .int .i64 0, .str []]) 1 [(0, (.t 89))], none⟩,
   ⟨some 91, .app 3 32 (.t 85) (.t 90), none⟩,
   ⟨some 92, .build [.int .i64 0, .nils 3, .nils 3] [(0, 1, (.t 83)), (1, 1, (.t 84)), (2, 1, (.t 91))], none⟩,
   ⟨none, .store 3 (.t 8) (.t 92), none⟩,
   ⟨some 9, .mov (.c (.int .i64 0)), none⟩] (some [[], [0], [], [], [], [], [], [4, 5, 6], [7, 4, 5, 6], [3, 8, 7, 4, 5, 6], [1, 0, 2, 9, 3, 8, 7, 4, 5, 6], [10, 1, 0, 2, 9, 3, 8, 7, 4, 5, 6], [11, 10, 1, 0, 2, 9, 3, 8, 7, 4, 5, 6]])) (
 .ret))))))))))⟩
def K14 : List (List Nat) := []
def Hn14 : List (Nat × Nat) := []

/-- corebank/corebankref53.Same -/
def F15 : Fun := ⟨2, 66, [(4, none)],
 .seq (
 .region [⟨some 2, .box 3 (.t 0), none⟩,
   ⟨some 3, .box 3 (.t 1), none⟩,
   ⟨some 4, .mov (.c (.bool false)), none⟩] none) (
 .seq (
 .seq (
 .region [⟨some 7, .faddr 0 (.t 2), none⟩,
   ⟨some 8, .load false 1 [.int .i64] (.t 7), none⟩,
   ⟨some 9, .faddr 0 (.t 3), none⟩,
   ⟨some 10, .load false 1 [.int .i64] (.t 9), none⟩,
   ⟨some 11, .bin .neq (.t 8) (.t 10), none⟩,
   ⟨some 12, .mov (.t 11), none⟩,
   ⟨some 13, .faddr 1 (.t 2), some (12, false)⟩,
   ⟨some 14, .load false 1 [.slice 3] (.t 13), some (12, false)⟩,
   ⟨some 15, .len .l (.t 14), some (12, false)⟩,
   ⟨some 16, .faddr 1 (.t 3), some (12, false)⟩,
   ⟨some 17, .load false 1 [.slice 3] (.t 16), some (12, false)⟩,
   ⟨some 18, .len .l (.t 17), some (12, false)⟩,
   ⟨some 19, .bin .neq (.t 15) (.t 18), some (12, false)⟩,
   ⟨some 20, .pick (.t 12) (.c (.bool true)) (.t 19), none⟩,
   ⟨some 21, .mov (.t 20), none⟩,
   ⟨some 22, .faddr 2 (.t 2), some (21, false)⟩,
   ⟨some 23, .load false 1 [.slice 3] (.t 22), some (21, false)⟩,
   ⟨some 24, .len .l (.t 23), some (21, false)⟩,
   ⟨some 25, .faddr 2 (.t 3), some (21, false)⟩,
   ⟨some 26, .load false 1 [.slice 3] (.t 25), some (21, false)⟩,
   ⟨some 27, .len .l (.t 26), some (21, false)⟩,
   ⟨some 28, .bin .neq (.t 24) (.t 27), some (21, false)⟩,
   ⟨some 29, .pick (.t 21) (.c (.bool true)) (.t 28), none⟩] none) (
 .cond (.t 29) (
  .seq (
  .region [⟨some 4, .mov (.c (.bool false)), none⟩] none) (
  .ret)) (
  .skip))) (
 .seq (
 .seq (
 .region [⟨some 5, .mov (.c (.int .i64 0)), none⟩] none) (
 .block 0 (
  .loop [1001500, 2, 3, 5, 2000000, 2, 3, 4] (
   .seq (
   .seq (
   .region [⟨some 30, .mov (.t 5), none⟩,
     ⟨some 31, .faddr 1 (.t 2), none⟩,
     ⟨some 32, .load false 1 [.slice 3] (.t 31), none⟩,
     ⟨some 33, .len .l (.t 32), none⟩,
     ⟨some 34, .bin .lss (.t 30) (.t 33), none⟩] none) (
   .cond (.t 34) (
    .skip) (
    .exit 0))) (
   .seq (
   .block 1 (
    .seq (
    .region [⟨some 37, .faddr 1 (.t 2), none⟩,
      ⟨some 38, .load false 1 [.slice 3] (.t 37), none⟩,
      ⟨some 39, .mov (.t 5), none⟩,
      ⟨some 40, .iaddr 3 [.int .i64, .int .i64, .int .i64] (.t 38) (.t 39), none⟩,
      ⟨some 41, .load true 3 [.int .i64, .int .i64, .int .i64] (.t 40), none⟩,
      ⟨some 42, .faddr 1 (.t 3), none⟩,
      ⟨some 43, .load false 1 [.slice 3] (.t 42), none⟩,
      ⟨some 44, .mov (.t 5), none⟩,
      ⟨some 45, .iaddr 3 [.int .i64, .int .i64, .int .i64] (.t 43) (.t 44), none⟩,
      ⟨some 46, .load true 3 [.int .i64, .int .i64, .int .i64] (.t 45), none⟩,
      ⟨some 47, .eqs (true, [.i, .i, .i]) true (.t 41) (.t 46), none⟩] (some [[], [0], [], [1, 0, 2], [3, 1, 0, 2], [], [5], [], [6, 5, 7], [8, 6, 5, 7], [4, 3, 1, 0, 2, 9, 8, 6, 5, 7]])) (
    .cond (.t 47) (
     .seq (
     .region [⟨some 4, .mov (.c (.bool false)), none⟩] none) (
     .ret)) (
     .skip)))) (
   .region [⟨some 35, .mov (.t 5), none⟩,
     ⟨some 36, .bin .add (.t 35) (.c (.int .i64 1)), none⟩,
     ⟨some 5, .mov (.t 36), none⟩] none)))))) (
 .seq (
 .seq (
 .region [⟨some 6, .mov (.c (.int .i64 0)), none⟩] none) (
 .block 2 (
  .loop [1001501, 2, 3, 6, 2000000, 4] (
   .seq (
   .seq (
   .region [⟨some 48, .mov (.t 6), none⟩,
     ⟨some 49, .faddr 2 (.t 2), none⟩,
     ⟨some 50, .load false 1 [.slice 3] (.t 49), none⟩,
     ⟨some 51, .len .l (.t 50), none⟩,
     ⟨some 52, .bin .lss (.t 48) (.t 51), none⟩] none) (
   .cond (.t 52) (
    .skip) (
    .exit 2))) (
   .seq (
   .block 3 (
    .seq (
    .region [⟨some 55, .faddr 2 (.t 2), none⟩,
      ⟨some 56, .load false 1 [.slice 3] (.t 55), none⟩,
      ⟨some 57, .mov (.t 6), none⟩,
      ⟨some 58, .iaddr 3 [.int .i64, .int .i64, .str] (.t 56) (.t 57), none⟩,
      ⟨some 59, .load true 3 [.int .i64, .int .i64, .str] (.t 58), none⟩,
      ⟨some 60, .faddr 2 (.t 3), none⟩,
      ⟨some 61, .load false 1 [.slice 3] (.t 60), none⟩,
      ⟨some 62, .mov (.t 6), none⟩,
      ⟨some 63, .iaddr 3 [.int .i64, .int .i64, .str] (.t 61) (.t 62), none⟩,
      ⟨some 64, .load true 3 [.int .i64, .int .i64, .str] (.t 63), none⟩,
      ⟨some 65, .eqs (true, [.i, .i, .s]) true (.t 59) (.t 64), none⟩] (some [[], [0], [], [1, 0, 2], [3, 1, 0, 2], [], [5], [], [6, 5, 7], [8, 6, 5, 7], [4, 3, 1, 0, 2, 9, 8, 6, 5, 7]])) (
    .cond (.t 65) (
     .seq (
     .region [⟨some 4, .mov (.c (.bool false)), none⟩] none) (
     .ret)) (
     .skip)))) (
   .region [⟨some 53, .mov (.t 6), none⟩,
     ⟨some 54, .bin .add (.t 53) (.c (.int .i64 1)), none⟩,
     ⟨some 6, .mov (.t 54), none⟩] none)))))) (
 .seq (
 .region [⟨some 4, .mov (.c (.bool true)), none⟩] none) (
 .ret)))))⟩
def K15 : List (List Nat) := [[1001500, 2, 3, 5, 2000000, 2, 3, 4], [1001501, 2, 3, 6, 2000000, 4]]
def Hn15 : List (Nat × Nat) := []

/-- corebank/standin.Entries -/
def F16 : Fun := ⟨3, 65, [(6, none), (7, none)],
 .seq (
 .region [⟨some 3, .box 22 (.t 0), none⟩,
   ⟨some 4, .box 3 (.t 1), none⟩,
   ⟨some 6, .mov (.c (.nils 10)), none⟩,
   ⟨some 7, .mov (.c (.int .i64 0)), none⟩] none) (
 .seq (
 .region [⟨some 8, .mov (.c (.nils 10)), none⟩] none) (
 .seq (
 .seq (
 .region [⟨some 15, .faddr 2 (.t 4), none⟩,
   ⟨some 16, .load false 1 [.slice 3] (.t 15), none⟩,
   ⟨some 17, .len .l (.t 16), none⟩,
   ⟨some 18, .mov (.c (.int .i64 0)), none⟩] none) (
 .block 0 (
  .loop [1001600, 2, 3, 8, 16, 17, 18, 2000000, 6, 7, 8] (
   .seq (
   .region [⟨some 19, .bin .lss (.t 18) (.t 17), none⟩] none) (
   .seq (
   .cond (.t 19) (
    .skip) (
    .exit 0)) (
   .seq (
   .block 1 (
    .seq (
    .region [⟨some 20, .iaddr 3 [.int .i64, .int .i64, .str] (.t 16) (.t 18), none⟩,
      ⟨some 21, .load true 3 [.int .i64, .int .i64, .str] (.t 20), none⟩,
      ⟨some 10, .alloc (.agg [.int .i64 0, .int .i64 0, .str []]), none⟩,
      ⟨none, .store 3 (.t 10) (.t 21), none⟩] none) (
    .seq (
    .region [⟨some 23, .load true 22 [.slice 2, .slice 3, .slice 4, .int .i64, .int .i64, .int .i64, .int .i64, .int .i64, .int .i64, .int .i64, .int .i64, .int .i64, .int .i64, .int .i64, .int .i64, .int .i64, .int .i64, .slice 19, .slice 7, .slice 10, .slice 6, .slice 7] (.t 3), none⟩,
      ⟨some 24, .faddr 0 (.t 10), none⟩,
      ⟨some 25, .load false 1 [.int .i64] (.t 24), none⟩,
      ⟨some 26, .mov (.t 2), none⟩,
      ⟨some 27, .call 36 [.t 23, .t 25, .t 26], none⟩,
      ⟨some 22, .mov (.t 27), none⟩,
      ⟨some 28, .ext (.t 22) 0, none⟩,
      ⟨some 29, .ext (.t 22) 1, none⟩,
      ⟨some 11, .alloc (.agg [.str [], .str [], .str [], .int .i64 0, .int .i64 0, .int .i64 0, .int .i64 0, .nils 2, .bool false, .int .i64 0, .int .i64 0, .bool false, .nils 2, .bool false, .int .i64 0, .int .i64 0, .bool false, .nils 10, .nils 6]), none⟩,
      ⟨none, .store 19 (.t 11) (.t 28), none⟩,
      ⟨some 12, .mov (.t 29), none⟩] none) (
    .seq (
    .seq (
    .region [⟨some 30, .mov (.t 12), none⟩,
      ⟨some 31, .un .not (.t 30), none⟩] none) (
    .cond (.t 31) (
     .seq (
     .region [⟨some 6, .mov (.c (.nils 10)), none⟩,
       ⟨some 7, .mov (.c (.int .i64 11)), none⟩] none) (
     .ret)) (
     .skip))) (
    .seq (
    .region [⟨some 13, .mov (.c (.int .i64 1)), none⟩] none) (
    .seq (
    .seq (
    .region [⟨some 32, .faddr 1 (.t 10), none⟩,
      ⟨some 33, .load false 1 [.int .i64] (.t 32), none⟩,
      ⟨some 34, .bin .lss (.t 33) (.c (.int .i64 0)), none⟩] none) (
    .cond (.t 34) (
     .region [⟨some 13, .mov (.c (.int .i64 2)), none⟩] none) (
     .skip))) (
    .seq (
    .region [⟨some 35, .mov (.t 2), none⟩,
      ⟨some 36, .mov (.t 2), none⟩,
      ⟨some 37, .mov (.t 13), none⟩,
      ⟨some 38, .faddr 2 (.t 10), none⟩,
      ⟨some 39, .load false 1 [.str] (.t 38), none⟩,
      ⟨some 40, .build [.int .i64 0, .int .i64 0, .int .i64 0, .int .i64 0, .int .i64 0, .int .i64 0, .str [], .str [], .nils 3, .int .u64 0] [(1, 1, (.t 35)), (2, 1, (.t 36)), (3, 1, (.t 37)), (4, 1, (.c (.int .i64 3))), (6, 1, (.t 39))], none⟩,
      ⟨some 14, .alloc (.agg [.int .i64 0, .int .i64 0, .int .i64 0, .int .i64 0, .int .i64 0, .int .i64 0, .str [], .str [], .nils 3, .int .u64 0]), none⟩,
      ⟨none, .store 10 (.t 14) (.t 40), none⟩] none) (
    .seq (
    .region [⟨some 41, .faddr 3 (.t 3), none⟩,
      ⟨some 42, .faddr 0 (.t 41), none⟩,
      ⟨some 43, .load false 1 [.int .i64] (.t 42), none⟩,
      ⟨some 44, .faddr 1 (.t 10), none⟩,
      ⟨some 45, .load false 1 [.int .i64] (.t 44), none⟩,
      ⟨some 46, .faddr 1 (.t 11), none⟩,
      ⟨some 47, .load false 1 [.str] (.t 46), none⟩,
      ⟨some 48, .build [.int .i64 0, .int .i64 0, .str []] [(0, 1, (.t 43)), (1, 1, (.t 45)), (2, 1, (.t 47))], none⟩,
      ⟨some 49, .faddr 0 (.t 10), none⟩,
      ⟨some 50, .load false 1 [.int .i64] (.t 49), none⟩,
      ⟨some 51, .faddr 1 (.t 10), none⟩,
      ⟨some 52, .load false 1 [.int .i64] (.t 51), none⟩,
      ⟨some 53, .un .neg (.t 52), none⟩,
      ⟨some 54, .faddr 1 (.t 11), none⟩,
      ⟨some 55, .load false 1 [.str] (.t 54), none⟩,
      ⟨some 56, .build [.int .i64 0, .int .i64 0, .str []] [(0, 1, (.t 50)), (1, 1, (.t 53)), (2, 1, (.t 55))], none⟩,
      ⟨some 57, .bslice 3 (.agg [.int .i64 0, .int .i64 0, .str []]) 2 [(0, (.t 48)), (1, (.t 56))], none⟩,
      ⟨some 58, .faddr 8 (.t 14), none⟩,
      ⟨none, .store 1 (.t 58) (.t 57), none⟩] none) (
    .region [⟨some 59, .mov (.t 8), none⟩,
      ⟨some 60, .load true 10 [.int .i64, .int .i64, .int .i64, .int .i64, .int .i64, .int .i64, .str, .str, .slice 3, .int .u64] (.t 14), none⟩,
      ⟨some 61, .bslice 10 (.agg [.int .i64 0, .int .i64 0, .int .i64 0, .int .i64 0, .int .i64 0, .int .i64 0, .str [], .str [], .nils 3, .int .u64 0]) 1 [(0, (.t 60))], none⟩,
      ⟨some 62, .app 10 112 (.t 59) (.t 61), none⟩,
      ⟨some 8, .mov (.t 62), none⟩] none))))))))) (
   .region [⟨some 63, .bin .add (.t 18) (.c (.int .i64 1)), none⟩,
     ⟨some 18, .mov (.t 63), none⟩] none))))))) (
 .seq (
 .region [⟨some 64, .mov (.t 8), none⟩,
   ⟨some 6, .mov (.t 64), none⟩,
   ⟨some 7, .mov (.c (.int .i64 0)), none⟩] none) (
 .ret))))⟩
def K16 : List (List Nat) := [[1001600, 2, 3, 8, 16, 17, 18, 2000000, 6, 7, 8]]
def Hn16 : List (Nat × Nat) := [(6, 10), (8, 10)]

/-- corebank/corebankref53.Entries -/
def F17 : Fun := ⟨3, 68, [(6, none), (7, none)],
 .seq (
 .region [⟨some 3, .box 22 (.t 0), none⟩,
   ⟨some 4, .box 3 (.t 1), none⟩,
   ⟨some 6, .mov (.c (.nils 10)), none⟩,
   ⟨some 7, .mov (.c (.int .i64 0)), none⟩] none) (
 .seq (
 .region [⟨some 8, .mov (.c (.nils 10)), none⟩] none) (
 .seq (
 .seq (
 .region [⟨some 9, .mov (.c (.int .i64 0)), none⟩] none) (
 .block 0 (
  .loop [1001700, 2, 3, 4, 8, 9, 2000000, 6, 7, 8] (
   .seq (
   .seq (
   .region [⟨some 14, .mov (.t 9), none⟩,
     ⟨some 15, .faddr 2 (.t 4), none⟩,
     ⟨some 16, .load false 1 [.slice 3] (.t 15), none⟩,
     ⟨some 17, .len .l (.t 16), none⟩,
     ⟨some 18, .bin .lss (.t 14) (.t 17), none⟩] none) (
   .cond (.t 18) (
    .skip) (
    .exit 0))) (
   .seq (
   .block 1 (
    .seq (
    .region [⟨some 21, .faddr 2 (.t 4), none⟩,
      ⟨some 22, .load false 1 [.slice 3] (.t 21), none⟩,
      ⟨some 23, .mov (.t 9), none⟩,
      ⟨some 24, .iaddr 3 [.int .i64, .int .i64, .str] (.t 22) (.t 23), none⟩,
      ⟨some 25, .load true 3 [.int .i64, .int .i64, .str] (.t 24), none⟩,
      ⟨some 10, .alloc (.agg [.int .i64 0, .int .i64 0, .str []]), none⟩,
      ⟨none, .store 3 (.t 10) (.t 25), none⟩] none) (
    .seq (
    .region [⟨some 27, .load true 22 [.slice 2, .slice 3, .slice 4, .int .i64, .int .i64, .int .i64, .int .i64, .int .i64, .int .i64, .int .i64, .int .i64, .int .i64, .int .i64, .int .i64, .int .i64, .int .i64, .int .i64, .slice 19, .slice 7, .slice 10, .slice 6, .slice 7] (.t 3), none⟩,
      ⟨some 28, .faddr 0 (.t 10), none⟩,
      ⟨some 29, .load false 1 [.int .i64] (.t 28), none⟩,
      ⟨some 30, .mov (.t 2), none⟩,
      ⟨some 31, .call 37 [.t 27, .t 29, .t 30], none⟩,
      ⟨some 26, .mov (.t 31), none⟩,
      ⟨some 32, .ext (.t 26) 0, none⟩,
      ⟨some 33, .ext (.t 26) 1, none⟩,
      ⟨some 11, .alloc (.agg [.str [], .str [], .str [], .int .i64 0, .int .i64 0, .int .i64 0, .int .i64 0, .nils 2, .bool false, .int .i64 0, .int .i64 0, .bool false, .nils 2, .bool false, .int .i64 0, .int .i64 0, .bool false, .nils 10, .nils 6]), none⟩,
      ⟨none, .store 19 (.t 11) (.t 32), none⟩,
      ⟨some 12, .mov (.t 33), none⟩] none) (
    .seq (
    .seq (
    .region [⟨some 34, .mov (.t 12), none⟩,
      ⟨some 35, .un .not (.t 34), none⟩] none) (
    .cond (.t 35) (
     .seq (
     .region [⟨some 6, .mov (.c (.nils 10)), none⟩,
       ⟨some 7, .mov (.c (.int .i64 11)), none⟩] none) (
     .ret)) (
     .skip))) (
    .seq (
    .region [⟨some 36, .mov (.t 2), none⟩,
      ⟨some 37, .mov (.t 2), none⟩,
      ⟨some 38, .faddr 2 (.t 10), none⟩,
      ⟨some 39, .load false 1 [.str] (.t 38), none⟩,
      ⟨some 40, .build [.int .i64 0, .int .i64 0, .int .i64 0, .int .i64 0, .int .i64 0, .int .i64 0, .str [], .str [], .nils 3, .int .u64 0] [(1, 1, (.t 36)), (2, 1, (.t 37)), (3, 1, (.c (.int .i64 1))), (4, 1, (.c (.int .i64 3))), (6, 1, (.t 39))], none⟩,
      ⟨some 13, .alloc (.agg [.int .i64 0, .int .i64 0, .int .i64 0, .int .i64 0, .int .i64 0, .int .i64 0, .str [], .str [], .nils 3, .int .u64 0]), none⟩,
      ⟨none, .store 10 (.t 13) (.t 40), none⟩] none) (
    .seq (
    .seq (
    .region [⟨some 41, .faddr 1 (.t 10), none⟩,
      ⟨some 42, .load false 1 [.int .i64] (.t 41), none⟩,
      ⟨some 43, .bin .lss (.t 42) (.c (.int .i64 0)), none⟩] none) (
    .cond (.t 43) (
     .region [⟨some 44, .faddr 3 (.t 13), none⟩,
       ⟨none, .store 1 (.t 44) (.c (.int .i64 2)), none⟩] none) (
     .skip))) (
    .seq (
    .region [⟨some 45, .faddr 3 (.t 3), none⟩,
      ⟨some 46, .faddr 0 (.t 45), none⟩,
      ⟨some 47, .load false 1 [.int .i64] (.t 46), none⟩,
      ⟨some 48, .faddr 1 (.t 10), none⟩,
      ⟨some 49, .load false 1 [.int .i64] (.t 48), none⟩,
      ⟨some 50, .faddr 1 (.t 11), none⟩,
      ⟨some 51, .load false 1 [.str] (.t 50), none⟩,
      ⟨some 52, .build [.int .i64 0, .int .i64 0, .str []] [(0, 1, (.t 47)), (1, 1, (.t 49)), (2, 1, (.t 51))], none⟩,
      ⟨some 53, .faddr 0 (.t 10), none⟩,
      ⟨some 54, .load false 1 [.int .i64] (.t 53), none⟩,
      ⟨some 55, .faddr 1 (.t 10), none⟩,
      ⟨some 56, .load false 1 [.int .i64] (.t 55), none⟩,
      ⟨some 57, .un .neg (.t 56), none⟩,
      ⟨some 58, .faddr 1 (.t 11), none⟩,
      ⟨some 59, .load false 1 [.str] (.t 58), none⟩,
      ⟨some 60, .build [.int .i64 0, .int .i64 0, .str []] [(0, 1, (.t 54)), (1, 1, (.t 57)), (2, 1, (.t 59))], none⟩,
      ⟨some 61, .bslice 3 (.agg [.int .i64 0, .int .i64 0, .str []]) 2 [(0, (.t 52)), (1, (.t 60))], none⟩,
      ⟨some 62, .faddr 8 (.t 13), none⟩,
      ⟨none, .store 1 (.t 62) (.t 61), none⟩] none) (
    .region [⟨some 63, .mov (.t 8), none⟩,
      ⟨some 64, .load true 10 [.int .i64, .int .i64, .int .i64, .int .i64, .int .i64, .int .i64, .str, .str, .slice 3, .int .u64] (.t 13), none⟩,
      ⟨some 65, .bslice 10 (.agg [.int .i64 0, .int .i64 0, .int .i64 0, .int .i64 0, .int .i64 0, .int .i64 0, .str [], .str [], .nils 3, .int .u64 0]) 1 [(0, (.t 64))], none⟩,
      ⟨some 66, .app 10 112 (.t 63) (.t 65), none⟩,
      ⟨some 8, .mov (.t 66), none⟩] none)))))))) (
   .region [⟨some 19, .mov (.t 9), none⟩,
     ⟨some 20, .bin .add (.t 19) (.c (.int .i64 1)), none⟩,
     ⟨some 9, .mov (.t 20), none⟩] none)))))) (
 .seq (
 .region [⟨some 67, .mov (.t 8), none⟩,
   ⟨some 6, .mov (.t 67), none⟩,
   ⟨some 7, .mov (.c (.int .i64 0)), none⟩] none) (
 .ret))))⟩
def K17 : List (List Nat) := [[1001700, 2, 3, 4, 8, 9, 2000000, 6, 7, 8]]
def Hn17 : List (Nat × Nat) := [(6, 10), (8, 10)]

/-- corebank/corebanklaw53.sameEntries -/
def F18 : Fun := ⟨2, 27, [(4, none)],
 .seq (
 .region [⟨some 4, .mov (.c (.bool false)), none⟩] none) (
 .seq (
 .seq (
 .region [⟨some 6, .mov (.t 0), none⟩,
   ⟨some 7, .len .l (.t 6), none⟩,
   ⟨some 8, .mov (.t 1), none⟩,
   ⟨some 9, .len .l (.t 8), none⟩,
   ⟨some 10, .bin .neq (.t 7) (.t 9), none⟩] none) (
 .cond (.t 10) (
  .seq (
  .region [⟨some 4, .mov (.c (.bool false)), none⟩] none) (
  .ret)) (
  .skip))) (
 .seq (
 .seq (
 .region [⟨some 5, .mov (.c (.int .i64 0)), none⟩] none) (
 .block 0 (
  .loop [1001800, 0, 1, 5, 2000000, 4] (
   .seq (
   .seq (
   .region [⟨some 11, .mov (.t 5), none⟩,
     ⟨some 12, .mov (.t 0), none⟩,
     ⟨some 13, .len .l (.t 12), none⟩,
     ⟨some 14, .bin .lss (.t 11) (.t 13), none⟩] none) (
   .cond (.t 14) (
    .skip) (
    .exit 0))) (
   .seq (
   .block 1 (
    .seq (
    .region [⟨some 17, .mov (.t 0), none⟩,
      ⟨some 18, .mov (.t 5), none⟩,
      ⟨some 19, .iaddr 10 [.int .i64, .int .i64, .int .i64, .int .i64, .int .i64, .int .i64, .str, .str, .slice 3, .int .u64] (.t 17) (.t 18), none⟩,
      ⟨some 20, .load true 10 [.int .i64, .int .i64, .int .i64, .int .i64, .int .i64, .int .i64, .str, .str, .slice 3, .int .u64] (.t 19), none⟩,
      ⟨some 21, .mov (.t 1), none⟩,
      ⟨some 22, .mov (.t 5), none⟩,
      ⟨some 23, .iaddr 10 [.int .i64, .int .i64, .int .i64, .int .i64, .int .i64, .int .i64, .str, .str, .slice 3, .int .u64] (.t 21) (.t 22), none⟩,
      ⟨some 24, .load true 10 [.int .i64, .int .i64, .int .i64, .int .i64, .int .i64, .int .i64, .str, .str, .slice 3, .int .u64] (.t 23), none⟩,
      ⟨some 25, .call 20 [.t 20, .t 24], none⟩,
      ⟨some 26, .un .not (.t 25), none⟩] (some [[], [], [0, 1], [2, 0, 1], [], [], [4, 5], [6, 4, 5], [3, 2, 0, 1, 7, 6, 4, 5], [8, 3, 2, 0, 1, 7, 6, 4, 5]])) (
    .cond (.t 26) (
     .seq (
     .region [⟨some 4, .mov (.c (.bool false)), none⟩] none) (
     .ret)) (
     .skip)))) (
   .region [⟨some 15, .mov (.t 5), none⟩,
     ⟨some 16, .bin .add (.t 15) (.c (.int .i64 1)), none⟩,
     ⟨some 5, .mov (.t 16), none⟩] none)))))) (
 .seq (
 .region [⟨some 4, .mov (.c (.bool true)), none⟩] none) (
 .ret))))⟩
def K18 : List (List Nat) := [[1001800, 0, 1, 5, 2000000, 4]]
def Hn18 : List (Nat × Nat) := []

/-- corebank/corebanklaw53.sample -/
def F19 : Fun := ⟨0, 4, [(0, some (true, 3))],
 .seq (
 .region [⟨some 0, .alloc (.agg [.int .i64 0, .nils 3, .nils 3]), none⟩] none) (
 .seq (
 .region [⟨some 1, .build [.int .i64 0, .int .i64 0, .int .i64 0] [(0, 1, (.c (.int .i64 1000))), (1, 1, (.c (.int .i64 500)))], none⟩,
   ⟨some 2, .bslice 3 (.agg [.int .i64 0, .int .i64 0, .int .i64 0]) 1 [(0, (.t 1))], none⟩,
   ⟨some 3, .build [.int .i64 0, .nils 3, .nils 3] [(0, 1, (.c (.int .i64 300))), (1, 1, (.t 2))], none⟩,
   ⟨none, .store 3 (.t 0) (.t 3), none⟩] none) (
 .ret))⟩
def K19 : List (List Nat) := []
def Hn19 : List (Nat × Nat) := []

/-- corebank/corebankref19.Same -/
def F20 : Fun := ⟨2, 73, [(4, none)],
 .seq (
 .region [⟨some 2, .box 10 (.t 0), none⟩,
   ⟨some 3, .box 10 (.t 1), none⟩,
   ⟨some 4, .mov (.c (.bool false)), none⟩] none) (
 .seq (
 .region [⟨some 5, .faddr 0 (.t 2), none⟩,
   ⟨some 6, .load false 1 [.int .i64] (.t 5), none⟩,
   ⟨some 7, .faddr 0 (.t 3), none⟩,
   ⟨some 8, .load false 1 [.int .i64] (.t 7), none⟩,
   ⟨some 9, .bin .eql (.t 6) (.t 8), none⟩,
   ⟨some 10, .mov (.t 9), none⟩,
   ⟨some 11, .faddr 1 (.t 2), some (10, true)⟩,
   ⟨some 12, .load false 1 [.int .i64] (.t 11), some (10, true)⟩,
   ⟨some 13, .faddr 1 (.t 3), some (10, true)⟩,
   ⟨some 14, .load false 1 [.int .i64] (.t 13), some (10, true)⟩,
   ⟨some 15, .bin .eql (.t 12) (.t 14), some (10, true)⟩,
   ⟨some 16, .pick (.t 10) (.t 15) (.c (.bool false)), none⟩,
   ⟨some 17, .mov (.t 16), none⟩,
   ⟨some 18, .faddr 2 (.t 2), some (17, true)⟩,
   ⟨some 19, .load false 1 [.int .i64] (.t 18), some (17, true)⟩,
   ⟨some 20, .faddr 2 (.t 3), some (17, true)⟩,
   ⟨some 21, .load false 1 [.int .i64] (.t 20), some (17, true)⟩,
   ⟨some 22, .bin .eql (.t 19) (.t 21), some (17, true)⟩,
   ⟨some 23, .pick (.t 17) (.t 22) (.c (.bool false)), none⟩,
   ⟨some 24, .mov (.t 23), none⟩,
   ⟨some 25, .faddr 3 (.t 2), some (24, true)⟩,
   ⟨some 26, .load false 1 [.int .i64] (.t 25), some (24, true)⟩,
   ⟨some 27, .faddr 3 (.t 3), some (24, true)⟩,
   ⟨some 28, .load false 1 [.int .i64] (.t 27), some (24, true)⟩,
   ⟨some 29, .bin .eql (.t 26) (.t 28), some (24, true)⟩,
   ⟨some 30, .pick (.t 24) (.t 29) (.c (.bool false)), none⟩,
   ⟨some 31, .mov (.t 30), none⟩,
   ⟨some 32, .faddr 4 (.t 2), some (31, true)⟩,
   ⟨some 33, .load false 1 [.int .i64] (.t 32), some (31, true)⟩,
   ⟨some 34, .faddr 4 (.t 3), some (31, true)⟩,
   ⟨some 35, .load false 1 [.int .i64] (.t 34), some (31, true)⟩,
   ⟨some 36, .bin .eql (.t 33) (.t 35), some (31, true)⟩,
   ⟨some 37, .pick (.t 31) (.t 36) (.c (.bool false)), none⟩,
   ⟨some 38, .mov (.t 37), none⟩,
   ⟨some 39, .faddr 5 (.t 2), some (38, true)⟩,
   ⟨some 40, .load false 1 [.int .i64] (.t 39), some (38, true)⟩,
   ⟨some 41, .faddr 5 (.t 3), some (38, true)⟩,
   ⟨some 42, .load false 1 [.int .i64] (.t 41), some (38, true)⟩,
   ⟨some 43, .bin .eql (.t 40) (.t 42), some (38, true)⟩,
   ⟨some 44, .pick (.t 38) (.t 43) (.c (.bool false)), none⟩,
   ⟨some 45, .mov (.t 44), none⟩,
   ⟨some 46, .faddr 6 (.t 2), some (45, true)⟩,
   ⟨some 47, .load false 1 [.str] (.t 46), some (45, true)⟩,
   ⟨some 48, .faddr 6 (.t 3), some (45, true)⟩,
   ⟨some 49, .load false 1 [.str] (.t 48), some (45, true)⟩,
   ⟨some 50, .bin .eql (.t 47) (.t 49), some (45, true)⟩,
   ⟨some 51, .pick (.t 45) (.t 50) (.c (.bool false)), none⟩,
   ⟨some 52, .mov (.t 51), none⟩,
   ⟨some 53, .faddr 7 (.t 2), some (52, true)⟩,
   ⟨some 54, .load false 1 [.str] (.t 53), some (52, true)⟩,
   ⟨some 55, .faddr 7 (.t 3), some (52, true)⟩,
   ⟨some 56, .load false 1 [.str] (.t 55), some (52, true)⟩,
   ⟨some 57, .bin .eql (.t 54) (.t 56), some (52, true)⟩,
   ⟨some 58, .pick (.t 52) (.t 57) (.c (.bool false)), none⟩,
   ⟨some 59, .mov (.t 58), none⟩,
   ⟨some 60, .faddr 9 (.t 2), some (59, true)⟩,
   ⟨some 61, .load false 1 [.int .u64] (.t 60), some (59, true)⟩,
   ⟨some 62, .faddr 9 (.t 3), some (59, true)⟩,
   ⟨some 63, .load false 1 [.int .u64] (.t 62), some (59, true)⟩,
   ⟨some 64, .bin .eql (.t 61) (.t 63), some (59, true)⟩,
   ⟨some 65, .pick (.t 59) (.t 64) (.c (.bool false)), none⟩,
   ⟨some 66, .mov (.t 65), none⟩,
   ⟨some 67, .faddr 8 (.t 2), some (66, true)⟩,
   ⟨some 68, .load false 1 [.slice 3] (.t 67), some (66, true)⟩,
   ⟨some 69, .faddr 8 (.t 3), some (66, true)⟩,
   ⟨some 70, .load false 1 [.slice 3] (.t 69), some (66, true)⟩,
   ⟨some 71, .call 38 [.t 68, .t 70], some (66, true)⟩,
   ⟨some 72, .pick (.t 66) (.t 71) (.c (.bool false)), none⟩,
   ⟨some 4, .mov (.t 72), none⟩] none) (
 .ret))⟩
def K20 : List (List Nat) := []
def Hn20 : List (Nat × Nat) := []

/-- corebank/standin.Begin -/
def F21 : Fun := ⟨3, 49, [(6, some (true, 3))],
 .seq (
 .region [⟨some 3, .box 22 (.t 0), none⟩,
   ⟨some 6, .alloc (.agg [.int .i64 0, .nils 3, .nils 3]), none⟩] none) (
 .seq (
 .region [⟨some 12, .mov (.t 2), none⟩,
   ⟨some 13, .build [.int .i64 0, .nils 3, .nils 3] [(0, 1, (.t 12))], none⟩,
   ⟨some 7, .alloc (.agg [.int .i64 0, .nils 3, .nils 3]), none⟩,
   ⟨none, .store 3 (.t 7) (.t 13), none⟩] none) (
 .seq (
 .seq (
 .region [⟨some 14, .faddr 18 (.t 3), none⟩,
   ⟨some 15, .load false 1 [.slice 7] (.t 14), none⟩,
   ⟨some 16, .len .l (.t 15), none⟩,
   ⟨some 17, .mov (.c (.int .i64 0)), none⟩] none) (
 .block 0 (
  .loop [1002100, 1, 3, 6, 7, 15, 16, 17, 2000000, 6, 7] (
   .seq (
   .region [⟨some 18, .bin .lss (.t 17) (.t 16), none⟩] none) (
   .seq (
   .cond (.t 18) (
    .skip) (
    .exit 0)) (
   .seq (
   .block 1 (
    .seq (
    .region [⟨some 19, .iaddr 7 [.int .i64, .int .i64, .int .i64, .int .i64, .str, .str, .str] (.t 15) (.t 17), none⟩,
      ⟨some 20, .load true 7 [.int .i64, .int .i64, .int .i64, .int .i64, .str, .str, .str] (.t 19), none⟩,
      ⟨some 9, .alloc (.agg [.int .i64 0, .int .i64 0, .int .i64 0, .int .i64 0, .str [], .str [], .str []]), none⟩,
      ⟨none, .store 7 (.t 9) (.t 20), none⟩] none) (
    .seq (
    .seq (
    .region [⟨some 21, .load true 22 [.slice 2, .slice 3, .slice 4, .int .i64, .int .i64, .int .i64, .int .i64, .int .i64, .int .i64, .int .i64, .int .i64, .int .i64, .int .i64, .int .i64, .int .i64, .int .i64, .int .i64, .slice 19, .slice 7, .slice 10, .slice 6, .slice 7] (.t 3), none⟩,
      ⟨some 22, .faddr 0 (.t 9), none⟩,
      ⟨some 23, .load false 1 [.int .i64] (.t 22), none⟩,
      ⟨some 24, .mov (.t 1), none⟩,
      ⟨some 25, .call 39 [.t 21, .t 23, .t 24], none⟩,
      ⟨some 26, .un .not (.t 25), none⟩] none) (
    .cond (.t 26) (
     .exit 1) (
     .skip))) (
    .seq (
    .region [⟨some 28, .load true 22 [.slice 2, .slice 3, .slice 4, .int .i64, .int .i64, .int .i64, .int .i64, .int .i64, .int .i64, .int .i64, .int .i64, .int .i64, .int .i64, .int .i64, .int .i64, .int .i64, .int .i64, .slice 19, .slice 7, .slice 10, .slice 6, .slice 7] (.t 3), none⟩,
      ⟨some 29, .faddr 0 (.t 9), none⟩,
      ⟨some 30, .load false 1 [.int .i64] (.t 29), none⟩,
      ⟨some 31, .mov (.t 1), none⟩,
      ⟨some 32, .call 40 [.t 28, .t 30, .t 31], none⟩,
      ⟨some 27, .mov (.t 32), none⟩,
      ⟨some 33, .ext (.t 27) 0, none⟩,
      ⟨some 34, .ext (.t 27) 1, none⟩,
      ⟨some 10, .mov (.t 33), none⟩,
      ⟨some 11, .mov (.t 34), none⟩] none) (
    .seq (
    .seq (
    .region [⟨some 35, .mov (.t 11), none⟩,
      ⟨some 36, .bin .neq (.t 35) (.c (.int .i64 0)), none⟩] none) (
    .cond (.t 36) (
     .region [⟨some 10, .mov (.c (.int .i64 0)), none⟩] none) (
     .skip))) (
    .region [⟨some 37, .faddr 1 (.t 7), none⟩,
      ⟨some 38, .load false 1 [.slice 3] (.t 37), none⟩,
      ⟨some 39, .faddr 0 (.t 9), none⟩,
      ⟨some 40, .load false 1 [.int .i64] (.t 39), none⟩,
      ⟨some 41, .mov (.t 10), none⟩,
      ⟨some 42, .mx [.c (.int .i64 0), .t 41], none⟩,
      ⟨some 43, .build [.int .i64 0, .int .i64 0, .int .i64 0] [(0, 1, (.t 40)), (1, 1, (.t 42))], none⟩,
      ⟨some 44, .bslice 3 (.agg [.int .i64 0, .int .i64 0, .int .i64 0]) 1 [(0, (.t 43))], none⟩,
      ⟨some 45, .app 3 24 (.t 38) (.t 44), none⟩,
      ⟨some 46, .faddr 1 (.t 7), none⟩,
      ⟨none, .store 1 (.t 46) (.t 45), none⟩] none)))))) (
   .region [⟨some 47, .bin .add (.t 17) (.c (.int .i64 1)), none⟩,
     ⟨some 17, .mov (.t 47), none⟩] none))))))) (
 .seq (
 .region [⟨some 48, .load true 3 [.int .i64, .slice 3, .slice 3] (.t 7), none⟩,
   ⟨none, .store 3 (.t 6) (.t 48), none⟩] none) (
 .ret))))⟩
def K21 : List (List Nat) := [[1002100, 1, 3, 6, 7, 15, 16, 17, 2000000, 6, 7]]
def Hn21 : List (Nat × Nat) := []

/-- corebank/standin.avail -/
def F22 : Fun := ⟨1, 41, [(2, none)],
 .seq (
 .region [⟨some 2, .mov (.c (.int .i64 0)), none⟩] none) (
 .seq (
 .seq (
 .region [⟨some 5, .mov (.t 0), none⟩,
   ⟨some 6, .len .l (.t 5), none⟩,
   ⟨some 7, .mov (.c (.int .i64 0)), none⟩] none) (
 .block 0 (
  .loop [1002200, 0, 5, 6, 7, 2000000, 2] (
   .seq (
   .region [⟨some 8, .bin .lss (.t 7) (.t 6), none⟩] none) (
   .seq (
   .cond (.t 8) (
    .skip) (
    .exit 0)) (
   .seq (
   .block 1 (
    .seq (
    .region [⟨some 9, .mov (.t 7), none⟩,
      ⟨some 10, .iaddr 3 [.int .i64, .int .i64, .int .i64] (.t 5) (.t 7), none⟩,
      ⟨some 11, .load true 3 [.int .i64, .int .i64, .int .i64] (.t 10), none⟩,
      ⟨some 4, .alloc (.agg [.int .i64 0, .int .i64 0, .int .i64 0]), none⟩,
      ⟨some 3, .mov (.t 9), none⟩,
      ⟨none, .store 3 (.t 4) (.t 11), none⟩] none) (
    .block 2 (
     .seq (
     .region [⟨some 13, .faddr 0 (.t 4), none⟩,
       ⟨some 14, .load false 1 [.int .i64] (.t 13), none⟩,
       ⟨some 15, .bin .lss (.t 14) (.c (.int .i64 1000)), none⟩,
       ⟨some 16, .mov (.t 15), none⟩,
       ⟨some 17, .faddr 1 (.t 4), some (16, false)⟩,
       ⟨some 18, .load false 1 [.int .i64] (.t 17), some (16, false)⟩,
       ⟨some 19, .bin .lss (.t 18) (.c (.int .i64 0)), some (16, false)⟩,
       ⟨some 20, .pick (.t 16) (.c (.bool true)) (.t 19), none⟩,
       ⟨some 21, .mov (.t 20), none⟩,
       ⟨some 22, .faddr 2 (.t 4), some (21, false)⟩,
       ⟨some 23, .load false 1 [.int .i64] (.t 22), some (21, false)⟩,
       ⟨some 24, .bin .lss (.t 23) (.c (.int .i64 0)), some (21, false)⟩,
       ⟨some 25, .pick (.t 21) (.c (.bool true)) (.t 24), none⟩,
       ⟨some 12, .mov (.t 25), none⟩] none) (
     .cond (.t 12) (
      .seq (
      .region [⟨some 2, .mov (.c (.int .i64 1)), none⟩] none) (
      .ret)) (
      .seq (
      .region [⟨some 27, .mov (.t 3), none⟩,
        ⟨some 28, .bin .gtr (.t 27) (.c (.int .i64 0)), none⟩,
        ⟨some 29, .mov (.t 28), none⟩,
        ⟨some 30, .faddr 0 (.t 4), some (29, true)⟩,
        ⟨some 31, .load false 1 [.int .i64] (.t 30), some (29, true)⟩,
        ⟨some 32, .mov (.t 0), some (29, true)⟩,
        ⟨some 33, .mov (.t 3), some (29, true)⟩,
        ⟨some 34, .bin .sub (.t 33) (.c (.int .i64 1)), some (29, true)⟩,
        ⟨some 35, .iaddr 3 [.int .i64, .int .i64, .int .i64] (.t 32) (.t 34), some (29, true)⟩,
        ⟨some 36, .faddr 0 (.t 35), some (29, true)⟩,
        ⟨some 37, .load false 1 [.int .i64] (.t 36), some (29, true)⟩,
        ⟨some 38, .bin .leq (.t 31) (.t 37), some (29, true)⟩,
        ⟨some 39, .pick (.t 29) (.t 38) (.c (.bool false)), none⟩,
        ⟨some 26, .mov (.t 39), none⟩] (some [[], [0], [1, 0], [2, 1, 0], [3, 2, 1, 0], [2, 1, 0], [2, 1, 0], [6, 2, 1, 0], [5, 7, 6, 2, 1, 0], [8, 5, 7, 6, 2, 1, 0], [9, 8, 5, 7, 6, 2, 1, 0], [4, 3, 10, 9, 8, 5, 7, 6, 2, 1, 0], [11, 4, 3, 10, 9, 8, 5, 7, 6, 2, 1, 0], [12, 11, 4, 3, 10, 9, 8, 5, 7, 6, 2, 1, 0]])) (
      .cond (.t 26) (
       .seq (
       .region [⟨some 2, .mov (.c (.int .i64 10)), none⟩] none) (
       .ret)) (
       .skip)))))))) (
   .region [⟨some 40, .bin .add (.t 7) (.c (.int .i64 1)), none⟩,
     ⟨some 7, .mov (.t 40), none⟩] none))))))) (
 .seq (
 .region [⟨some 2, .mov (.c (.int .i64 0)), none⟩] none) (
 .ret)))⟩
def K22 : List (List Nat) := [[1002200, 0, 5, 6, 7, 2000000, 2]]
def Hn22 : List (Nat × Nat) := []

/-- corebank/standin.queue -/
def F23 : Fun := ⟨1, 44, [(2, none)],
 .seq (
 .region [⟨some 1, .box 3 (.t 0), none⟩,
   ⟨some 2, .mov (.c (.int .i64 0)), none⟩] none) (
 .seq (
 .seq (
 .region [⟨some 5, .faddr 2 (.t 1), none⟩,
   ⟨some 6, .load false 1 [.slice 3] (.t 5), none⟩,
   ⟨some 7, .len .l (.t 6), none⟩,
   ⟨some 8, .mov (.c (.int .i64 0)), none⟩] none) (
 .block 0 (
  .loop [1002300, 1, 6, 7, 8, 2000000, 2] (
   .seq (
   .region [⟨some 9, .bin .lss (.t 8) (.t 7), none⟩] none) (
   .seq (
   .cond (.t 9) (
    .skip) (
    .exit 0)) (
   .seq (
   .block 1 (
    .seq (
    .region [⟨some 10, .mov (.t 8), none⟩,
      ⟨some 11, .iaddr 3 [.int .i64, .int .i64, .str] (.t 6) (.t 8), none⟩,
      ⟨some 12, .load true 3 [.int .i64, .int .i64, .str] (.t 11), none⟩,
      ⟨some 4, .alloc (.agg [.int .i64 0, .int .i64 0, .str []]), none⟩,
      ⟨some 3, .mov (.t 10), none⟩,
      ⟨none, .store 3 (.t 4) (.t 12), none⟩] none) (
    .block 2 (
     .seq (
     .region [⟨some 14, .faddr 1 (.t 4), none⟩,
       ⟨some 15, .load false 1 [.int .i64] (.t 14), none⟩,
       ⟨some 16, .bin .eql (.t 15) (.c (.int .i64 0)), none⟩,
       ⟨some 17, .mov (.t 16), none⟩,
       ⟨some 18, .faddr 1 (.t 4), some (17, false)⟩,
       ⟨some 19, .load false 1 [.int .i64] (.t 18), some (17, false)⟩,
       ⟨some 20, .call 29 [.t 19], some (17, false)⟩,
       ⟨some 21, .un .not (.t 20), some (17, false)⟩,
       ⟨some 22, .pick (.t 17) (.c (.bool true)) (.t 21), none⟩,
       ⟨some 23, .mov (.t 22), none⟩,
       ⟨some 24, .faddr 2 (.t 4), some (23, false)⟩,
       ⟨some 25, .load false 1 [.str] (.t 24), some (23, false)⟩,
       ⟨some 26, .call 30 [.t 25], some (23, false)⟩,
       ⟨some 27, .un .not (.t 26), some (23, false)⟩,
       ⟨some 28, .pick (.t 23) (.c (.bool true)) (.t 27), none⟩,
       ⟨some 13, .mov (.t 28), none⟩] none) (
     .cond (.t 13) (
      .seq (
      .region [⟨some 2, .mov (.c (.int .i64 1)), none⟩] none) (
      .ret)) (
      .seq (
      .region [⟨some 30, .faddr 1 (.t 1), none⟩,
        ⟨some 31, .load false 1 [.slice 3] (.t 30), none⟩,
        ⟨some 32, .faddr 0 (.t 4), none⟩,
        ⟨some 33, .load false 1 [.int .i64] (.t 32), none⟩,
        ⟨some 34, .call 28 [.t 31, .t 33], none⟩,
        ⟨some 35, .bin .lss (.t 34) (.c (.int .i64 0)), none⟩,
        ⟨some 29, .mov (.t 35), none⟩] none) (
      .cond (.t 29) (
       .seq (
       .region [⟨some 2, .mov (.c (.int .i64 11)), none⟩] none) (
       .ret)) (
       .seq (
       .region [⟨some 37, .faddr 2 (.t 1), none⟩,
         ⟨some 38, .load false 1 [.slice 3] (.t 37), none⟩,
         ⟨some 39, .mov (.t 3), none⟩,
         ⟨some 40, .slc 3 (.t 38) none (some (.t 39)), none⟩,
         ⟨some 41, .mkf 41 [.t 4], none⟩,
         ⟨some 42, .call 31 [.t 40, .t 41], none⟩,
         ⟨some 36, .mov (.t 42), none⟩] none) (
       .cond (.t 36) (
        .seq (
        .region [⟨some 2, .mov (.c (.int .i64 12)), none⟩] none) (
        .ret)) (
        .skip)))))))))) (
   .region [⟨some 43, .bin .add (.t 8) (.c (.int .i64 1)), none⟩,
     ⟨some 8, .mov (.t 43), none⟩] none))))))) (
 .seq (
 .region [⟨some 2, .mov (.c (.int .i64 0)), none⟩] none) (
 .ret)))⟩
def K23 : List (List Nat) := [[1002300, 1, 6, 7, 8, 2000000, 2]]
def Hn23 : List (Nat × Nat) := []

/-- corebank/corebankref53.shaped -/
def F24 : Fun := ⟨2, 15, [(4, none)],
 .seq (
 .region [⟨some 4, .mov (.c (.bool false)), none⟩] none) (
 .seq (
 .region [⟨some 5, .mov (.t 0), none⟩,
   ⟨some 6, .bin .neq (.t 5) (.c (.int .i64 0)), none⟩,
   ⟨some 7, .mov (.t 6), none⟩,
   ⟨some 8, .mov (.t 0), some (7, true)⟩,
   ⟨some 9, .call 42 [.t 8], some (7, true)⟩,
   ⟨some 10, .pick (.t 7) (.t 9) (.c (.bool false)), none⟩,
   ⟨some 11, .mov (.t 10), none⟩,
   ⟨some 12, .mov (.t 1), some (11, true)⟩,
   ⟨some 13, .call 43 [.t 12], some (11, true)⟩,
   ⟨some 14, .pick (.t 11) (.t 13) (.c (.bool false)), none⟩,
   ⟨some 4, .mov (.t 14), none⟩] none) (
 .ret))⟩
def K24 : List (List Nat) := []
def Hn24 : List (Nat × Nat) := []

/-- corebank/corebankref53.index -/
def F25 : Fun := ⟨2, 22, [(4, none)],
 .seq (
 .region [⟨some 2, .box 3 (.t 0), none⟩,
   ⟨some 4, .mov (.c (.int .i64 0)), none⟩] none) (
 .seq (
 .seq (
 .region [⟨some 5, .mov (.c (.int .i64 0)), none⟩] none) (
 .block 0 (
  .loop [1002500, 1, 2, 5, 2000000, 4] (
   .seq (
   .seq (
   .region [⟨some 6, .mov (.t 5), none⟩,
     ⟨some 7, .faddr 1 (.t 2), none⟩,
     ⟨some 8, .load false 1 [.slice 3] (.t 7), none⟩,
     ⟨some 9, .len .l (.t 8), none⟩,
     ⟨some 10, .bin .lss (.t 6) (.t 9), none⟩] none) (
   .cond (.t 10) (
    .skip) (
    .exit 0))) (
   .seq (
   .block 1 (
    .seq (
    .region [⟨some 13, .faddr 1 (.t 2), none⟩,
      ⟨some 14, .load false 1 [.slice 3] (.t 13), none⟩,
      ⟨some 15, .mov (.t 5), none⟩,
      ⟨some 16, .iaddr 3 [.int .i64, .int .i64, .int .i64] (.t 14) (.t 15), none⟩,
      ⟨some 17, .faddr 0 (.t 16), none⟩,
      ⟨some 18, .load false 1 [.int .i64] (.t 17), none⟩,
      ⟨some 19, .mov (.t 1), none⟩,
      ⟨some 20, .bin .eql (.t 18) (.t 19), none⟩] none) (
    .cond (.t 20) (
     .seq (
     .region [⟨some 21, .mov (.t 5), none⟩,
       ⟨some 4, .mov (.t 21), none⟩] none) (
     .ret)) (
     .skip)))) (
   .region [⟨some 11, .mov (.t 5), none⟩,
     ⟨some 12, .bin .add (.t 11) (.c (.int .i64 1)), none⟩,
     ⟨some 5, .mov (.t 12), none⟩] none)))))) (
 .seq (
 .region [⟨some 4, .mov (.c (.int .i64 (-1))), none⟩] none) (
 .ret)))⟩
def K25 : List (List Nat) := [[1002500, 1, 2, 5, 2000000, 4]]
def Hn25 : List (Nat × Nat) := []

/-- corebank/corebankref53.known -/
def F26 : Fun := ⟨2, 19, [(4, none)],
 .seq (
 .region [⟨some 4, .mov (.c (.bool false)), none⟩] none) (
 .seq (
 .seq (
 .region [⟨some 5, .mov (.c (.int .i64 0)), none⟩] none) (
 .block 0 (
  .loop [1002600, 0, 1, 5, 2000000, 4] (
   .seq (
   .seq (
   .region [⟨some 6, .mov (.t 5), none⟩,
     ⟨some 7, .mov (.t 0), none⟩,
     ⟨some 8, .len .l (.t 7), none⟩,
     ⟨some 9, .bin .lss (.t 6) (.t 8), none⟩] none) (
   .cond (.t 9) (
    .skip) (
    .exit 0))) (
   .seq (
   .block 1 (
    .seq (
    .region [⟨some 12, .mov (.t 0), none⟩,
      ⟨some 13, .mov (.t 5), none⟩,
      ⟨some 14, .iaddr 3 [.int .i64, .int .i64, .str] (.t 12) (.t 13), none⟩,
      ⟨some 15, .faddr 2 (.t 14), none⟩,
      ⟨some 16, .load false 1 [.str] (.t 15), none⟩,
      ⟨some 17, .mov (.t 1), none⟩,
      ⟨some 18, .bin .eql (.t 16) (.t 17), none⟩] none) (
    .cond (.t 18) (
     .seq (
     .region [⟨some 4, .mov (.c (.bool true)), none⟩] none) (
     .ret)) (
     .skip)))) (
   .region [⟨some 10, .mov (.t 5), none⟩,
     ⟨some 11, .bin .add (.t 10) (.c (.int .i64 1)), none⟩,
     ⟨some 5, .mov (.t 11), none⟩] none)))))) (
 .seq (
 .region [⟨some 4, .mov (.c (.bool false)), none⟩] none) (
 .ret)))⟩
def K26 : List (List Nat) := [[1002600, 0, 1, 5, 2000000, 4]]
def Hn26 : List (Nat × Nat) := []

/-- corebank/corebankref53.withdrawn -/
def F27 : Fun := ⟨2, 36, [(4, none)],
 .seq (
 .region [⟨some 4, .mov (.c (.int .i64 0)), none⟩] none) (
 .seq (
 .region [⟨some 5, .mov (.c (.int .i64 0)), none⟩] none) (
 .seq (
 .seq (
 .region [⟨some 6, .mov (.c (.int .i64 0)), none⟩] none) (
 .block 0 (
  .loop [1002700, 0, 1, 5, 6, 2000000, 5] (
   .seq (
   .seq (
   .region [⟨some 7, .mov (.t 6), none⟩,
     ⟨some 8, .mov (.t 0), none⟩,
     ⟨some 9, .len .l (.t 8), none⟩,
     ⟨some 10, .bin .lss (.t 7) (.t 9), none⟩] none) (
   .cond (.t 10) (
    .skip) (
    .exit 0))) (
   .seq (
   .block 1 (
    .seq (
    .region [⟨some 13, .mov (.t 0), none⟩,
      ⟨some 14, .mov (.t 6), none⟩,
      ⟨some 15, .iaddr 3 [.int .i64, .int .i64, .str] (.t 13) (.t 14), none⟩,
      ⟨some 16, .faddr 0 (.t 15), none⟩,
      ⟨some 17, .load false 1 [.int .i64] (.t 16), none⟩,
      ⟨some 18, .mov (.t 1), none⟩,
      ⟨some 19, .bin .eql (.t 17) (.t 18), none⟩,
      ⟨some 20, .mov (.t 19), none⟩,
      ⟨some 21, .mov (.t 0), some (20, true)⟩,
      ⟨some 22, .mov (.t 6), some (20, true)⟩,
      ⟨some 23, .iaddr 3 [.int .i64, .int .i64, .str] (.t 21) (.t 22), some (20, true)⟩,
      ⟨some 24, .faddr 1 (.t 23), some (20, true)⟩,
      ⟨some 25, .load false 1 [.int .i64] (.t 24), some (20, true)⟩,
      ⟨some 26, .bin .lss (.t 25) (.c (.int .i64 0)), some (20, true)⟩,
      ⟨some 27, .pick (.t 20) (.t 26) (.c (.bool false)), none⟩] none) (
    .cond (.t 27) (
     .region [⟨some 28, .mov (.t 5), none⟩,
       ⟨some 29, .mov (.t 0), none⟩,
       ⟨some 30, .mov (.t 6), none⟩,
       ⟨some 31, .iaddr 3 [.int .i64, .int .i64, .str] (.t 29) (.t 30), none⟩,
       ⟨some 32, .faddr 1 (.t 31), none⟩,
       ⟨some 33, .load false 1 [.int .i64] (.t 32), none⟩,
       ⟨some 34, .bin .sub (.t 28) (.t 33), none⟩,
       ⟨some 5, .mov (.t 34), none⟩] none) (
     .skip)))) (
   .region [⟨some 11, .mov (.t 6), none⟩,
     ⟨some 12, .bin .add (.t 11) (.c (.int .i64 1)), none⟩,
     ⟨some 6, .mov (.t 12), none⟩] none)))))) (
 .seq (
 .region [⟨some 35, .mov (.t 5), none⟩,
   ⟨some 4, .mov (.t 35), none⟩] none) (
 .ret))))⟩
def K27 : List (List Nat) := [[1002700, 0, 1, 5, 6, 2000000, 5]]
def Hn27 : List (Nat × Nat) := []

/-- corebank/standin.index -/
def F28 : Fun := ⟨2, 8, [(4, none)],
 .seq (
 .region [⟨some 3, .box 1 (.t 1), none⟩,
   ⟨some 4, .mov (.c (.int .i64 0)), none⟩] none) (
 .seq (
 .region [⟨some 5, .mov (.t 0), none⟩,
   ⟨some 6, .mkf 45 [.t 3], none⟩,
   ⟨some 7, .call 44 [.t 5, .t 6], none⟩,
   ⟨some 4, .mov (.t 7), none⟩] none) (
 .ret))⟩
def K28 : List (List Nat) := []
def Hn28 : List (Nat × Nat) := []

/-- corebank/money.Valid -/
def F29 : Fun := ⟨1, 9, [(2, none)],
 .seq (
 .region [⟨some 2, .mov (.c (.bool false)), none⟩] none) (
 .seq (
 .region [⟨some 3, .mov (.t 0), none⟩,
   ⟨some 4, .bin .geq (.t 3) (.c (.int .i64 (-1000000000000))), none⟩,
   ⟨some 5, .mov (.t 4), none⟩,
   ⟨some 6, .mov (.t 0), some (5, true)⟩,
   ⟨some 7, .bin .leq (.t 6) (.c (.int .i64 1000000000000)), some (5, true)⟩,
   ⟨some 8, .pick (.t 5) (.t 7) (.c (.bool false)), none⟩,
   ⟨some 2, .mov (.t 8), none⟩] none) (
 .ret))⟩
def K29 : List (List Nat) := []
def Hn29 : List (Nat × Nat) := []

/-- corebank/standin.key -/
def F30 : Fun := ⟨1, 28, [(2, none)],
 .seq (
 .region [⟨some 2, .mov (.c (.bool false)), none⟩] none) (
 .seq (
 .seq (
 .region [⟨some 4, .mov (.t 0), none⟩,
   ⟨some 5, .len .s (.t 4), none⟩,
   ⟨some 6, .mov (.c (.int .i64 0)), none⟩] none) (
 .block 0 (
  .loop [1003000, 0, 5, 6, 2000000, 0, 2] (
   .seq (
   .region [⟨some 7, .bin .lss (.t 6) (.t 5), none⟩] none) (
   .seq (
   .cond (.t 7) (
    .skip) (
    .exit 0)) (
   .seq (
   .block 1 (
    .seq (
    .region [⟨some 8, .mov (.t 6), none⟩,
      ⟨some 3, .mov (.t 8), none⟩] none) (
    .seq (
    .region [⟨some 9, .mov (.t 0), none⟩,
      ⟨some 10, .mov (.t 3), none⟩,
      ⟨some 11, .idxs (.t 9) (.t 10), none⟩,
      ⟨some 12, .bin .lss (.t 11) (.c (.int .u8 33)), none⟩,
      ⟨some 13, .mov (.t 12), none⟩,
      ⟨some 14, .mov (.t 0), some (13, false)⟩,
      ⟨some 15, .mov (.t 3), some (13, false)⟩,
      ⟨some 16, .idxs (.t 14) (.t 15), some (13, false)⟩,
      ⟨some 17, .bin .gtr (.t 16) (.c (.int .u8 126)), some (13, false)⟩,
      ⟨some 18, .pick (.t 13) (.c (.bool true)) (.t 17), none⟩] none) (
    .cond (.t 18) (
     .seq (
     .region [⟨some 2, .mov (.c (.bool false)), none⟩] none) (
     .ret)) (
     .skip))))) (
   .region [⟨some 19, .bin .add (.t 6) (.c (.int .i64 1)), none⟩,
     ⟨some 6, .mov (.t 19), none⟩] none))))))) (
 .seq (
 .region [⟨some 20, .mov (.t 0), none⟩,
   ⟨some 21, .len .s (.t 20), none⟩,
   ⟨some 22, .bin .geq (.t 21) (.c (.int .i64 1)), none⟩,
   ⟨some 23, .mov (.t 22), none⟩,
   ⟨some 24, .mov (.t 0), some (23, true)⟩,
   ⟨some 25, .len .s (.t 24), some (23, true)⟩,
   ⟨some 26, .bin .leq (.t 25) (.c (.int .i64 48)), some (23, true)⟩,
   ⟨some 27, .pick (.t 23) (.t 26) (.c (.bool false)), none⟩,
   ⟨some 2, .mov (.t 27), none⟩] none) (
 .ret)))⟩
def K30 : List (List Nat) := [[1003000, 0, 5, 6, 2000000, 0, 2]]
def Hn30 : List (Nat × Nat) := []

/-- corebank/standin.Authorize$1 -/
def F32 : Fun := ⟨1, 8, [(3, none)],
 .seq (
 .region [⟨some 2, .box 3 (.t 0), none⟩,
   ⟨some 3, .mov (.c (.bool false)), none⟩] none) (
 .seq (
 .region [⟨some 4, .faddr 2 (.t 2), none⟩,
   ⟨some 5, .load false 1 [.str] (.t 4), none⟩,
   ⟨some 6, .load false 1 [.str] (.t 1), none⟩,
   ⟨some 7, .bin .eql (.t 5) (.t 6), none⟩,
   ⟨some 3, .mov (.t 7), none⟩] none) (
 .ret))⟩
def K32 : List (List Nat) := []
def Hn32 : List (Nat × Nat) := []

/-- slices.ContainsFunc[[]corebank/api.Wait,corebank/api.Wait] -/
def F31 : Fun := ⟨2, 9, [(4, none)],
 .seq (
 .region [⟨some 4, .mov (.c (.bool false)), none⟩] none) (
 .seq (
 .region [⟨some 5, .mov (.t 0), none⟩,
   ⟨some 6, .mov (.t 1), none⟩,
   ⟨some 7, .call 46 [.t 5, .t 6], none⟩,
   ⟨some 8, .bin .geq (.t 7) (.c (.int .i64 0)), none⟩,
   ⟨some 4, .mov (.t 8), none⟩] none) (
 .ret))⟩
def K31 : List (List Nat) := []
def Hn31 : List (Nat × Nat) := []

/-- corebank/standin.sideOf -/
def F33 : Fun := ⟨1, 11, [(2, none)],
 .seq (
 .region [⟨some 2, .mov (.c (.nili)), none⟩] none) (
 .seq (
 .seq (
 .region [⟨some 3, .mov (.t 0), none⟩,
   ⟨some 4, .bin .lss (.t 3) (.c (.int .i64 0)), none⟩] none) (
 .cond (.t 4) (
  .seq (
  .region [⟨some 5, .mov (.t 0), none⟩,
    ⟨some 6, .un .neg (.t 5), none⟩,
    ⟨some 7, .build [.int .i64 0] [(0, 1, (.t 6))], none⟩,
    ⟨some 8, .mki 101 (.t 7), none⟩,
    ⟨some 2, .mov (.t 8), none⟩] none) (
  .ret)) (
  .skip))) (
 .seq (
 .region [⟨some 9, .build [] [], none⟩,
   ⟨some 10, .mki 103 (.t 9), none⟩,
   ⟨some 2, .mov (.t 10), none⟩] none) (
 .ret)))⟩
def K33 : List (List Nat) := []
def Hn33 : List (Nat × Nat) := []

/-- (corebank/standin.deposit).accept -/
def F78 : Fun := ⟨3, 9, [(6, some (true, 3)), (7, none)],
 .seq (
 .region [⟨some 3, .box 0 (.t 0), none⟩,
   ⟨some 4, .box 3 (.t 1), none⟩,
   ⟨some 6, .alloc (.agg [.int .i64 0, .int .i64 0, .int .i64 0]), none⟩,
   ⟨some 7, .mov (.c (.int .i64 0)), none⟩] none) (
 .seq (
 .region [⟨some 8, .load true 3 [.int .i64, .int .i64, .int .i64] (.t 4), none⟩,
   ⟨none, .store 3 (.t 6) (.t 8), none⟩,
   ⟨some 7, .mov (.c (.int .i64 0)), none⟩] none) (
 .ret))⟩
def K78 : List (List Nat) := []
def Hn78 : List (Nat × Nat) := []

/-- (corebank/standin.withdrawal).accept -/
def F77 : Fun := ⟨3, 26, [(6, some (true, 3)), (7, none)],
 .seq (
 .region [⟨some 3, .box 1 (.t 0), none⟩,
   ⟨some 4, .box 3 (.t 1), none⟩,
   ⟨some 6, .alloc (.agg [.int .i64 0, .int .i64 0, .int .i64 0]), none⟩,
   ⟨some 7, .mov (.c (.int .i64 0)), none⟩] none) (
 .seq (
 .seq (
 .region [⟨some 8, .faddr 0 (.t 3), none⟩,
   ⟨some 9, .load false 1 [.int .i64] (.t 8), none⟩,
   ⟨some 10, .faddr 1 (.t 4), none⟩,
   ⟨some 11, .load false 1 [.int .i64] (.t 10), none⟩,
   ⟨some 12, .mov (.t 2), none⟩,
   ⟨some 13, .mn [.t 11, .t 12], none⟩,
   ⟨some 14, .faddr 2 (.t 4), none⟩,
   ⟨some 15, .load false 1 [.int .i64] (.t 14), none⟩,
   ⟨some 16, .bin .sub (.t 13) (.t 15), none⟩,
   ⟨some 17, .bin .gtr (.t 9) (.t 16), none⟩] none) (
 .cond (.t 17) (
  .seq (
  .region [⟨some 18, .build [.int .i64 0, .int .i64 0, .int .i64 0] [], none⟩,
    ⟨none, .store 3 (.t 6) (.t 18), none⟩,
    ⟨some 7, .mov (.c (.int .i64 18)), none⟩] none) (
  .ret)) (
  .skip))) (
 .seq (
 .region [⟨some 19, .faddr 2 (.t 4), none⟩,
   ⟨some 20, .load false 1 [.int .i64] (.t 19), none⟩,
   ⟨some 21, .faddr 0 (.t 3), none⟩,
   ⟨some 22, .load false 1 [.int .i64] (.t 21), none⟩,
   ⟨some 23, .bin .add (.t 20) (.t 22), none⟩,
   ⟨some 24, .faddr 2 (.t 4), none⟩,
   ⟨none, .store 1 (.t 24) (.t 23), none⟩] none) (
 .seq (
 .region [⟨some 25, .load true 3 [.int .i64, .int .i64, .int .i64] (.t 4), none⟩,
   ⟨none, .store 3 (.t 6) (.t 25), none⟩,
   ⟨some 7, .mov (.c (.int .i64 0)), none⟩] none) (
 .ret))))⟩
def K77 : List (List Nat) := []
def Hn77 : List (Nat × Nat) := []

/-- slices.Clone[[]corebank/api.Avail,corebank/api.Avail] -/
def F34 : Fun := ⟨1, 8, [(2, none)],
 .seq (
 .region [⟨some 2, .mov (.c (.nils 3)), none⟩] none) (
 .seq (
 .seq (
 .region [⟨some 3, .mov (.t 0), none⟩,
   ⟨some 4, .eqn .s false (.t 3) (.c (.nils 0)), none⟩] none) (
 .cond (.t 4) (
  .seq (
  .region [⟨some 2, .mov (.c (.nils 3)), none⟩] none) (
  .ret)) (
  .skip))) (
 .seq (
 .region [⟨some 5, .bslice 3 (.agg [.int .i64 0, .int .i64 0, .int .i64 0]) 0 [], none⟩,
   ⟨some 6, .mov (.t 0), none⟩,
   ⟨some 7, .app 3 24 (.t 5) (.t 6), none⟩,
   ⟨some 2, .mov (.t 7), none⟩] none) (
 .ret)))⟩
def K34 : List (List Nat) := []
def Hn34 : List (Nat × Nat) := [(2, 3)]

/-- slices.Clone[[]corebank/api.Wait,corebank/api.Wait] -/
def F35 : Fun := ⟨1, 8, [(2, none)],
 .seq (
 .region [⟨some 2, .mov (.c (.nils 3)), none⟩] none) (
 .seq (
 .seq (
 .region [⟨some 3, .mov (.t 0), none⟩,
   ⟨some 4, .eqn .s false (.t 3) (.c (.nils 0)), none⟩] none) (
 .cond (.t 4) (
  .seq (
  .region [⟨some 2, .mov (.c (.nils 3)), none⟩] none) (
  .ret)) (
  .skip))) (
 .seq (
 .region [⟨some 5, .bslice 3 (.agg [.int .i64 0, .int .i64 0, .str []]) 0 [], none⟩,
   ⟨some 6, .mov (.t 0), none⟩,
   ⟨some 7, .app 3 32 (.t 5) (.t 6), none⟩,
   ⟨some 2, .mov (.t 7), none⟩] none) (
 .ret)))⟩
def K35 : List (List Nat) := []
def Hn35 : List (Nat × Nat) := [(2, 3)]

/-- corebank/account.Product -/
def F36 : Fun := ⟨3, 27, [(6, some (true, 19)), (7, none)],
 .seq (
 .region [⟨some 3, .box 22 (.t 0), none⟩,
   ⟨some 6, .alloc (.agg [.str [], .str [], .str [], .int .i64 0, .int .i64 0, .int .i64 0, .int .i64 0, .nils 2, .bool false, .int .i64 0, .int .i64 0, .bool false, .nils 2, .bool false, .int .i64 0, .int .i64 0, .bool false, .nils 10, .nils 6]), none⟩,
   ⟨some 7, .mov (.c (.bool false)), none⟩] none) (
 .seq (
 .region [⟨some 11, .load true 22 [.slice 2, .slice 3, .slice 4, .int .i64, .int .i64, .int .i64, .int .i64, .int .i64, .int .i64, .int .i64, .int .i64, .int .i64, .int .i64, .int .i64, .int .i64, .int .i64, .int .i64, .slice 19, .slice 7, .slice 10, .slice 6, .slice 7] (.t 3), none⟩,
   ⟨some 12, .mov (.t 1), none⟩,
   ⟨some 13, .call 47 [.t 11, .t 12], none⟩,
   ⟨some 10, .mov (.t 13), none⟩,
   ⟨some 14, .ext (.t 10) 0, none⟩,
   ⟨some 15, .ext (.t 10) 1, none⟩,
   ⟨some 8, .alloc (.agg [.int .i64 0, .int .i64 0, .int .i64 0, .int .i64 0, .str [], .str [], .str []]), none⟩,
   ⟨none, .store 7 (.t 8) (.t 14), none⟩,
   ⟨some 9, .mov (.t 15), none⟩] none) (
 .seq (
 .seq (
 .region [⟨some 16, .mov (.t 9), none⟩,
   ⟨some 17, .un .not (.t 16), none⟩] none) (
 .cond (.t 17) (
  .seq (
  .region [⟨some 18, .build [.str [], .str [], .str [], .int .i64 0, .int .i64 0, .int .i64 0, .int .i64 0, .nils 2, .bool false, .int .i64 0, .int .i64 0, .bool false, .nils 2, .bool false, .int .i64 0, .int .i64 0, .bool false, .nils 10, .nils 6] [], none⟩,
    ⟨none, .store 19 (.t 6) (.t 18), none⟩,
    ⟨some 7, .mov (.c (.bool false)), none⟩] none) (
  .ret)) (
  .skip))) (
 .seq (
 .region [⟨some 19, .faddr 17 (.t 3), none⟩,
   ⟨some 20, .load false 1 [.slice 19] (.t 19), none⟩,
   ⟨some 21, .faddr 5 (.t 8), none⟩,
   ⟨some 22, .load false 1 [.str] (.t 21), none⟩,
   ⟨some 23, .mov (.t 2), none⟩,
   ⟨some 24, .call 48 [.t 20, .t 22, .t 23], none⟩,
   ⟨some 25, .ext (.t 24) 0, none⟩,
   ⟨some 26, .ext (.t 24) 1, none⟩,
   ⟨none, .store 19 (.t 6) (.t 25), none⟩,
   ⟨some 7, .mov (.t 26), none⟩] none) (
 .ret))))⟩
def K36 : List (List Nat) := []
def Hn36 : List (Nat × Nat) := []

/-- corebank/corebankref24.Product -/
def F37 : Fun := ⟨3, 27, [(6, some (true, 19)), (7, none)],
 .seq (
 .region [⟨some 3, .box 22 (.t 0), none⟩,
   ⟨some 6, .alloc (.agg [.str [], .str [], .str [], .int .i64 0, .int .i64 0, .int .i64 0, .int .i64 0, .nils 2, .bool false, .int .i64 0, .int .i64 0, .bool false, .nils 2, .bool false, .int .i64 0, .int .i64 0, .bool false, .nils 10, .nils 6]), none⟩,
   ⟨some 7, .mov (.c (.bool false)), none⟩] none) (
 .seq (
 .region [⟨some 11, .load true 22 [.slice 2, .slice 3, .slice 4, .int .i64, .int .i64, .int .i64, .int .i64, .int .i64, .int .i64, .int .i64, .int .i64, .int .i64, .int .i64, .int .i64, .int .i64, .int .i64, .int .i64, .slice 19, .slice 7, .slice 10, .slice 6, .slice 7] (.t 3), none⟩,
   ⟨some 12, .mov (.t 1), none⟩,
   ⟨some 13, .call 49 [.t 11, .t 12], none⟩,
   ⟨some 10, .mov (.t 13), none⟩,
   ⟨some 14, .ext (.t 10) 0, none⟩,
   ⟨some 15, .ext (.t 10) 1, none⟩,
   ⟨some 8, .alloc (.agg [.int .i64 0, .int .i64 0, .int .i64 0, .int .i64 0, .str [], .str [], .str []]), none⟩,
   ⟨none, .store 7 (.t 8) (.t 14), none⟩,
   ⟨some 9, .mov (.t 15), none⟩] none) (
 .seq (
 .seq (
 .region [⟨some 16, .mov (.t 9), none⟩,
   ⟨some 17, .un .not (.t 16), none⟩] none) (
 .cond (.t 17) (
  .seq (
  .region [⟨some 18, .build [.str [], .str [], .str [], .int .i64 0, .int .i64 0, .int .i64 0, .int .i64 0, .nils 2, .bool false, .int .i64 0, .int .i64 0, .bool false, .nils 2, .bool false, .int .i64 0, .int .i64 0, .bool false, .nils 10, .nils 6] [], none⟩,
    ⟨none, .store 19 (.t 6) (.t 18), none⟩,
    ⟨some 7, .mov (.c (.bool false)), none⟩] none) (
  .ret)) (
  .skip))) (
 .seq (
 .region [⟨some 19, .faddr 17 (.t 3), none⟩,
   ⟨some 20, .load false 1 [.slice 19] (.t 19), none⟩,
   ⟨some 21, .faddr 5 (.t 8), none⟩,
   ⟨some 22, .load false 1 [.str] (.t 21), none⟩,
   ⟨some 23, .mov (.t 2), none⟩,
   ⟨some 24, .call 50 [.t 20, .t 22, .t 23], none⟩,
   ⟨some 25, .ext (.t 24) 0, none⟩,
   ⟨some 26, .ext (.t 24) 1, none⟩,
   ⟨none, .store 19 (.t 6) (.t 25), none⟩,
   ⟨some 7, .mov (.t 26), none⟩] none) (
 .ret))))⟩
def K37 : List (List Nat) := []
def Hn37 : List (Nat × Nat) := []

/-- corebank/corebankref19.SameLegs -/
def F38 : Fun := ⟨2, 26, [(4, none)],
 .seq (
 .region [⟨some 4, .mov (.c (.bool false)), none⟩] none) (
 .seq (
 .seq (
 .region [⟨some 6, .mov (.t 0), none⟩,
   ⟨some 7, .len .l (.t 6), none⟩,
   ⟨some 8, .mov (.t 1), none⟩,
   ⟨some 9, .len .l (.t 8), none⟩,
   ⟨some 10, .bin .neq (.t 7) (.t 9), none⟩] none) (
 .cond (.t 10) (
  .seq (
  .region [⟨some 4, .mov (.c (.bool false)), none⟩] none) (
  .ret)) (
  .skip))) (
 .seq (
 .seq (
 .region [⟨some 5, .mov (.c (.int .i64 0)), none⟩] none) (
 .block 0 (
  .loop [1003800, 0, 1, 5, 2000000, 4] (
   .seq (
   .seq (
   .region [⟨some 11, .mov (.t 5), none⟩,
     ⟨some 12, .mov (.t 0), none⟩,
     ⟨some 13, .len .l (.t 12), none⟩,
     ⟨some 14, .bin .lss (.t 11) (.t 13), none⟩] none) (
   .cond (.t 14) (
    .skip) (
    .exit 0))) (
   .seq (
   .block 1 (
    .seq (
    .region [⟨some 17, .mov (.t 0), none⟩,
      ⟨some 18, .mov (.t 5), none⟩,
      ⟨some 19, .iaddr 3 [.int .i64, .int .i64, .str] (.t 17) (.t 18), none⟩,
      ⟨some 20, .load true 3 [.int .i64, .int .i64, .str] (.t 19), none⟩,
      ⟨some 21, .mov (.t 1), none⟩,
      ⟨some 22, .mov (.t 5), none⟩,
      ⟨some 23, .iaddr 3 [.int .i64, .int .i64, .str] (.t 21) (.t 22), none⟩,
      ⟨some 24, .load true 3 [.int .i64, .int .i64, .str] (.t 23), none⟩,
      ⟨some 25, .eqs (true, [.i, .i, .s]) true (.t 20) (.t 24), none⟩] (some [[], [], [0, 1], [2, 0, 1], [], [], [4, 5], [6, 4, 5], [3, 2, 0, 1, 7, 6, 4, 5]])) (
    .cond (.t 25) (
     .seq (
     .region [⟨some 4, .mov (.c (.bool false)), none⟩] none) (
     .ret)) (
     .skip)))) (
   .region [⟨some 15, .mov (.t 5), none⟩,
     ⟨some 16, .bin .add (.t 15) (.c (.int .i64 1)), none⟩,
     ⟨some 5, .mov (.t 16), none⟩] none)))))) (
 .seq (
 .region [⟨some 4, .mov (.c (.bool true)), none⟩] none) (
 .ret))))⟩
def K38 : List (List Nat) := [[1003800, 0, 1, 5, 2000000, 4]]
def Hn38 : List (Nat × Nat) := []

/-- corebank/account.Active -/
def F39 : Fun := ⟨3, 33, [(6, none)],
 .seq (
 .region [⟨some 3, .box 22 (.t 0), none⟩,
   ⟨some 6, .mov (.c (.bool false)), none⟩] none) (
 .seq (
 .region [⟨some 10, .load true 22 [.slice 2, .slice 3, .slice 4, .int .i64, .int .i64, .int .i64, .int .i64, .int .i64, .int .i64, .int .i64, .int .i64, .int .i64, .int .i64, .int .i64, .int .i64, .int .i64, .int .i64, .slice 19, .slice 7, .slice 10, .slice 6, .slice 7] (.t 3), none⟩,
   ⟨some 11, .mov (.t 1), none⟩,
   ⟨some 12, .call 47 [.t 10, .t 11], none⟩,
   ⟨some 9, .mov (.t 12), none⟩,
   ⟨some 13, .ext (.t 9) 0, none⟩,
   ⟨some 14, .ext (.t 9) 1, none⟩,
   ⟨some 7, .alloc (.agg [.int .i64 0, .int .i64 0, .int .i64 0, .int .i64 0, .str [], .str [], .str []]), none⟩,
   ⟨none, .store 7 (.t 7) (.t 13), none⟩,
   ⟨some 8, .mov (.t 14), none⟩] none) (
 .seq (
 .region [⟨some 15, .mov (.t 8), none⟩,
   ⟨some 16, .mov (.t 15), none⟩,
   ⟨some 17, .faddr 1 (.t 7), some (16, true)⟩,
   ⟨some 18, .load false 1 [.int .i64] (.t 17), some (16, true)⟩,
   ⟨some 19, .mov (.t 2), some (16, true)⟩,
   ⟨some 20, .bin .leq (.t 18) (.t 19), some (16, true)⟩,
   ⟨some 21, .pick (.t 16) (.t 20) (.c (.bool false)), none⟩,
   ⟨some 22, .mov (.t 21), none⟩,
   ⟨some 23, .faddr 2 (.t 7), some (22, true)⟩,
   ⟨some 24, .load false 1 [.int .i64] (.t 23), some (22, true)⟩,
   ⟨some 25, .bin .eql (.t 24) (.c (.int .i64 0)), some (22, true)⟩,
   ⟨some 26, .mov (.t 25), some (22, true)⟩,
   ⟨some 27, .faddr 2 (.t 7), some (26, false)⟩,
   ⟨some 28, .load false 1 [.int .i64] (.t 27), some (26, false)⟩,
   ⟨some 29, .mov (.t 2), some (26, false)⟩,
   ⟨some 30, .bin .gtr (.t 28) (.t 29), some (26, false)⟩,
   ⟨some 31, .pick (.t 26) (.c (.bool true)) (.t 30), some (22, true)⟩,
   ⟨some 32, .pick (.t 22) (.t 31) (.c (.bool false)), none⟩,
   ⟨some 6, .mov (.t 32), none⟩] none) (
 .ret)))⟩
def K39 : List (List Nat) := []
def Hn39 : List (Nat × Nat) := []

/-- corebank/limit.Available -/
def F40 : Fun := ⟨3, 38, [(6, none), (7, none)],
 .seq (
 .region [⟨some 3, .box 22 (.t 0), none⟩,
   ⟨some 6, .mov (.c (.int .i64 0)), none⟩,
   ⟨some 7, .mov (.c (.int .i64 0)), none⟩] none) (
 .seq (
 .region [⟨some 11, .load true 22 [.slice 2, .slice 3, .slice 4, .int .i64, .int .i64, .int .i64, .int .i64, .int .i64, .int .i64, .int .i64, .int .i64, .int .i64, .int .i64, .int .i64, .int .i64, .int .i64, .int .i64, .slice 19, .slice 7, .slice 10, .slice 6, .slice 7] (.t 3), none⟩,
   ⟨some 12, .mov (.t 1), none⟩,
   ⟨some 13, .mov (.t 2), none⟩,
   ⟨some 14, .call 51 [.t 11, .t 12, .t 13], none⟩,
   ⟨some 10, .mov (.t 14), none⟩,
   ⟨some 15, .ext (.t 10) 0, none⟩,
   ⟨some 16, .ext (.t 10) 1, none⟩,
   ⟨some 8, .mov (.t 15), none⟩,
   ⟨some 9, .mov (.t 16), none⟩] none) (
 .seq (
 .seq (
 .region [⟨some 17, .mov (.t 9), none⟩,
   ⟨some 18, .bin .neq (.t 17) (.c (.int .i64 0)), none⟩] none) (
 .cond (.t 18) (
  .seq (
  .region [⟨some 19, .mov (.t 9), none⟩,
    ⟨some 6, .mov (.c (.int .i64 0)), none⟩,
    ⟨some 7, .mov (.t 19), none⟩] none) (
  .ret)) (
  .skip))) (
 .seq (
 .region [⟨some 20, .faddr 19 (.t 3), none⟩,
   ⟨some 21, .load false 1 [.slice 10] (.t 20), none⟩,
   ⟨some 22, .mov (.t 1), none⟩,
   ⟨some 23, .call 52 [.t 21, .t 22], none⟩,
   ⟨some 24, .mov (.t 8), none⟩,
   ⟨some 25, .bin .sub (.t 23) (.t 24), none⟩,
   ⟨some 26, .faddr 20 (.t 3), none⟩,
   ⟨some 27, .load false 1 [.slice 6] (.t 26), none⟩,
   ⟨some 28, .mov (.t 1), none⟩,
   ⟨some 29, .mov (.t 2), none⟩,
   ⟨some 30, .call 53 [.t 27, .t 28, .t 29], none⟩,
   ⟨some 31, .bin .sub (.t 25) (.t 30), none⟩,
   ⟨some 32, .faddr 21 (.t 3), none⟩,
   ⟨some 33, .load false 1 [.slice 7] (.t 32), none⟩,
   ⟨some 34, .mov (.t 1), none⟩,
   ⟨some 35, .mov (.t 2), none⟩,
   ⟨some 36, .call 54 [.t 33, .t 34, .t 35], none⟩,
   ⟨some 37, .bin .sub (.t 31) (.t 36), none⟩,
   ⟨some 6, .mov (.t 37), none⟩,
   ⟨some 7, .mov (.c (.int .i64 0)), none⟩] (some [[], [0], [], [1, 0, 2], [], [3, 1, 0, 2, 4], [], [6], [], [], [7, 6, 8, 9, 3, 1, 0, 2], [5, 4, 10, 7, 6, 8, 9, 3, 1, 0, 2], [], [12], [], [], [13, 12, 14, 15, 10, 7, 6, 8, 9, 3, 1, 0, 2], [11, 5, 4, 16, 13, 12, 14, 15, 10, 7, 6, 8, 9, 3, 1, 0, 2], [17, 11, 5, 4, 16, 13, 12, 14, 15, 10, 7, 6, 8, 9, 3, 1, 0, 2], [18, 17, 11, 5, 4, 16, 13, 12, 14, 15, 10, 7, 6, 8, 9, 3, 1, 0, 2]])) (
 .ret))))⟩
def K40 : List (List Nat) := []
def Hn40 : List (Nat × Nat) := []

/-- corebank/standin.queue$1 -/
def F41 : Fun := ⟨1, 9, [(3, none)],
 .seq (
 .region [⟨some 2, .box 3 (.t 0), none⟩,
   ⟨some 3, .mov (.c (.bool false)), none⟩] none) (
 .seq (
 .region [⟨some 4, .faddr 2 (.t 2), none⟩,
   ⟨some 5, .load false 1 [.str] (.t 4), none⟩,
   ⟨some 6, .faddr 2 (.t 1), none⟩,
   ⟨some 7, .load false 1 [.str] (.t 6), none⟩,
   ⟨some 8, .bin .eql (.t 5) (.t 7), none⟩,
   ⟨some 3, .mov (.t 8), none⟩] none) (
 .ret))⟩
def K41 : List (List Nat) := []
def Hn41 : List (Nat × Nat) := []

/-- corebank/corebankref03.Valid -/
def F42 : Fun := ⟨1, 9, [(2, none)],
 .seq (
 .region [⟨some 2, .mov (.c (.bool false)), none⟩] none) (
 .seq (
 .region [⟨some 3, .mov (.t 0), none⟩,
   ⟨some 4, .bin .geq (.t 3) (.c (.int .i64 (-1000000000000))), none⟩,
   ⟨some 5, .mov (.t 4), none⟩,
   ⟨some 6, .mov (.t 0), some (5, true)⟩,
   ⟨some 7, .bin .leq (.t 6) (.c (.int .i64 1000000000000)), some (5, true)⟩,
   ⟨some 8, .pick (.t 5) (.t 7) (.c (.bool false)), none⟩,
   ⟨some 2, .mov (.t 8), none⟩] none) (
 .ret))⟩
def K42 : List (List Nat) := []
def Hn42 : List (Nat × Nat) := []

/-- corebank/corebankref42.Key -/
def F43 : Fun := ⟨1, 27, [(2, none)],
 .seq (
 .region [⟨some 2, .mov (.c (.bool false)), none⟩] none) (
 .seq (
 .seq (
 .region [⟨some 4, .mov (.t 0), none⟩,
   ⟨some 5, .bin .eql (.t 4) (.c (.str [])), none⟩,
   ⟨some 6, .mov (.t 5), none⟩,
   ⟨some 7, .mov (.t 0), some (6, false)⟩,
   ⟨some 8, .len .s (.t 7), some (6, false)⟩,
   ⟨some 9, .bin .gtr (.t 8) (.c (.int .i64 48)), some (6, false)⟩,
   ⟨some 10, .pick (.t 6) (.c (.bool true)) (.t 9), none⟩] none) (
 .cond (.t 10) (
  .seq (
  .region [⟨some 2, .mov (.c (.bool false)), none⟩] none) (
  .ret)) (
  .skip))) (
 .seq (
 .seq (
 .region [⟨some 3, .mov (.c (.int .i64 0)), none⟩] none) (
 .block 0 (
  .loop [1004300, 0, 3, 2000000, 2] (
   .seq (
   .seq (
   .region [⟨some 11, .mov (.t 3), none⟩,
     ⟨some 12, .mov (.t 0), none⟩,
     ⟨some 13, .len .s (.t 12), none⟩,
     ⟨some 14, .bin .lss (.t 11) (.t 13), none⟩] none) (
   .cond (.t 14) (
    .skip) (
    .exit 0))) (
   .seq (
   .block 1 (
    .seq (
    .region [⟨some 17, .mov (.t 0), none⟩,
      ⟨some 18, .mov (.t 3), none⟩,
      ⟨some 19, .idxs (.t 17) (.t 18), none⟩,
      ⟨some 20, .bin .lss (.t 19) (.c (.int .u8 33)), none⟩,
      ⟨some 21, .mov (.t 20), none⟩,
      ⟨some 22, .mov (.t 0), some (21, false)⟩,
      ⟨some 23, .mov (.t 3), some (21, false)⟩,
      ⟨some 24, .idxs (.t 22) (.t 23), some (21, false)⟩,
      ⟨some 25, .bin .gtr (.t 24) (.c (.int .u8 126)), some (21, false)⟩,
      ⟨some 26, .pick (.t 21) (.c (.bool true)) (.t 25), none⟩] none) (
    .cond (.t 26) (
     .seq (
     .region [⟨some 2, .mov (.c (.bool false)), none⟩] none) (
     .ret)) (
     .skip)))) (
   .region [⟨some 15, .mov (.t 3), none⟩,
     ⟨some 16, .bin .add (.t 15) (.c (.int .i64 1)), none⟩,
     ⟨some 3, .mov (.t 16), none⟩] none)))))) (
 .seq (
 .region [⟨some 2, .mov (.c (.bool true)), none⟩] none) (
 .ret))))⟩
def K43 : List (List Nat) := [[1004300, 0, 3, 2000000, 2]]
def Hn43 : List (Nat × Nat) := []

/-- corebank/standin.index$1 -/
def F45 : Fun := ⟨1, 8, [(3, none)],
 .seq (
 .region [⟨some 2, .box 3 (.t 0), none⟩,
   ⟨some 3, .mov (.c (.bool false)), none⟩] none) (
 .seq (
 .region [⟨some 4, .faddr 0 (.t 2), none⟩,
   ⟨some 5, .load false 1 [.int .i64] (.t 4), none⟩,
   ⟨some 6, .load false 1 [.int .i64] (.t 1), none⟩,
   ⟨some 7, .bin .eql (.t 5) (.t 6), none⟩,
   ⟨some 3, .mov (.t 7), none⟩] none) (
 .ret))⟩
def K45 : List (List Nat) := []
def Hn45 : List (Nat × Nat) := []

/-- slices.IndexFunc[[]corebank/api.Avail,corebank/api.Avail] -/
def F44 : Fun := ⟨2, 19, [(4, none)],
 .seq (
 .region [⟨some 4, .mov (.c (.int .i64 0)), none⟩] none) (
 .seq (
 .seq (
 .region [⟨some 6, .mov (.t 0), none⟩,
   ⟨some 7, .len .l (.t 6), none⟩,
   ⟨some 8, .mov (.c (.int .i64 0)), none⟩] none) (
 .block 0 (
  .loop [1004400, 0, 1, 7, 8, 2000000, 4] (
   .seq (
   .region [⟨some 9, .bin .lss (.t 8) (.t 7), none⟩] none) (
   .seq (
   .cond (.t 9) (
    .skip) (
    .exit 0)) (
   .seq (
   .block 1 (
    .seq (
    .region [⟨some 10, .mov (.t 8), none⟩,
      ⟨some 5, .mov (.t 10), none⟩] none) (
    .seq (
    .region [⟨some 11, .mov (.t 1), none⟩,
      ⟨some 12, .mov (.t 0), none⟩,
      ⟨some 13, .mov (.t 5), none⟩,
      ⟨some 14, .iaddr 3 [.int .i64, .int .i64, .int .i64] (.t 12) (.t 13), none⟩,
      ⟨some 15, .load true 3 [.int .i64, .int .i64, .int .i64] (.t 14), none⟩,
      ⟨some 16, .callv (.t 11) [.t 15], none⟩] none) (
    .cond (.t 16) (
     .seq (
     .region [⟨some 17, .mov (.t 5), none⟩,
       ⟨some 4, .mov (.t 17), none⟩] none) (
     .ret)) (
     .skip))))) (
   .region [⟨some 18, .bin .add (.t 8) (.c (.int .i64 1)), none⟩,
     ⟨some 8, .mov (.t 18), none⟩] none))))))) (
 .seq (
 .region [⟨some 4, .mov (.c (.int .i64 (-1))), none⟩] none) (
 .ret)))⟩
def K44 : List (List Nat) := [[1004400, 0, 1, 7, 8, 2000000, 4]]
def Hn44 : List (Nat × Nat) := []

/-- slices.IndexFunc[[]corebank/api.Wait,corebank/api.Wait] -/
def F46 : Fun := ⟨2, 19, [(4, none)],
 .seq (
 .region [⟨some 4, .mov (.c (.int .i64 0)), none⟩] none) (
 .seq (
 .seq (
 .region [⟨some 6, .mov (.t 0), none⟩,
   ⟨some 7, .len .l (.t 6), none⟩,
   ⟨some 8, .mov (.c (.int .i64 0)), none⟩] none) (
 .block 0 (
  .loop [1004600, 0, 1, 7, 8, 2000000, 4] (
   .seq (
   .region [⟨some 9, .bin .lss (.t 8) (.t 7), none⟩] none) (
   .seq (
   .cond (.t 9) (
    .skip) (
    .exit 0)) (
   .seq (
   .block 1 (
    .seq (
    .region [⟨some 10, .mov (.t 8), none⟩,
      ⟨some 5, .mov (.t 10), none⟩] none) (
    .seq (
    .region [⟨some 11, .mov (.t 1), none⟩,
      ⟨some 12, .mov (.t 0), none⟩,
      ⟨some 13, .mov (.t 5), none⟩,
      ⟨some 14, .iaddr 3 [.int .i64, .int .i64, .str] (.t 12) (.t 13), none⟩,
      ⟨some 15, .load true 3 [.int .i64, .int .i64, .str] (.t 14), none⟩,
      ⟨some 16, .callv (.t 11) [.t 15], none⟩] none) (
    .cond (.t 16) (
     .seq (
     .region [⟨some 17, .mov (.t 5), none⟩,
       ⟨some 4, .mov (.t 17), none⟩] none) (
     .ret)) (
     .skip))))) (
   .region [⟨some 18, .bin .add (.t 8) (.c (.int .i64 1)), none⟩,
     ⟨some 8, .mov (.t 18), none⟩] none))))))) (
 .seq (
 .region [⟨some 4, .mov (.c (.int .i64 (-1))), none⟩] none) (
 .ret)))⟩
def K46 : List (List Nat) := [[1004600, 0, 1, 7, 8, 2000000, 4]]
def Hn46 : List (Nat × Nat) := []

/-- corebank/account.Find -/
def F47 : Fun := ⟨2, 18, [(4, some (true, 7)), (5, none)],
 .seq (
 .region [⟨some 2, .box 22 (.t 0), none⟩,
   ⟨some 4, .alloc (.agg [.int .i64 0, .int .i64 0, .int .i64 0, .int .i64 0, .str [], .str [], .str []]), none⟩,
   ⟨some 5, .mov (.c (.bool false)), none⟩] none) (
 .seq (
 .region [⟨some 7, .load true 22 [.slice 2, .slice 3, .slice 4, .int .i64, .int .i64, .int .i64, .int .i64, .int .i64, .int .i64, .int .i64, .int .i64, .int .i64, .int .i64, .int .i64, .int .i64, .int .i64, .int .i64, .slice 19, .slice 7, .slice 10, .slice 6, .slice 7] (.t 2), none⟩,
   ⟨some 8, .mov (.t 1), none⟩,
   ⟨some 9, .call 55 [.t 7, .t 8], none⟩,
   ⟨some 6, .mov (.t 9), none⟩] none) (
 .seq (
 .seq (
 .region [⟨some 10, .mov (.t 6), none⟩,
   ⟨some 11, .bin .lss (.t 10) (.c (.int .i64 0)), none⟩] none) (
 .cond (.t 11) (
  .seq (
  .region [⟨some 12, .build [.int .i64 0, .int .i64 0, .int .i64 0, .int .i64 0, .str [], .str [], .str []] [], none⟩,
    ⟨none, .store 7 (.t 4) (.t 12), none⟩,
    ⟨some 5, .mov (.c (.bool false)), none⟩] none) (
  .ret)) (
  .skip))) (
 .seq (
 .region [⟨some 13, .faddr 18 (.t 2), none⟩,
   ⟨some 14, .load false 1 [.slice 7] (.t 13), none⟩,
   ⟨some 15, .mov (.t 6), none⟩,
   ⟨some 16, .iaddr 7 [.int .i64, .int .i64, .int .i64, .int .i64, .str, .str, .str] (.t 14) (.t 15), none⟩,
   ⟨some 17, .load true 7 [.int .i64, .int .i64, .int .i64, .int .i64, .str, .str, .str] (.t 16), none⟩,
   ⟨none, .store 7 (.t 4) (.t 17), none⟩,
   ⟨some 5, .mov (.c (.bool true)), none⟩] none) (
 .ret))))⟩
def K47 : List (List Nat) := []
def Hn47 : List (Nat × Nat) := []

/-- corebank/catalog.At -/
def F48 : Fun := ⟨3, 51, [(6, some (true, 19)), (7, none)],
 .seq (
 .region [⟨some 6, .alloc (.agg [.str [], .str [], .str [], .int .i64 0, .int .i64 0, .int .i64 0, .int .i64 0, .nils 2, .bool false, .int .i64 0, .int .i64 0, .bool false, .nils 2, .bool false, .int .i64 0, .int .i64 0, .bool false, .nils 10, .nils 6]), none⟩,
   ⟨some 7, .mov (.c (.bool false)), none⟩] none) (
 .seq (
 .region [⟨some 8, .mov (.c (.int .i64 (-1))), none⟩] none) (
 .seq (
 .seq (
 .region [⟨some 11, .mov (.t 0), none⟩,
   ⟨some 12, .len .l (.t 11), none⟩,
   ⟨some 13, .mov (.c (.int .i64 0)), none⟩] none) (
 .block 0 (
  .loop [1004800, 0, 1, 2, 6, 8, 11, 12, 13, 2000000, 0, 6, 8] (
   .seq (
   .region [⟨some 14, .bin .lss (.t 13) (.t 12), none⟩] none) (
   .seq (
   .cond (.t 14) (
    .skip) (
    .exit 0)) (
   .seq (
   .block 1 (
    .seq (
    .region [⟨some 15, .mov (.t 13), none⟩,
      ⟨some 16, .iaddr 19 [.str, .str, .str, .int .i64, .int .i64, .int .i64, .int .i64, .slice 2, .bool, .int .i64, .int .i64, .bool, .slice 2, .bool, .int .i64, .int .i64, .bool, .slice 10, .slice 6] (.t 11) (.t 13), none⟩,
      ⟨some 17, .load true 19 [.str, .str, .str, .int .i64, .int .i64, .int .i64, .int .i64, .slice 2, .bool, .int .i64, .int .i64, .bool, .slice 2, .bool, .int .i64, .int .i64, .bool, .slice 10, .slice 6] (.t 16), none⟩,
      ⟨some 10, .alloc (.agg [.str [], .str [], .str [], .int .i64 0, .int .i64 0, .int .i64 0, .int .i64 0, .nils 2, .bool false, .int .i64 0, .int .i64 0, .bool false, .nils 2, .bool false, .int .i64 0, .int .i64 0, .bool false, .nils 10, .nils 6]), none⟩,
      ⟨some 9, .mov (.t 15), none⟩,
      ⟨none, .store 19 (.t 10) (.t 17), none⟩] none) (
    .seq (
    .region [⟨some 18, .faddr 0 (.t 10), none⟩,
      ⟨some 19, .load false 1 [.str] (.t 18), none⟩,
      ⟨some 20, .mov (.t 1), none⟩,
      ⟨some 21, .bin .eql (.t 19) (.t 20), none⟩,
      ⟨some 22, .mov (.t 21), none⟩,
      ⟨some 23, .faddr 3 (.t 10), some (22, true)⟩,
      ⟨some 24, .load false 1 [.int .i64] (.t 23), some (22, true)⟩,
      ⟨some 25, .mov (.t 2), some (22, true)⟩,
      ⟨some 26, .bin .leq (.t 24) (.t 25), some (22, true)⟩,
      ⟨some 27, .pick (.t 22) (.t 26) (.c (.bool false)), none⟩,
      ⟨some 28, .mov (.t 27), none⟩,
      ⟨some 29, .mov (.t 8), some (28, true)⟩,
      ⟨some 30, .bin .lss (.t 29) (.c (.int .i64 0)), some (28, true)⟩,
      ⟨some 31, .mov (.t 30), some (28, true)⟩,
      ⟨some 32, .faddr 3 (.t 10), some (31, false)⟩,
      ⟨some 33, .load false 1 [.int .i64] (.t 32), some (31, false)⟩,
      ⟨some 34, .mov (.t 0), some (31, false)⟩,
      ⟨some 35, .mov (.t 8), some (31, false)⟩,
      ⟨some 36, .iaddr 19 [.str, .str, .str, .int .i64, .int .i64, .int .i64, .int .i64, .slice 2, .bool, .int .i64, .int .i64, .bool, .slice 2, .bool, .int .i64, .int .i64, .bool, .slice 10, .slice 6] (.t 34) (.t 35), some (31, false)⟩,
      ⟨some 37, .faddr 3 (.t 36), some (31, false)⟩,
      ⟨some 38, .load false 1 [.int .i64] (.t 37), some (31, false)⟩,
      ⟨some 39, .bin .gtr (.t 33) (.t 38), some (31, false)⟩,
      ⟨some 40, .pick (.t 31) (.c (.bool true)) (.t 39), some (28, true)⟩,
      ⟨some 41, .pick (.t 28) (.t 40) (.c (.bool false)), none⟩] (some [[], [0], [], [1, 0, 2], [3, 1, 0, 2], [4, 3, 1, 0, 2], [5, 4, 3, 1, 0, 2], [4, 3, 1, 0, 2], [6, 5, 7, 4, 3, 1, 0, 2], [8, 6, 5, 7, 4, 3, 1, 0, 2], [9, 8, 6, 5, 7, 4, 3, 1, 0, 2], [10, 9, 8, 6, 5, 7, 4, 3, 1, 0, 2], [11, 10, 9, 8, 6, 5, 7, 4, 3, 1, 0, 2], [12, 11, 10, 9, 8, 6, 5, 7, 4, 3, 1, 0, 2], [13, 12, 11, 10, 9, 8, 6, 5, 7, 4, 3, 1, 0, 2], [14, 13, 12, 11, 10, 9, 8, 6, 5, 7, 4, 3, 1, 0, 2], [13, 12, 11, 10, 9, 8, 6, 5, 7, 4, 3, 1, 0, 2], [13, 12, 11, 10, 9, 8, 6, 5, 7, 4, 3, 1, 0, 2], [16, 17, 13, 12, 11, 10, 9, 8, 6, 5, 7, 4, 3, 1, 0, 2], [18, 16, 17, 13, 12, 11, 10, 9, 8, 6, 5, 7, 4, 3, 1, 0, 2], [19, 18, 16, 17, 13, 12, 11, 10, 9, 8, 6, 5, 7, 4, 3, 1, 0, 2], [15, 14, 20, 19, 18, 16, 17, 13, 12, 11, 10, 9, 8, 6, 5, 7, 4, 3, 1, 0, 2], [21, 15, 14, 20, 19, 18, 16, 17, 13, 12, 11, 10, 9, 8, 6, 5, 7, 4, 3, 1, 0, 2], [22, 21, 15, 14, 20, 19, 18, 16, 17, 13, 12, 11, 10, 9, 8, 6, 5, 7, 4, 3, 1, 0, 2]])) (
    .cond (.t 41) (
     .region [⟨some 42, .mov (.t 9), none⟩,
       ⟨some 8, .mov (.t 42), none⟩] none) (
     .skip))))) (
   .region [⟨some 43, .bin .add (.t 13) (.c (.int .i64 1)), none⟩,
     ⟨some 13, .mov (.t 43), none⟩] none))))))) (
 .seq (
 .seq (
 .region [⟨some 44, .mov (.t 8), none⟩,
   ⟨some 45, .bin .lss (.t 44) (.c (.int .i64 0)), none⟩] none) (
 .cond (.t 45) (
  .seq (
  .region [⟨some 46, .build [.str [], .str [], .str [], .int .i64 0, .int .i64 0, .int .i64 0, .int .i64 0, .nils 2, .bool false, .int .i64 0, .int .i64 0, .bool false, .nils 2, .bool false, .int .i64 0, .int .i64 0, .bool false, .nils 10, .nils 6] [], none⟩,
    ⟨none, .store 19 (.t 6) (.t 46), none⟩,
    ⟨some 7, .mov (.c (.bool false)), none⟩] none) (
  .ret)) (
  .skip))) (
 .seq (
 .region [⟨some 47, .mov (.t 0), none⟩,
   ⟨some 48, .mov (.t 8), none⟩,
   ⟨some 49, .iaddr 19 [.str, .str, .str, .int .i64, .int .i64, .int .i64, .int .i64, .slice 2, .bool, .int .i64, .int .i64, .bool, .slice 2, .bool, .int .i64, .int .i64, .bool, .slice 10, .slice 6] (.t 47) (.t 48), none⟩,
   ⟨some 50, .load true 19 [.str, .str, .str, .int .i64, .int .i64, .int .i64, .int .i64, .slice 2, .bool, .int .i64, .int .i64, .bool, .slice 2, .bool, .int .i64, .int .i64, .bool, .slice 10, .slice 6] (.t 49), none⟩,
   ⟨none, .store 19 (.t 6) (.t 50), none⟩,
   ⟨some 7, .mov (.c (.bool true)), none⟩] none) (
 .ret)))))⟩
def K48 : List (List Nat) := [[1004800, 0, 1, 2, 6, 8, 11, 12, 13, 2000000, 0, 6, 8]]
def Hn48 : List (Nat × Nat) := []

/-- corebank/corebankref24.Find -/
def F49 : Fun := ⟨2, 28, [(4, some (true, 7)), (5, none)],
 .seq (
 .region [⟨some 2, .box 22 (.t 0), none⟩,
   ⟨some 4, .alloc (.agg [.int .i64 0, .int .i64 0, .int .i64 0, .int .i64 0, .str [], .str [], .str []]), none⟩,
   ⟨some 5, .mov (.c (.bool false)), none⟩] none) (
 .seq (
 .seq (
 .region [⟨some 6, .mov (.c (.int .i64 0)), none⟩] none) (
 .block 0 (
  .loop [1004900, 1, 2, 4, 6, 2000000, 4, 5] (
   .seq (
   .seq (
   .region [⟨some 7, .mov (.t 6), none⟩,
     ⟨some 8, .faddr 18 (.t 2), none⟩,
     ⟨some 9, .load false 1 [.slice 7] (.t 8), none⟩,
     ⟨some 10, .len .l (.t 9), none⟩,
     ⟨some 11, .bin .lss (.t 7) (.t 10), none⟩] none) (
   .cond (.t 11) (
    .skip) (
    .exit 0))) (
   .seq (
   .block 1 (
    .seq (
    .region [⟨some 14, .faddr 18 (.t 2), none⟩,
      ⟨some 15, .load false 1 [.slice 7] (.t 14), none⟩,
      ⟨some 16, .mov (.t 6), none⟩,
      ⟨some 17, .iaddr 7 [.int .i64, .int .i64, .int .i64, .int .i64, .str, .str, .str] (.t 15) (.t 16), none⟩,
      ⟨some 18, .faddr 0 (.t 17), none⟩,
      ⟨some 19, .load false 1 [.int .i64] (.t 18), none⟩,
      ⟨some 20, .mov (.t 1), none⟩,
      ⟨some 21, .bin .eql (.t 19) (.t 20), none⟩] none) (
    .cond (.t 21) (
     .seq (
     .region [⟨some 22, .faddr 18 (.t 2), none⟩,
       ⟨some 23, .load false 1 [.slice 7] (.t 22), none⟩,
       ⟨some 24, .mov (.t 6), none⟩,
       ⟨some 25, .iaddr 7 [.int .i64, .int .i64, .int .i64, .int .i64, .str, .str, .str] (.t 23) (.t 24), none⟩,
       ⟨some 26, .load true 7 [.int .i64, .int .i64, .int .i64, .int .i64, .str, .str, .str] (.t 25), none⟩,
       ⟨none, .store 7 (.t 4) (.t 26), none⟩,
       ⟨some 5, .mov (.c (.bool true)), none⟩] none) (
     .ret)) (
     .skip)))) (
   .region [⟨some 12, .mov (.t 6), none⟩,
     ⟨some 13, .bin .add (.t 12) (.c (.int .i64 1)), none⟩,
     ⟨some 6, .mov (.t 13), none⟩] none)))))) (
 .seq (
 .region [⟨some 27, .build [.int .i64 0, .int .i64 0, .int .i64 0, .int .i64 0, .str [], .str [], .str []] [], none⟩,
   ⟨none, .store 7 (.t 4) (.t 27), none⟩,
   ⟨some 5, .mov (.c (.bool false)), none⟩] none) (
 .ret)))⟩
def K49 : List (List Nat) := [[1004900, 1, 2, 4, 6, 2000000, 4, 5]]
def Hn49 : List (Nat × Nat) := []

/-- corebank/corebankref17.At -/
def F50 : Fun := ⟨3, 57, [(6, some (true, 19)), (7, none)],
 .seq (
 .region [⟨some 6, .alloc (.agg [.str [], .str [], .str [], .int .i64 0, .int .i64 0, .int .i64 0, .int .i64 0, .nils 2, .bool false, .int .i64 0, .int .i64 0, .bool false, .nils 2, .bool false, .int .i64 0, .int .i64 0, .bool false, .nils 10, .nils 6]), none⟩,
   ⟨some 7, .mov (.c (.bool false)), none⟩] none) (
 .seq (
 .region [⟨some 8, .mov (.c (.int .i64 (-1))), none⟩] none) (
 .seq (
 .seq (
 .region [⟨some 9, .mov (.c (.int .i64 0)), none⟩] none) (
 .block 0 (
  .loop [1005000, 0, 1, 2, 6, 8, 9, 2000000, 0, 6, 8] (
   .seq (
   .seq (
   .region [⟨some 10, .mov (.t 9), none⟩,
     ⟨some 11, .mov (.t 0), none⟩,
     ⟨some 12, .len .l (.t 11), none⟩,
     ⟨some 13, .bin .lss (.t 10) (.t 12), none⟩] none) (
   .cond (.t 13) (
    .skip) (
    .exit 0))) (
   .seq (
   .block 1 (
    .seq (
    .region [⟨some 16, .mov (.t 0), none⟩,
      ⟨some 17, .mov (.t 9), none⟩,
      ⟨some 18, .iaddr 19 [.str, .str, .str, .int .i64, .int .i64, .int .i64, .int .i64, .slice 2, .bool, .int .i64, .int .i64, .bool, .slice 2, .bool, .int .i64, .int .i64, .bool, .slice 10, .slice 6] (.t 16) (.t 17), none⟩,
      ⟨some 19, .faddr 0 (.t 18), none⟩,
      ⟨some 20, .load false 1 [.str] (.t 19), none⟩,
      ⟨some 21, .mov (.t 1), none⟩,
      ⟨some 22, .bin .eql (.t 20) (.t 21), none⟩,
      ⟨some 23, .mov (.t 22), none⟩,
      ⟨some 24, .mov (.t 0), some (23, true)⟩,
      ⟨some 25, .mov (.t 9), some (23, true)⟩,
      ⟨some 26, .iaddr 19 [.str, .str, .str, .int .i64, .int .i64, .int .i64, .int .i64, .slice 2, .bool, .int .i64, .int .i64, .bool, .slice 2, .bool, .int .i64, .int .i64, .bool, .slice 10, .slice 6] (.t 24) (.t 25), some (23, true)⟩,
      ⟨some 27, .faddr 3 (.t 26), some (23, true)⟩,
      ⟨some 28, .load false 1 [.int .i64] (.t 27), some (23, true)⟩,
      ⟨some 29, .mov (.t 2), some (23, true)⟩,
      ⟨some 30, .bin .leq (.t 28) (.t 29), some (23, true)⟩,
      ⟨some 31, .pick (.t 23) (.t 30) (.c (.bool false)), none⟩,
      ⟨some 32, .mov (.t 31), none⟩,
      ⟨some 33, .mov (.t 8), some (32, true)⟩,
      ⟨some 34, .bin .lss (.t 33) (.c (.int .i64 0)), some (32, true)⟩,
      ⟨some 35, .mov (.t 34), some (32, true)⟩,
      ⟨some 36, .mov (.t 0), some (35, false)⟩,
      ⟨some 37, .mov (.t 9), some (35, false)⟩,
      ⟨some 38, .iaddr 19 [.str, .str, .str, .int .i64, .int .i64, .int .i64, .int .i64, .slice 2, .bool, .int .i64, .int .i64, .bool, .slice 2, .bool, .int .i64, .int .i64, .bool, .slice 10, .slice 6] (.t 36) (.t 37), some (35, false)⟩,
      ⟨some 39, .faddr 3 (.t 38), some (35, false)⟩,
      ⟨some 40, .load false 1 [.int .i64] (.t 39), some (35, false)⟩,
      ⟨some 41, .mov (.t 0), some (35, false)⟩,
      ⟨some 42, .mov (.t 8), some (35, false)⟩,
      ⟨some 43, .iaddr 19 [.str, .str, .str, .int .i64, .int .i64, .int .i64, .int .i64, .slice 2, .bool, .int .i64, .int .i64, .bool, .slice 2, .bool, .int .i64, .int .i64, .bool, .slice 10, .slice 6] (.t 41) (.t 42), some (35, false)⟩,
      ⟨some 44, .faddr 3 (.t 43), some (35, false)⟩,
      ⟨some 45, .load false 1 [.int .i64] (.t 44), some (35, false)⟩,
      ⟨some 46, .bin .gtr (.t 40) (.t 45), some (35, false)⟩,
      ⟨some 47, .pick (.t 35) (.c (.bool true)) (.t 46), some (32, true)⟩,
      ⟨some 48, .pick (.t 32) (.t 47) (.c (.bool false)), none⟩] (some [[], [], [0, 1], [2, 0, 1], [3, 2, 0, 1], [], [4, 3, 2, 0, 1, 5], [6, 4, 3, 2, 0, 1, 5], [7, 6, 4, 3, 2, 0, 1, 5], [7, 6, 4, 3, 2, 0, 1, 5], [8, 9, 7, 6, 4, 3, 2, 0, 1, 5], [10, 8, 9, 7, 6, 4, 3, 2, 0, 1, 5], [11, 10, 8, 9, 7, 6, 4, 3, 2, 0, 1, 5], [7, 6, 4, 3, 2, 0, 1, 5], [12, 11, 10, 8, 9, 13, 7, 6, 4, 3, 2, 0, 1, 5], [14, 12, 11, 10, 8, 9, 13, 7, 6, 4, 3, 2, 0, 1, 5], [15, 14, 12, 11, 10, 8, 9, 13, 7, 6, 4, 3, 2, 0, 1, 5], [16, 15, 14, 12, 11, 10, 8, 9, 13, 7, 6, 4, 3, 2, 0, 1, 5], [17, 16, 15, 14, 12, 11, 10, 8, 9, 13, 7, 6, 4, 3, 2, 0, 1, 5], [18, 17, 16, 15, 14, 12, 11, 10, 8, 9, 13, 7, 6, 4, 3, 2, 0, 1, 5], [19, 18, 17, 16, 15, 14, 12, 11, 10, 8, 9, 13, 7, 6, 4, 3, 2, 0, 1, 5], [19, 18, 17, 16, 15, 14, 12, 11, 10, 8, 9, 13, 7, 6, 4, 3, 2, 0, 1, 5], [20, 21, 19, 18, 17, 16, 15, 14, 12, 11, 10, 8, 9, 13, 7, 6, 4, 3, 2, 0, 1, 5], [22, 20, 21, 19, 18, 17, 16, 15, 14, 12, 11, 10, 8, 9, 13, 7, 6, 4, 3, 2, 0, 1, 5], [23, 22, 20, 21, 19, 18, 17, 16, 15, 14, 12, 11, 10, 8, 9, 13, 7, 6, 4, 3, 2, 0, 1, 5], [19, 18, 17, 16, 15, 14, 12, 11, 10, 8, 9, 13, 7, 6, 4, 3, 2, 0, 1, 5], [19, 18, 17, 16, 15, 14, 12, 11, 10, 8, 9, 13, 7, 6, 4, 3, 2, 0, 1, 5], [25, 26, 19, 18, 17, 16, 15, 14, 12, 11, 10, 8, 9, 13, 7, 6, 4, 3, 2, 0, 1, 5], [27, 25, 26, 19, 18, 17, 16, 15, 14, 12, 11, 10, 8, 9, 13, 7, 6, 4, 3, 2, 0, 1, 5], [28, 27, 25, 26, 19, 18, 17, 16, 15, 14, 12, 11, 10, 8, 9, 13, 7, 6, 4, 3, 2, 0, 1, 5], [24, 23, 22, 20, 21, 29, 28, 27, 25, 26, 19, 18, 17, 16, 15, 14, 12, 11, 10, 8, 9, 13, 7, 6, 4, 3, 2, 0, 1, 5], [30, 24, 23, 22, 20, 21, 29, 28, 27, 25, 26, 19, 18, 17, 16, 15, 14, 12, 11, 10, 8, 9, 13, 7, 6, 4, 3, 2, 0, 1, 5], [31, 30, 24, 23, 22, 20, 21, 29, 28, 27, 25, 26, 19, 18, 17, 16, 15, 14, 12, 11, 10, 8, 9, 13, 7, 6, 4, 3, 2, 0, 1, 5]])) (
    .cond (.t 48) (
     .region [⟨some 49, .mov (.t 9), none⟩,
       ⟨some 8, .mov (.t 49), none⟩] none) (
     .skip)))) (
   .region [⟨some 14, .mov (.t 9), none⟩,
     ⟨some 15, .bin .add (.t 14) (.c (.int .i64 1)), none⟩,
     ⟨some 9, .mov (.t 15), none⟩] none)))))) (
 .seq (
 .seq (
 .region [⟨some 50, .mov (.t 8), none⟩,
   ⟨some 51, .bin .lss (.t 50) (.c (.int .i64 0)), none⟩] none) (
 .cond (.t 51) (
  .seq (
  .region [⟨some 52, .build [.str [], .str [], .str [], .int .i64 0, .int .i64 0, .int .i64 0, .int .i64 0, .nils 2, .bool false, .int .i64 0, .int .i64 0, .bool false, .nils 2, .bool false, .int .i64 0, .int .i64 0, .bool false, .nils 10, .nils 6] [], none⟩,
    ⟨none, .store 19 (.t 6) (.t 52), none⟩,
    ⟨some 7, .mov (.c (.bool false)), none⟩] none) (
  .ret)) (
  .skip))) (
 .seq (
 .region [⟨some 53, .mov (.t 0), none⟩,
   ⟨some 54, .mov (.t 8), none⟩,
   ⟨some 55, .iaddr 19 [.str, .str, .str, .int .i64, .int .i64, .int .i64, .int .i64, .slice 2, .bool, .int .i64, .int .i64, .bool, .slice 2, .bool, .int .i64, .int .i64, .bool, .slice 10, .slice 6] (.t 53) (.t 54), none⟩,
   ⟨some 56, .load true 19 [.str, .str, .str, .int .i64, .int .i64, .int .i64, .int .i64, .slice 2, .bool, .int .i64, .int .i64, .bool, .slice 2, .bool, .int .i64, .int .i64, .bool, .slice 10, .slice 6] (.t 55), none⟩,
   ⟨none, .store 19 (.t 6) (.t 56), none⟩,
   ⟨some 7, .mov (.c (.bool true)), none⟩] none) (
 .ret)))))⟩
def K50 : List (List Nat) := [[1005000, 0, 1, 2, 6, 8, 9, 2000000, 0, 6, 8]]
def Hn50 : List (Nat × Nat) := []

/-- corebank/limit.Floor -/
def F51 : Fun := ⟨3, 37, [(6, none), (7, none)],
 .seq (
 .region [⟨some 3, .box 22 (.t 0), none⟩,
   ⟨some 6, .mov (.c (.int .i64 0)), none⟩,
   ⟨some 7, .mov (.c (.int .i64 0)), none⟩] none) (
 .seq (
 .region [⟨some 13, .load true 22 [.slice 2, .slice 3, .slice 4, .int .i64, .int .i64, .int .i64, .int .i64, .int .i64, .int .i64, .int .i64, .int .i64, .int .i64, .int .i64, .int .i64, .int .i64, .int .i64, .int .i64, .slice 19, .slice 7, .slice 10, .slice 6, .slice 7] (.t 3), none⟩,
   ⟨some 14, .mov (.t 1), none⟩,
   ⟨some 15, .call 47 [.t 13, .t 14], none⟩,
   ⟨some 12, .mov (.t 15), none⟩,
   ⟨some 16, .ext (.t 12) 0, none⟩,
   ⟨some 17, .ext (.t 12) 1, none⟩,
   ⟨some 8, .alloc (.agg [.int .i64 0, .int .i64 0, .int .i64 0, .int .i64 0, .str [], .str [], .str []]), none⟩,
   ⟨none, .store 7 (.t 8) (.t 16), none⟩,
   ⟨some 9, .mov (.t 17), none⟩] none) (
 .seq (
 .region [⟨some 19, .load true 22 [.slice 2, .slice 3, .slice 4, .int .i64, .int .i64, .int .i64, .int .i64, .int .i64, .int .i64, .int .i64, .int .i64, .int .i64, .int .i64, .int .i64, .int .i64, .int .i64, .int .i64, .slice 19, .slice 7, .slice 10, .slice 6, .slice 7] (.t 3), none⟩,
   ⟨some 20, .mov (.t 1), none⟩,
   ⟨some 21, .mov (.t 2), none⟩,
   ⟨some 22, .call 36 [.t 19, .t 20, .t 21], none⟩,
   ⟨some 18, .mov (.t 22), none⟩,
   ⟨some 23, .ext (.t 18) 0, none⟩,
   ⟨some 24, .ext (.t 18) 1, none⟩,
   ⟨some 10, .alloc (.agg [.str [], .str [], .str [], .int .i64 0, .int .i64 0, .int .i64 0, .int .i64 0, .nils 2, .bool false, .int .i64 0, .int .i64 0, .bool false, .nils 2, .bool false, .int .i64 0, .int .i64 0, .bool false, .nils 10, .nils 6]), none⟩,
   ⟨none, .store 19 (.t 10) (.t 23), none⟩,
   ⟨some 11, .mov (.t 24), none⟩] none) (
 .seq (
 .seq (
 .region [⟨some 25, .mov (.t 9), none⟩,
   ⟨some 26, .un .not (.t 25), none⟩,
   ⟨some 27, .mov (.t 26), none⟩,
   ⟨some 28, .mov (.t 11), some (27, false)⟩,
   ⟨some 29, .un .not (.t 28), some (27, false)⟩,
   ⟨some 30, .pick (.t 27) (.c (.bool true)) (.t 29), none⟩] none) (
 .cond (.t 30) (
  .seq (
  .region [⟨some 6, .mov (.c (.int .i64 0)), none⟩,
    ⟨some 7, .mov (.c (.int .i64 11)), none⟩] none) (
  .ret)) (
  .skip))) (
 .seq (
 .region [⟨some 31, .faddr 5 (.t 10), none⟩,
   ⟨some 32, .load false 1 [.int .i64] (.t 31), none⟩,
   ⟨some 33, .faddr 3 (.t 8), none⟩,
   ⟨some 34, .load false 1 [.int .i64] (.t 33), none⟩,
   ⟨some 35, .bin .add (.t 32) (.t 34), none⟩,
   ⟨some 36, .un .neg (.t 35), none⟩,
   ⟨some 6, .mov (.t 36), none⟩,
   ⟨some 7, .mov (.c (.int .i64 0)), none⟩] none) (
 .ret)))))⟩
def K51 : List (List Nat) := []
def Hn51 : List (Nat × Nat) := []

/-- corebank/hold.Total -/
def F53 : Fun := ⟨3, 38, [(6, none)],
 .seq (
 .region [⟨some 6, .mov (.c (.int .i64 0)), none⟩] none) (
 .seq (
 .region [⟨some 7, .mov (.c (.int .i64 0)), none⟩] none) (
 .seq (
 .seq (
 .region [⟨some 10, .mov (.t 0), none⟩,
   ⟨some 11, .len .l (.t 10), none⟩,
   ⟨some 12, .mov (.c (.int .i64 0)), none⟩] none) (
 .block 0 (
  .loop [1005300, 1, 2, 7, 10, 11, 12, 2000000, 7] (
   .seq (
   .region [⟨some 13, .bin .lss (.t 12) (.t 11), none⟩] none) (
   .seq (
   .cond (.t 13) (
    .skip) (
    .exit 0)) (
   .seq (
   .block 1 (
    .seq (
    .region [⟨some 14, .iaddr 6 [.int .i64, .int .i64, .int .i64, .int .i64, .int .i64, .str] (.t 10) (.t 12), none⟩,
      ⟨some 15, .load true 6 [.int .i64, .int .i64, .int .i64, .int .i64, .int .i64, .str] (.t 14), none⟩,
      ⟨some 9, .alloc (.agg [.int .i64 0, .int .i64 0, .int .i64 0, .int .i64 0, .int .i64 0, .str []]), none⟩,
      ⟨none, .store 6 (.t 9) (.t 15), none⟩] none) (
    .seq (
    .region [⟨some 16, .faddr 1 (.t 9), none⟩,
      ⟨some 17, .load false 1 [.int .i64] (.t 16), none⟩,
      ⟨some 18, .mov (.t 1), none⟩,
      ⟨some 19, .bin .eql (.t 17) (.t 18), none⟩,
      ⟨some 20, .mov (.t 19), none⟩,
      ⟨some 21, .faddr 3 (.t 9), some (20, true)⟩,
      ⟨some 22, .load false 1 [.int .i64] (.t 21), some (20, true)⟩,
      ⟨some 23, .mov (.t 2), some (20, true)⟩,
      ⟨some 24, .bin .leq (.t 22) (.t 23), some (20, true)⟩,
      ⟨some 25, .pick (.t 20) (.t 24) (.c (.bool false)), none⟩,
      ⟨some 26, .mov (.t 25), none⟩,
      ⟨some 27, .mov (.t 2), some (26, true)⟩,
      ⟨some 28, .faddr 4 (.t 9), some (26, true)⟩,
      ⟨some 29, .load false 1 [.int .i64] (.t 28), some (26, true)⟩,
      ⟨some 30, .bin .leq (.t 27) (.t 29), some (26, true)⟩,
      ⟨some 31, .pick (.t 26) (.t 30) (.c (.bool false)), none⟩] none) (
    .cond (.t 31) (
     .region [⟨some 32, .mov (.t 7), none⟩,
       ⟨some 33, .faddr 2 (.t 9), none⟩,
       ⟨some 34, .load false 1 [.int .i64] (.t 33), none⟩,
       ⟨some 35, .bin .add (.t 32) (.t 34), none⟩,
       ⟨some 7, .mov (.t 35), none⟩] none) (
     .skip))))) (
   .region [⟨some 36, .bin .add (.t 12) (.c (.int .i64 1)), none⟩,
     ⟨some 12, .mov (.t 36), none⟩] none))))))) (
 .seq (
 .region [⟨some 37, .mov (.t 7), none⟩,
   ⟨some 6, .mov (.t 37), none⟩] none) (
 .ret))))⟩
def K53 : List (List Nat) := [[1005300, 1, 2, 7, 10, 11, 12, 2000000, 7]]
def Hn53 : List (Nat × Nat) := []

/-- corebank/blocking.Reserved -/
def F54 : Fun := ⟨3, 34, [(6, none)],
 .seq (
 .region [⟨some 6, .mov (.c (.int .i64 0)), none⟩] none) (
 .seq (
 .region [⟨some 7, .mov (.c (.int .i64 0)), none⟩] none) (
 .seq (
 .seq (
 .region [⟨some 12, .mov (.t 0), none⟩,
   ⟨some 13, .mov (.t 1), none⟩,
   ⟨some 14, .mov (.t 2), none⟩,
   ⟨some 15, .call 57 [.t 12, .t 13, .t 14], none⟩,
   ⟨some 16, .len .l (.t 15), none⟩,
   ⟨some 17, .mov (.c (.int .i64 0)), none⟩] none) (
 .block 0 (
  .loop [1005400, 7, 15, 16, 17, 2000000, 7] (
   .seq (
   .region [⟨some 18, .bin .lss (.t 17) (.t 16), none⟩] none) (
   .seq (
   .cond (.t 18) (
    .skip) (
    .exit 0)) (
   .seq (
   .block 1 (
    .seq (
    .region [⟨some 19, .iaddr 7 [.int .i64, .int .i64, .int .i64, .int .i64, .int .i64, .int .i64, .str] (.t 15) (.t 17), none⟩,
      ⟨some 20, .load true 7 [.int .i64, .int .i64, .int .i64, .int .i64, .int .i64, .int .i64, .str] (.t 19), none⟩,
      ⟨some 9, .alloc (.agg [.int .i64 0, .int .i64 0, .int .i64 0, .int .i64 0, .int .i64 0, .int .i64 0, .str []]), none⟩,
      ⟨none, .store 7 (.t 9) (.t 20), none⟩] none) (
    .seq (
    .region [⟨some 22, .load true 7 [.int .i64, .int .i64, .int .i64, .int .i64, .int .i64, .int .i64, .str] (.t 9), none⟩,
      ⟨some 23, .call 58 [.t 22], none⟩,
      ⟨some 24, .tass 120 (.agg [.int .i64 0]) true (.t 23), none⟩,
      ⟨some 21, .mov (.t 24), none⟩,
      ⟨some 25, .ext (.t 21) 0, none⟩,
      ⟨some 26, .ext (.t 21) 1, none⟩,
      ⟨some 10, .alloc (.agg [.int .i64 0]), none⟩,
      ⟨none, .store 1 (.t 10) (.t 25), none⟩,
      ⟨some 11, .mov (.t 26), none⟩] none) (
    .seq (
    .region [⟨some 27, .mov (.t 11), none⟩] none) (
    .cond (.t 27) (
     .region [⟨some 28, .mov (.t 7), none⟩,
       ⟨some 29, .faddr 0 (.t 10), none⟩,
       ⟨some 30, .load false 1 [.int .i64] (.t 29), none⟩,
       ⟨some 31, .bin .add (.t 28) (.t 30), none⟩,
       ⟨some 7, .mov (.t 31), none⟩] none) (
     .skip)))))) (
   .region [⟨some 32, .bin .add (.t 17) (.c (.int .i64 1)), none⟩,
     ⟨some 17, .mov (.t 32), none⟩] none))))))) (
 .seq (
 .region [⟨some 33, .mov (.t 7), none⟩,
   ⟨some 6, .mov (.t 33), none⟩] none) (
 .ret))))⟩
def K54 : List (List Nat) := [[1005400, 7, 15, 16, 17, 2000000, 7]]
def Hn54 : List (Nat × Nat) := []

/-- corebank/account.index -/
def F55 : Fun := ⟨2, 9, [(4, none)],
 .seq (
 .region [⟨some 2, .box 22 (.t 0), none⟩,
   ⟨some 3, .box 1 (.t 1), none⟩,
   ⟨some 4, .mov (.c (.int .i64 0)), none⟩] none) (
 .seq (
 .region [⟨some 5, .faddr 18 (.t 2), none⟩,
   ⟨some 6, .load false 1 [.slice 7] (.t 5), none⟩,
   ⟨some 7, .mkf 60 [.t 3], none⟩,
   ⟨some 8, .call 59 [.t 6, .t 7], none⟩,
   ⟨some 4, .mov (.t 8), none⟩] none) (
 .ret))⟩
def K55 : List (List Nat) := []
def Hn55 : List (Nat × Nat) := []

/-- corebank/balance.movements -/
def F56 : Fun := ⟨2, 6, [(4, none)],
 .seq (
 .region [⟨some 2, .box 1 (.t 0), none⟩,
   ⟨some 3, .box 1 (.t 1), none⟩,
   ⟨some 4, .mov (.c (.nilf)), none⟩] none) (
 .seq (
 .region [⟨some 5, .mkf 61 [.t 2, .t 3], none⟩,
   ⟨some 4, .mov (.t 5), none⟩] none) (
 .ret))⟩
def K56 : List (List Nat) := []
def Hn56 : List (Nat × Nat) := []

/-- corebank/blocking.Active -/
def F57 : Fun := ⟨3, 38, [(6, none)],
 .seq (
 .region [⟨some 6, .mov (.c (.nils 7)), none⟩] none) (
 .seq (
 .region [⟨some 7, .mov (.c (.nils 7)), none⟩] none) (
 .seq (
 .seq (
 .region [⟨some 10, .mov (.t 0), none⟩,
   ⟨some 11, .len .l (.t 10), none⟩,
   ⟨some 12, .mov (.c (.int .i64 0)), none⟩] none) (
 .block 0 (
  .loop [1005700, 1, 2, 7, 10, 11, 12, 2000000, 7] (
   .seq (
   .region [⟨some 13, .bin .lss (.t 12) (.t 11), none⟩] none) (
   .seq (
   .cond (.t 13) (
    .skip) (
    .exit 0)) (
   .seq (
   .block 1 (
    .seq (
    .region [⟨some 14, .iaddr 7 [.int .i64, .int .i64, .int .i64, .int .i64, .int .i64, .int .i64, .str] (.t 10) (.t 12), none⟩,
      ⟨some 15, .load true 7 [.int .i64, .int .i64, .int .i64, .int .i64, .int .i64, .int .i64, .str] (.t 14), none⟩,
      ⟨some 9, .alloc (.agg [.int .i64 0, .int .i64 0, .int .i64 0, .int .i64 0, .int .i64 0, .int .i64 0, .str []]), none⟩,
      ⟨none, .store 7 (.t 9) (.t 15), none⟩] none) (
    .seq (
    .region [⟨some 16, .faddr 1 (.t 9), none⟩,
      ⟨some 17, .load false 1 [.int .i64] (.t 16), none⟩,
      ⟨some 18, .mov (.t 1), none⟩,
      ⟨some 19, .bin .eql (.t 17) (.t 18), none⟩,
      ⟨some 20, .mov (.t 19), none⟩,
      ⟨some 21, .faddr 4 (.t 9), some (20, true)⟩,
      ⟨some 22, .load false 1 [.int .i64] (.t 21), some (20, true)⟩,
      ⟨some 23, .mov (.t 2), some (20, true)⟩,
      ⟨some 24, .bin .leq (.t 22) (.t 23), some (20, true)⟩,
      ⟨some 25, .pick (.t 20) (.t 24) (.c (.bool false)), none⟩,
      ⟨some 26, .mov (.t 25), none⟩,
      ⟨some 27, .mov (.t 2), some (26, true)⟩,
      ⟨some 28, .faddr 5 (.t 9), some (26, true)⟩,
      ⟨some 29, .load false 1 [.int .i64] (.t 28), some (26, true)⟩,
      ⟨some 30, .bin .leq (.t 27) (.t 29), some (26, true)⟩,
      ⟨some 31, .pick (.t 26) (.t 30) (.c (.bool false)), none⟩] none) (
    .cond (.t 31) (
     .region [⟨some 32, .mov (.t 7), none⟩,
       ⟨some 33, .load true 7 [.int .i64, .int .i64, .int .i64, .int .i64, .int .i64, .int .i64, .str] (.t 9), none⟩,
       ⟨some 34, .bslice 7 (.agg [.int .i64 0, .int .i64 0, .int .i64 0, .int .i64 0, .int .i64 0, .int .i64 0, .str []]) 1 [(0, (.t 33))], none⟩,
       ⟨some 35, .app 7 64 (.t 32) (.t 34), none⟩,
       ⟨some 7, .mov (.t 35), none⟩] none) (
     .skip))))) (
   .region [⟨some 36, .bin .add (.t 12) (.c (.int .i64 1)), none⟩,
     ⟨some 12, .mov (.t 36), none⟩] none))))))) (
 .seq (
 .region [⟨some 37, .mov (.t 7), none⟩,
   ⟨some 6, .mov (.t 37), none⟩] none) (
 .ret))))⟩
def K57 : List (List Nat) := [[1005700, 1, 2, 7, 10, 11, 12, 2000000, 7]]
def Hn57 : List (Nat × Nat) := [(6, 7), (7, 7)]

/-- corebank/blocking.cover -/
def F58 : Fun := ⟨1, 25, [(2, none)],
 .seq (
 .region [⟨some 1, .box 7 (.t 0), none⟩,
   ⟨some 2, .mov (.c (.nili)), none⟩] none) (
 .seq (
 .seq (
 .region [⟨some 3, .faddr 2 (.t 1), none⟩,
   ⟨some 4, .load false 1 [.int .i64] (.t 3), none⟩] none) (
 .block 0 (
  .seq (
  .region [⟨some 6, .bin .eql (.t 4) (.c (.int .i64 1)), none⟩,
    ⟨some 5, .mov (.t 6), none⟩] none) (
  .cond (.t 5) (
   .seq (
   .region [⟨some 7, .build [] [], none⟩,
     ⟨some 8, .mki 126 (.t 7), none⟩,
     ⟨some 2, .mov (.t 8), none⟩] none) (
   .ret)) (
   .seq (
   .region [⟨some 10, .bin .eql (.t 4) (.c (.int .i64 2)), none⟩,
     ⟨some 9, .mov (.t 10), none⟩] none) (
   .cond (.t 9) (
    .seq (
    .region [⟨some 11, .build [] [], none⟩,
      ⟨some 12, .mki 127 (.t 11), none⟩,
      ⟨some 2, .mov (.t 12), none⟩] none) (
    .ret)) (
    .seq (
    .region [⟨some 14, .bin .eql (.t 4) (.c (.int .i64 3)), none⟩,
      ⟨some 13, .mov (.t 14), none⟩] none) (
    .cond (.t 13) (
     .seq (
     .region [⟨some 15, .build [] [], none⟩,
       ⟨some 16, .mki 128 (.t 15), none⟩,
       ⟨some 2, .mov (.t 16), none⟩] none) (
     .ret)) (
     .seq (
     .region [⟨some 18, .bin .eql (.t 4) (.c (.int .i64 4)), none⟩,
       ⟨some 17, .mov (.t 18), none⟩] none) (
     .cond (.t 17) (
      .seq (
      .region [⟨some 19, .faddr 3 (.t 1), none⟩,
        ⟨some 20, .load false 1 [.int .i64] (.t 19), none⟩,
        ⟨some 21, .build [.int .i64 0] [(0, 1, (.t 20))], none⟩,
        ⟨some 22, .mki 120 (.t 21), none⟩,
        ⟨some 2, .mov (.t 22), none⟩] none) (
      .ret)) (
      .skip))))))))))) (
 .seq (
 .region [⟨some 23, .build [] [], none⟩,
   ⟨some 24, .mki 129 (.t 23), none⟩,
   ⟨some 2, .mov (.t 24), none⟩] none) (
 .ret)))⟩
def K58 : List (List Nat) := []
def Hn58 : List (Nat × Nat) := []

/-- corebank/account.index$1 -/
def F60 : Fun := ⟨1, 8, [(3, none)],
 .seq (
 .region [⟨some 2, .box 7 (.t 0), none⟩,
   ⟨some 3, .mov (.c (.bool false)), none⟩] none) (
 .seq (
 .region [⟨some 4, .faddr 0 (.t 2), none⟩,
   ⟨some 5, .load false 1 [.int .i64] (.t 4), none⟩,
   ⟨some 6, .load false 1 [.int .i64] (.t 1), none⟩,
   ⟨some 7, .bin .eql (.t 5) (.t 6), none⟩,
   ⟨some 3, .mov (.t 7), none⟩] none) (
 .ret))⟩
def K60 : List (List Nat) := []
def Hn60 : List (Nat × Nat) := []

/-- slices.IndexFunc[[]corebank/api.Account,corebank/api.Account] -/
def F59 : Fun := ⟨2, 19, [(4, none)],
 .seq (
 .region [⟨some 4, .mov (.c (.int .i64 0)), none⟩] none) (
 .seq (
 .seq (
 .region [⟨some 6, .mov (.t 0), none⟩,
   ⟨some 7, .len .l (.t 6), none⟩,
   ⟨some 8, .mov (.c (.int .i64 0)), none⟩] none) (
 .block 0 (
  .loop [1005900, 0, 1, 7, 8, 2000000, 4] (
   .seq (
   .region [⟨some 9, .bin .lss (.t 8) (.t 7), none⟩] none) (
   .seq (
   .cond (.t 9) (
    .skip) (
    .exit 0)) (
   .seq (
   .block 1 (
    .seq (
    .region [⟨some 10, .mov (.t 8), none⟩,
      ⟨some 5, .mov (.t 10), none⟩] none) (
    .seq (
    .region [⟨some 11, .mov (.t 1), none⟩,
      ⟨some 12, .mov (.t 0), none⟩,
      ⟨some 13, .mov (.t 5), none⟩,
      ⟨some 14, .iaddr 7 [.int .i64, .int .i64, .int .i64, .int .i64, .str, .str, .str] (.t 12) (.t 13), none⟩,
      ⟨some 15, .load true 7 [.int .i64, .int .i64, .int .i64, .int .i64, .str, .str, .str] (.t 14), none⟩,
      ⟨some 16, .callv (.t 11) [.t 15], none⟩] none) (
    .cond (.t 16) (
     .seq (
     .region [⟨some 17, .mov (.t 5), none⟩,
       ⟨some 4, .mov (.t 17), none⟩] none) (
     .ret)) (
     .skip))))) (
   .region [⟨some 18, .bin .add (.t 8) (.c (.int .i64 1)), none⟩,
     ⟨some 8, .mov (.t 18), none⟩] none))))))) (
 .seq (
 .region [⟨some 4, .mov (.c (.int .i64 (-1))), none⟩] none) (
 .ret)))⟩
def K59 : List (List Nat) := [[1005900, 0, 1, 7, 8, 2000000, 4]]
def Hn59 : List (Nat × Nat) := []

/-- corebank/balance.movements$1 -/
def F61 : Fun := ⟨1, 35, [],
 .seq (
 .region [⟨some 8, .load false 1 [.slice 10] (.t 1), none⟩,
   ⟨some 9, .len .l (.t 8), none⟩,
   ⟨some 10, .mov (.c (.int .i64 0)), none⟩] none) (
 .block 0 (
  .loop [1006100, 0, 2, 8, 9, 10, 2000000] (
   .seq (
   .region [⟨some 11, .bin .lss (.t 10) (.t 9), none⟩] none) (
   .seq (
   .cond (.t 11) (
    .skip) (
    .exit 0)) (
   .seq (
   .block 1 (
    .seq (
    .region [⟨some 12, .iaddr 10 [.int .i64, .int .i64, .int .i64, .int .i64, .int .i64, .int .i64, .str, .str, .slice 3, .int .u64] (.t 8) (.t 10), none⟩,
      ⟨some 13, .load true 10 [.int .i64, .int .i64, .int .i64, .int .i64, .int .i64, .int .i64, .str, .str, .slice 3, .int .u64] (.t 12), none⟩,
      ⟨some 5, .alloc (.agg [.int .i64 0, .int .i64 0, .int .i64 0, .int .i64 0, .int .i64 0, .int .i64 0, .str [], .str [], .nils 3, .int .u64 0]), none⟩,
      ⟨none, .store 10 (.t 5) (.t 13), none⟩] none) (
    .seq (
    .region [⟨some 14, .faddr 8 (.t 5), none⟩,
      ⟨some 15, .load false 1 [.slice 3] (.t 14), none⟩,
      ⟨some 16, .len .l (.t 15), none⟩,
      ⟨some 17, .mov (.c (.int .i64 0)), none⟩] none) (
    .block 2 (
     .loop [1006101, 0, 2, 5, 8, 9, 10, 15, 16, 17, 2000000, 0, 2, 8, 9, 10] (
      .seq (
      .region [⟨some 18, .bin .lss (.t 17) (.t 16), none⟩] none) (
      .seq (
      .cond (.t 18) (
       .skip) (
       .exit 2)) (
      .seq (
      .block 3 (
       .seq (
       .region [⟨some 19, .iaddr 3 [.int .i64, .int .i64, .str] (.t 15) (.t 17), none⟩,
         ⟨some 20, .load true 3 [.int .i64, .int .i64, .str] (.t 19), none⟩,
         ⟨some 7, .alloc (.agg [.int .i64 0, .int .i64 0, .str []]), none⟩,
         ⟨none, .store 3 (.t 7) (.t 20), none⟩] none) (
       .seq (
       .region [⟨some 21, .faddr 0 (.t 7), none⟩,
         ⟨some 22, .load false 1 [.int .i64] (.t 21), none⟩,
         ⟨some 23, .load false 1 [.int .i64] (.t 2), none⟩,
         ⟨some 24, .bin .eql (.t 22) (.t 23), none⟩,
         ⟨some 25, .mov (.t 24), none⟩,
         ⟨some 26, .mov (.t 0), some (25, true)⟩,
         ⟨some 27, .load true 10 [.int .i64, .int .i64, .int .i64, .int .i64, .int .i64, .int .i64, .str, .str, .slice 3, .int .u64] (.t 5), some (25, true)⟩,
         ⟨some 28, .faddr 1 (.t 7), some (25, true)⟩,
         ⟨some 29, .load false 1 [.int .i64] (.t 28), some (25, true)⟩,
         ⟨some 30, .callv (.t 26) [.t 27, .t 29], some (25, true)⟩,
         ⟨some 31, .un .not (.t 30), some (25, true)⟩,
         ⟨some 32, .pick (.t 25) (.t 31) (.c (.bool false)), none⟩] none) (
       .cond (.t 32) (
        .ret) (
        .skip))))) (
      .region [⟨some 33, .bin .add (.t 17) (.c (.int .i64 1)), none⟩,
        ⟨some 17, .mov (.t 33), none⟩] none))))))))) (
   .region [⟨some 34, .bin .add (.t 10) (.c (.int .i64 1)), none⟩,
     ⟨some 10, .mov (.t 34), none⟩] none))))))⟩
def K61 : List (List Nat) := [[1006100, 0, 2, 8, 9, 10, 2000000], [1006101, 0, 2, 5, 8, 9, 10, 15, 16, 17, 2000000, 0, 2, 8, 9, 10]]
def Hn61 : List (Nat × Nat) := []

def hintF : List (Nat × Nat) → Nat → Nat
  | [], _ => 0
  | (i, n) :: l, d => if d = i then n else hintF l d

def tab : List (Nat × Fun) := [(3, F3), (4, F4), (5, F5), (6, F6), (7, F7), (8, F8), (9, F9), (10, F10), (11, F11), (12, F12), (13, F13), (14, F14), (15, F15), (16, F16), (17, F17), (18, F18), (19, F19), (20, F20), (21, F21), (22, F22), (23, F23), (24, F24), (25, F25), (26, F26), (27, F27), (28, F28), (29, F29), (30, F30), (32, F32), (31, F31), (33, F33), (78, F78), (77, F77), (36, F36), (37, F37), (38, F38), (39, F39), (40, F40), (41, F41), (42, F42), (43, F43), (45, F45), (44, F44), (46, F46), (47, F47), (48, F48), (49, F49), (50, F50), (51, F51), (53, F53), (54, F54), (55, F55), (56, F56), (57, F57), (58, F58), (60, F60), (59, F59), (61, F61)]

def lookF : List (Nat × Fun) → Nat → Option Fun
  | [], _ => none
  | (i, F) :: l, f => if f = i then some F else lookF l f

end Go.Proofs.H53

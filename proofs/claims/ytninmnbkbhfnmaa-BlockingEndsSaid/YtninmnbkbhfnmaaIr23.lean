/- The intermediate code of the functions reached. Printed by a program of mine. -/
import Derived.Test.YtninmnbkbhfnmaaE3
set_option linter.unusedVariables false
set_option linter.unusedSimpArgs false
set_option linter.unnecessarySimpa false
namespace Go.Proofs.H23
open Go Go.Eng

/-- corebank/corebanklaw23.BlockingChecks -/
def F3 : Fun := ⟨1, 21, [(2, none)],
 .seq (
 .region [⟨some 2, .mov (.c (.bool false)), none⟩] none) (
 .seq (
 .region [⟨some 3, .mov (.t 0), none⟩,
   ⟨some 4, .len .l (.t 3), none⟩,
   ⟨some 5, .bin .gtr (.t 4) (.c (.int .i64 100)), none⟩,
   ⟨some 6, .mov (.t 5), none⟩,
   ⟨some 7, .mov (.t 0), some (6, false)⟩,
   ⟨some 8, .call 9 [.t 7], some (6, false)⟩,
   ⟨some 9, .un .not (.t 8), some (6, false)⟩,
   ⟨some 10, .pick (.t 6) (.c (.bool true)) (.t 9), none⟩,
   ⟨some 11, .mov (.t 10), none⟩,
   ⟨some 12, .mov (.t 0), some (11, false)⟩,
   ⟨some 13, .call 10 [.t 12], some (11, false)⟩,
   ⟨some 14, .mov (.t 0), some (11, false)⟩,
   ⟨some 15, .call 11 [.t 14], some (11, false)⟩,
   ⟨some 16, .bin .eql (.t 13) (.t 15), some (11, false)⟩,
   ⟨some 17, .pick (.t 11) (.c (.bool true)) (.t 16), none⟩,
   ⟨some 18, .mov (.t 17), none⟩,
   ⟨some 19, .call 12 [], some (18, true)⟩,
   ⟨some 20, .pick (.t 18) (.t 19) (.c (.bool false)), none⟩,
   ⟨some 2, .mov (.t 20), none⟩] none) (
 .ret))⟩
def K3 : List (List Nat) := []
def Hn3 : List (Nat × Nat) := []

/-- corebank/corebanklaw23.BlockingPlaces -/
def F4 : Fun := ⟨2, 56, [(4, none)],
 .seq (
 .region [⟨some 3, .box 7 (.t 1), none⟩,
   ⟨some 4, .mov (.c (.bool false)), none⟩] none) (
 .seq (
 .seq (
 .region [⟨some 9, .mov (.t 0), none⟩,
   ⟨some 10, .len .l (.t 9), none⟩,
   ⟨some 11, .bin .gtr (.t 10) (.c (.int .i64 100)), none⟩,
   ⟨some 12, .mov (.t 11), none⟩,
   ⟨some 13, .mov (.t 0), some (12, false)⟩,
   ⟨some 14, .call 9 [.t 13], some (12, false)⟩,
   ⟨some 15, .un .not (.t 14), some (12, false)⟩,
   ⟨some 16, .pick (.t 12) (.c (.bool true)) (.t 15), none⟩,
   ⟨some 17, .mov (.t 16), none⟩,
   ⟨some 18, .faddr 6 (.t 3), some (17, false)⟩,
   ⟨some 19, .load false 1 [.str] (.t 18), some (17, false)⟩,
   ⟨some 20, .len .s (.t 19), some (17, false)⟩,
   ⟨some 21, .bin .gtr (.t 20) (.c (.int .i64 100)), some (17, false)⟩,
   ⟨some 22, .pick (.t 17) (.c (.bool true)) (.t 21), none⟩] none) (
 .cond (.t 22) (
  .seq (
  .region [⟨some 23, .call 12 [], none⟩,
    ⟨some 4, .mov (.t 23), none⟩] none) (
  .ret)) (
  .skip))) (
 .seq (
 .region [⟨some 25, .mov (.t 0), none⟩,
   ⟨some 26, .load true 7 [.int .i64, .int .i64, .int .i64, .int .i64, .int .i64, .int .i64, .str] (.t 3), none⟩,
   ⟨some 27, .call 13 [.t 25, .t 26], none⟩,
   ⟨some 24, .mov (.t 27), none⟩,
   ⟨some 28, .ext (.t 24) 0, none⟩,
   ⟨some 29, .ext (.t 24) 1, none⟩,
   ⟨some 5, .mov (.t 28), none⟩,
   ⟨some 6, .mov (.t 29), none⟩] none) (
 .seq (
 .region [⟨some 31, .mov (.t 0), none⟩,
   ⟨some 32, .load true 7 [.int .i64, .int .i64, .int .i64, .int .i64, .int .i64, .int .i64, .str] (.t 3), none⟩,
   ⟨some 33, .call 14 [.t 31, .t 32], none⟩,
   ⟨some 30, .mov (.t 33), none⟩,
   ⟨some 34, .ext (.t 30) 0, none⟩,
   ⟨some 35, .ext (.t 30) 1, none⟩,
   ⟨some 7, .mov (.t 34), none⟩,
   ⟨some 8, .mov (.t 35), none⟩] none) (
 .seq (
 .region [⟨some 36, .mov (.t 5), none⟩,
   ⟨some 37, .mov (.t 7), none⟩,
   ⟨some 38, .call 15 [.t 36, .t 37], none⟩,
   ⟨some 39, .mov (.t 38), none⟩,
   ⟨some 40, .mov (.t 6), some (39, true)⟩,
   ⟨some 41, .mov (.t 8), some (39, true)⟩,
   ⟨some 42, .bin .eql (.t 40) (.t 41), some (39, true)⟩,
   ⟨some 43, .pick (.t 39) (.t 42) (.c (.bool false)), none⟩,
   ⟨some 44, .mov (.t 43), none⟩,
   ⟨some 45, .mov (.t 6), some (44, true)⟩,
   ⟨some 46, .bin .neq (.t 45) (.c (.int .i64 0)), some (44, true)⟩,
   ⟨some 47, .mov (.t 46), some (44, true)⟩,
   ⟨some 48, .mov (.t 5), some (47, false)⟩,
   ⟨some 49, .call 10 [.t 48], some (47, false)⟩,
   ⟨some 50, .bin .eql (.t 49) (.c (.int .i64 0)), some (47, false)⟩,
   ⟨some 51, .pick (.t 47) (.c (.bool true)) (.t 50), some (44, true)⟩,
   ⟨some 52, .pick (.t 44) (.t 51) (.c (.bool false)), none⟩,
   ⟨some 53, .mov (.t 52), none⟩,
   ⟨some 54, .call 12 [], some (53, true)⟩,
   ⟨some 55, .pick (.t 53) (.t 54) (.c (.bool false)), none⟩,
   ⟨some 4, .mov (.t 55), none⟩] none) (
 .ret)))))⟩
def K4 : List (List Nat) := []
def Hn4 : List (Nat × Nat) := []

/-- corebank/corebanklaw23.BlockingLifts -/
def F5 : Fun := ⟨3, 40, [(6, none)],
 .seq (
 .region [⟨some 6, .mov (.c (.bool false)), none⟩] none) (
 .seq (
 .seq (
 .region [⟨some 11, .mov (.t 0), none⟩,
   ⟨some 12, .len .l (.t 11), none⟩,
   ⟨some 13, .bin .gtr (.t 12) (.c (.int .i64 100)), none⟩] none) (
 .cond (.t 13) (
  .seq (
  .region [⟨some 14, .call 12 [], none⟩,
    ⟨some 6, .mov (.t 14), none⟩] none) (
  .ret)) (
  .skip))) (
 .seq (
 .region [⟨some 16, .mov (.t 0), none⟩,
   ⟨some 17, .mov (.t 1), none⟩,
   ⟨some 18, .mov (.t 2), none⟩,
   ⟨some 19, .call 16 [.t 16, .t 17, .t 18], none⟩,
   ⟨some 15, .mov (.t 19), none⟩,
   ⟨some 20, .ext (.t 15) 0, none⟩,
   ⟨some 21, .ext (.t 15) 1, none⟩,
   ⟨some 7, .mov (.t 20), none⟩,
   ⟨some 8, .mov (.t 21), none⟩] none) (
 .seq (
 .region [⟨some 23, .mov (.t 0), none⟩,
   ⟨some 24, .mov (.t 1), none⟩,
   ⟨some 25, .mov (.t 2), none⟩,
   ⟨some 26, .call 17 [.t 23, .t 24, .t 25], none⟩,
   ⟨some 22, .mov (.t 26), none⟩,
   ⟨some 27, .ext (.t 22) 0, none⟩,
   ⟨some 28, .ext (.t 22) 1, none⟩,
   ⟨some 9, .mov (.t 27), none⟩,
   ⟨some 10, .mov (.t 28), none⟩] none) (
 .seq (
 .region [⟨some 29, .mov (.t 7), none⟩,
   ⟨some 30, .mov (.t 9), none⟩,
   ⟨some 31, .call 15 [.t 29, .t 30], none⟩,
   ⟨some 32, .mov (.t 31), none⟩,
   ⟨some 33, .mov (.t 8), some (32, true)⟩,
   ⟨some 34, .mov (.t 10), some (32, true)⟩,
   ⟨some 35, .bin .eql (.t 33) (.t 34), some (32, true)⟩,
   ⟨some 36, .pick (.t 32) (.t 35) (.c (.bool false)), none⟩,
   ⟨some 37, .mov (.t 36), none⟩,
   ⟨some 38, .call 12 [], some (37, true)⟩,
   ⟨some 39, .pick (.t 37) (.t 38) (.c (.bool false)), none⟩,
   ⟨some 6, .mov (.t 39), none⟩] none) (
 .ret)))))⟩
def K5 : List (List Nat) := []
def Hn5 : List (Nat × Nat) := []

/-- corebank/corebanklaw23.BlockingActs -/
def F6 : Fun := ⟨2, 59, [(4, none)],
 .seq (
 .region [⟨some 3, .box 3 (.t 1), none⟩,
   ⟨some 4, .mov (.c (.bool false)), none⟩] none) (
 .seq (
 .seq (
 .region [⟨some 5, .mov (.t 0), none⟩,
   ⟨some 6, .len .l (.t 5), none⟩,
   ⟨some 7, .bin .gtr (.t 6) (.c (.int .i64 100)), none⟩] none) (
 .cond (.t 7) (
  .seq (
  .region [⟨some 8, .call 12 [], none⟩,
    ⟨some 4, .mov (.t 8), none⟩] none) (
  .ret)) (
  .skip))) (
 .seq (
 .region [⟨some 9, .mov (.t 0), none⟩,
   ⟨some 10, .faddr 0 (.t 3), none⟩,
   ⟨some 11, .load false 1 [.int .i64] (.t 10), none⟩,
   ⟨some 12, .faddr 1 (.t 3), none⟩,
   ⟨some 13, .load false 1 [.int .i64] (.t 12), none⟩,
   ⟨some 14, .call 18 [.t 9, .t 11, .t 13], none⟩,
   ⟨some 15, .mov (.t 0), none⟩,
   ⟨some 16, .faddr 0 (.t 3), none⟩,
   ⟨some 17, .load false 1 [.int .i64] (.t 16), none⟩,
   ⟨some 18, .faddr 1 (.t 3), none⟩,
   ⟨some 19, .load false 1 [.int .i64] (.t 18), none⟩,
   ⟨some 20, .call 19 [.t 15, .t 17, .t 19], none⟩,
   ⟨some 21, .call 15 [.t 14, .t 20], none⟩,
   ⟨some 22, .mov (.t 21), none⟩,
   ⟨some 23, .mov (.t 0), some (22, true)⟩,
   ⟨some 24, .faddr 0 (.t 3), some (22, true)⟩,
   ⟨some 25, .load false 1 [.int .i64] (.t 24), some (22, true)⟩,
   ⟨some 26, .faddr 1 (.t 3), some (22, true)⟩,
   ⟨some 27, .load false 1 [.int .i64] (.t 26), some (22, true)⟩,
   ⟨some 28, .faddr 2 (.t 3), some (22, true)⟩,
   ⟨some 29, .load false 1 [.int .i64] (.t 28), some (22, true)⟩,
   ⟨some 30, .call 20 [.t 23, .t 25, .t 27, .t 29], some (22, true)⟩,
   ⟨some 31, .mov (.t 0), some (22, true)⟩,
   ⟨some 32, .faddr 0 (.t 3), some (22, true)⟩,
   ⟨some 33, .load false 1 [.int .i64] (.t 32), some (22, true)⟩,
   ⟨some 34, .faddr 1 (.t 3), some (22, true)⟩,
   ⟨some 35, .load false 1 [.int .i64] (.t 34), some (22, true)⟩,
   ⟨some 36, .faddr 2 (.t 3), some (22, true)⟩,
   ⟨some 37, .load false 1 [.int .i64] (.t 36), some (22, true)⟩,
   ⟨some 38, .call 21 [.t 31, .t 33, .t 35, .t 37], some (22, true)⟩,
   ⟨some 39, .eqs (false, [.b]) false (.t 30) (.t 38), some (22, true)⟩,
   ⟨some 40, .pick (.t 22) (.t 39) (.c (.bool false)), none⟩,
   ⟨some 41, .mov (.t 40), none⟩,
   ⟨some 42, .mov (.t 0), some (41, true)⟩,
   ⟨some 43, .faddr 0 (.t 3), some (41, true)⟩,
   ⟨some 44, .load false 1 [.int .i64] (.t 43), some (41, true)⟩,
   ⟨some 45, .faddr 1 (.t 3), some (41, true)⟩,
   ⟨some 46, .load false 1 [.int .i64] (.t 45), some (41, true)⟩,
   ⟨some 47, .call 22 [.t 42, .t 44, .t 46], some (41, true)⟩,
   ⟨some 48, .mov (.t 0), some (41, true)⟩,
   ⟨some 49, .faddr 0 (.t 3), some (41, true)⟩,
   ⟨some 50, .load false 1 [.int .i64] (.t 49), some (41, true)⟩,
   ⟨some 51, .faddr 1 (.t 3), some (41, true)⟩,
   ⟨some 52, .load false 1 [.int .i64] (.t 51), some (41, true)⟩,
   ⟨some 53, .call 23 [.t 48, .t 50, .t 52], some (41, true)⟩,
   ⟨some 54, .bin .eql (.t 47) (.t 53), some (41, true)⟩,
   ⟨some 55, .pick (.t 41) (.t 54) (.c (.bool false)), none⟩,
   ⟨some 56, .mov (.t 55), none⟩,
   ⟨some 57, .call 12 [], some (56, true)⟩,
   ⟨some 58, .pick (.t 56) (.t 57) (.c (.bool false)), none⟩,
   ⟨some 4, .mov (.t 58), none⟩] (some [[], [], [1], [], [3], [0, 2, 1, 4, 3], [], [], [7], [], [9], [6, 8, 7, 10, 9, 5, 0, 2, 1, 4, 3], [11, 6, 8, 7, 10, 9, 5, 0, 2, 1, 4, 3], [12, 11, 6, 8, 7, 10, 9, 5, 0, 2, 1, 4, 3], [13, 12, 11, 6, 8, 7, 10, 9, 5, 0, 2, 1, 4, 3], [13, 12, 11, 6, 8, 7, 10, 9, 5, 0, 2, 1, 4, 3], [15, 13, 12, 11, 6, 8, 7, 10, 9, 5, 0, 2, 1, 4, 3], [13, 12, 11, 6, 8, 7, 10, 9, 5, 0, 2, 1, 4, 3], [17, 13, 12, 11, 6, 8, 7, 10, 9, 5, 0, 2, 1, 4, 3], [13, 12, 11, 6, 8, 7, 10, 9, 5, 0, 2, 1, 4, 3], [19, 13, 12, 11, 6, 8, 7, 10, 9, 5, 0, 2, 1, 4, 3], [14, 16, 15, 18, 17, 20, 19, 13, 12, 11, 6, 8, 7, 10, 9, 5, 0, 2, 1, 4, 3], [13, 12, 11, 6, 8, 7, 10, 9, 5, 0, 2, 1, 4, 3], [13, 12, 11, 6, 8, 7, 10, 9, 5, 0, 2, 1, 4, 3], [23, 13, 12, 11, 6, 8, 7, 10, 9, 5, 0, 2, 1, 4, 3], [13, 12, 11, 6, 8, 7, 10, 9, 5, 0, 2, 1, 4, 3], [25, 13, 12, 11, 6, 8, 7, 10, 9, 5, 0, 2, 1, 4, 3], [13, 12, 11, 6, 8, 7, 10, 9, 5, 0, 2, 1, 4, 3], [27, 13, 12, 11, 6, 8, 7, 10, 9, 5, 0, 2, 1, 4, 3], [22, 24, 23, 26, 25, 28, 27, 21, 14, 16, 15, 18, 17, 20, 19, 13, 12, 11, 6, 8, 7, 10, 9, 5, 0, 2, 1, 4, 3], [29, 22, 24, 23, 26, 25, 28, 27, 21, 14, 16, 15, 18, 17, 20, 19, 13, 12, 11, 6, 8, 7, 10, 9, 5, 0, 2, 1, 4, 3], [30, 29, 22, 24, 23, 26, 25, 28, 27, 21, 14, 16, 15, 18, 17, 20, 19, 13, 12, 11, 6, 8, 7, 10, 9, 5, 0, 2, 1, 4, 3], [31, 30, 29, 22, 24, 23, 26, 25, 28, 27, 21, 14, 16, 15, 18, 17, 20, 19, 13, 12, 11, 6, 8, 7, 10, 9, 5, 0, 2, 1, 4, 3], [32, 31, 30, 29, 22, 24, 23, 26, 25, 28, 27, 21, 14, 16, 15, 18, 17, 20, 19, 13, 12, 11, 6, 8, 7, 10, 9, 5, 0, 2, 1, 4, 3], [32, 31, 30, 29, 22, 24, 23, 26, 25, 28, 27, 21, 14, 16, 15, 18, 17, 20, 19, 13, 12, 11, 6, 8, 7, 10, 9, 5, 0, 2, 1, 4, 3], [34, 32, 31, 30, 29, 22, 24, 23, 26, 25, 28, 27, 21, 14, 16, 15, 18, 17, 20, 19, 13, 12, 11, 6, 8, 7, 10, 9, 5, 0, 2, 1, 4, 3], [32, 31, 30, 29, 22, 24, 23, 26, 25, 28, 27, 21, 14, 16, 15, 18, 17, 20, 19, 13, 12, 11, 6, 8, 7, 10, 9, 5, 0, 2, 1, 4, 3], [36, 32, 31, 30, 29, 22, 24, 23, 26, 25, 28, 27, 21, 14, 16, 15, 18, 17, 20, 19, 13, 12, 11, 6, 8, 7, 10, 9, 5, 0, 2, 1, 4, 3], [33, 35, 34, 37, 36, 32, 31, 30, 29, 22, 24, 23, 26, 25, 28, 27, 21, 14, 16, 15, 18, 17, 20, 19, 13, 12, 11, 6, 8, 7, 10, 9, 5, 0, 2, 1, 4, 3], [32, 31, 30, 29, 22, 24, 23, 26, 25, 28, 27, 21, 14, 16, 15, 18, 17, 20, 19, 13, 12, 11, 6, 8, 7, 10, 9, 5, 0, 2, 1, 4, 3], [32, 31, 30, 29, 22, 24, 23, 26, 25, 28, 27, 21, 14, 16, 15, 18, 17, 20, 19, 13, 12, 11, 6, 8, 7, 10, 9, 5, 0, 2, 1, 4, 3], [40, 32, 31, 30, 29, 22, 24, 23, 26, 25, 28, 27, 21, 14, 16, 15, 18, 17, 20, 19, 13, 12, 11, 6, 8, 7, 10, 9, 5, 0, 2, 1, 4, 3], [32, 31, 30, 29, 22, 24, 23, 26, 25, 28, 27, 21, 14, 16, 15, 18, 17, 20, 19, 13, 12, 11, 6, 8, 7, 10, 9, 5, 0, 2, 1, 4, 3], [42, 32, 31, 30, 29, 22, 24, 23, 26, 25, 28, 27, 21, 14, 16, 15, 18, 17, 20, 19, 13, 12, 11, 6, 8, 7, 10, 9, 5, 0, 2, 1, 4, 3], [39, 41, 40, 43, 42, 38, 33, 35, 34, 37, 36, 32, 31, 30, 29, 22, 24, 23, 26, 25, 28, 27, 21, 14, 16, 15, 18, 17, 20, 19, 13, 12, 11, 6, 8, 7, 10, 9, 5, 0, 2, 1, 4, 3], [44, 39, 41, 40, 43, 42, 38, 33, 35, 34, 37, 36, 32, 31, 30, 29, 22, 24, 23, 26, 25, 28, 27, 21, 14, 16, 15, 18, 17, 20, 19, 13, 12, 11, 6, 8, 7, 10, 9, 5, 0, 2, 1, 4, 3], [45, 44, 39, 41, 40, 43, 42, 38, 33, 35, 34, 37, 36, 32, 31, 30, 29, 22, 24, 23, 26, 25, 28, 27, 21, 14, 16, 15, 18, 17, 20, 19, 13, 12, 11, 6, 8, 7, 10, 9, 5, 0, 2, 1, 4, 3], [46, 45, 44, 39, 41, 40, 43, 42, 38, 33, 35, 34, 37, 36, 32, 31, 30, 29, 22, 24, 23, 26, 25, 28, 27, 21, 14, 16, 15, 18, 17, 20, 19, 13, 12, 11, 6, 8, 7, 10, 9, 5, 0, 2, 1, 4, 3], [47, 46, 45, 44, 39, 41, 40, 43, 42, 38, 33, 35, 34, 37, 36, 32, 31, 30, 29, 22, 24, 23, 26, 25, 28, 27, 21, 14, 16, 15, 18, 17, 20, 19, 13, 12, 11, 6, 8, 7, 10, 9, 5, 0, 2, 1, 4, 3], [48, 47, 46, 45, 44, 39, 41, 40, 43, 42, 38, 33, 35, 34, 37, 36, 32, 31, 30, 29, 22, 24, 23, 26, 25, 28, 27, 21, 14, 16, 15, 18, 17, 20, 19, 13, 12, 11, 6, 8, 7, 10, 9, 5, 0, 2, 1, 4, 3], [49, 48, 47, 46, 45, 44, 39, 41, 40, 43, 42, 38, 33, 35, 34, 37, 36, 32, 31, 30, 29, 22, 24, 23, 26, 25, 28, 27, 21, 14, 16, 15, 18, 17, 20, 19, 13, 12, 11, 6, 8, 7, 10, 9, 5, 0, 2, 1, 4, 3]])) (
 .ret)))⟩
def K6 : List (List Nat) := []
def Hn6 : List (Nat × Nat) := []

/-- corebank/corebanklaw23.BlockingReserves -/
def F7 : Fun := ⟨3, 152, [(6, none)],
 .seq (
 .region [⟨some 4, .box 7 (.t 1), none⟩,
   ⟨some 5, .box 3 (.t 2), none⟩,
   ⟨some 6, .mov (.c (.bool false)), none⟩] none) (
 .seq (
 .seq (
 .region [⟨some 14, .mov (.t 0), none⟩,
   ⟨some 15, .len .l (.t 14), none⟩,
   ⟨some 16, .bin .gtr (.t 15) (.c (.int .i64 100)), none⟩,
   ⟨some 17, .mov (.t 16), none⟩,
   ⟨some 18, .mov (.t 0), some (17, false)⟩,
   ⟨some 19, .call 9 [.t 18], some (17, false)⟩,
   ⟨some 20, .un .not (.t 19), some (17, false)⟩,
   ⟨some 21, .pick (.t 17) (.c (.bool true)) (.t 20), none⟩,
   ⟨some 22, .mov (.t 21), none⟩,
   ⟨some 23, .faddr 6 (.t 4), some (22, false)⟩,
   ⟨some 24, .load false 1 [.str] (.t 23), some (22, false)⟩,
   ⟨some 25, .len .s (.t 24), some (22, false)⟩,
   ⟨some 26, .bin .gtr (.t 25) (.c (.int .i64 100)), some (22, false)⟩,
   ⟨some 27, .pick (.t 22) (.c (.bool true)) (.t 26), none⟩,
   ⟨some 28, .mov (.t 27), none⟩,
   ⟨some 29, .mov (.t 0), some (28, false)⟩,
   ⟨some 30, .call 11 [.t 29], some (28, false)⟩,
   ⟨some 31, .bin .neq (.t 30) (.c (.int .i64 0)), some (28, false)⟩,
   ⟨some 32, .pick (.t 28) (.c (.bool true)) (.t 31), none⟩] none) (
 .cond (.t 32) (
  .seq (
  .region [⟨some 33, .call 12 [], none⟩,
    ⟨some 6, .mov (.t 33), none⟩] none) (
  .ret)) (
  .skip))) (
 .seq (
 .region [⟨some 35, .mov (.t 0), none⟩,
   ⟨some 36, .load true 7 [.int .i64, .int .i64, .int .i64, .int .i64, .int .i64, .int .i64, .str] (.t 4), none⟩,
   ⟨some 37, .call 13 [.t 35, .t 36], none⟩,
   ⟨some 34, .mov (.t 37), none⟩,
   ⟨some 38, .ext (.t 34) 0, none⟩,
   ⟨some 39, .ext (.t 34) 1, none⟩,
   ⟨some 7, .mov (.t 38), none⟩,
   ⟨some 8, .mov (.t 39), none⟩] none) (
 .seq (
 .seq (
 .region [⟨some 40, .mov (.t 8), none⟩,
   ⟨some 41, .bin .neq (.t 40) (.c (.int .i64 0)), none⟩] none) (
 .cond (.t 41) (
  .seq (
  .region [⟨some 43, .mov (.t 0), none⟩,
    ⟨some 44, .load true 7 [.int .i64, .int .i64, .int .i64, .int .i64, .int .i64, .int .i64, .str] (.t 4), none⟩,
    ⟨some 45, .call 14 [.t 43, .t 44], none⟩,
    ⟨some 42, .mov (.t 45), none⟩,
    ⟨some 46, .ext (.t 42) 0, none⟩,
    ⟨some 47, .ext (.t 42) 1, none⟩,
    ⟨some 9, .mov (.t 46), none⟩,
    ⟨some 10, .mov (.t 47), none⟩] none) (
  .seq (
  .region [⟨some 48, .mov (.t 7), none⟩,
    ⟨some 49, .len .l (.t 48), none⟩,
    ⟨some 50, .bin .eql (.t 49) (.c (.int .i64 0)), none⟩,
    ⟨some 51, .mov (.t 50), none⟩,
    ⟨some 52, .mov (.t 8), some (51, true)⟩,
    ⟨some 53, .mov (.t 10), some (51, true)⟩,
    ⟨some 54, .bin .eql (.t 52) (.t 53), some (51, true)⟩,
    ⟨some 55, .pick (.t 51) (.t 54) (.c (.bool false)), none⟩,
    ⟨some 56, .mov (.t 55), none⟩,
    ⟨some 57, .call 12 [], some (56, true)⟩,
    ⟨some 58, .pick (.t 56) (.t 57) (.c (.bool false)), none⟩,
    ⟨some 6, .mov (.t 58), none⟩] none) (
  .ret))) (
  .skip))) (
 .seq (
 .region [⟨some 59, .faddr 1 (.t 4), none⟩,
   ⟨some 60, .load false 1 [.int .i64] (.t 59), none⟩,
   ⟨some 61, .faddr 0 (.t 5), none⟩,
   ⟨some 62, .load false 1 [.int .i64] (.t 61), none⟩,
   ⟨some 63, .bin .eql (.t 60) (.t 62), none⟩,
   ⟨some 64, .mov (.t 63), none⟩,
   ⟨some 65, .faddr 4 (.t 4), some (64, true)⟩,
   ⟨some 66, .load false 1 [.int .i64] (.t 65), some (64, true)⟩,
   ⟨some 67, .faddr 1 (.t 5), some (64, true)⟩,
   ⟨some 68, .load false 1 [.int .i64] (.t 67), some (64, true)⟩,
   ⟨some 69, .bin .leq (.t 66) (.t 68), some (64, true)⟩,
   ⟨some 70, .pick (.t 64) (.t 69) (.c (.bool false)), none⟩,
   ⟨some 71, .mov (.t 70), none⟩,
   ⟨some 72, .faddr 1 (.t 5), some (71, true)⟩,
   ⟨some 73, .load false 1 [.int .i64] (.t 72), some (71, true)⟩,
   ⟨some 74, .faddr 5 (.t 4), some (71, true)⟩,
   ⟨some 75, .load false 1 [.int .i64] (.t 74), some (71, true)⟩,
   ⟨some 76, .bin .leq (.t 73) (.t 75), some (71, true)⟩,
   ⟨some 77, .pick (.t 71) (.t 76) (.c (.bool false)), none⟩,
   ⟨some 11, .mov (.t 77), none⟩] none) (
 .seq (
 .region [⟨some 78, .faddr 2 (.t 4), none⟩,
   ⟨some 79, .load false 1 [.int .i64] (.t 78), none⟩,
   ⟨some 80, .bin .eql (.t 79) (.c (.int .i64 1)), none⟩,
   ⟨some 81, .mov (.t 80), none⟩,
   ⟨some 82, .faddr 2 (.t 4), some (81, false)⟩,
   ⟨some 83, .load false 1 [.int .i64] (.t 82), some (81, false)⟩,
   ⟨some 84, .bin .eql (.t 83) (.c (.int .i64 2)), some (81, false)⟩,
   ⟨some 85, .mov (.t 84), some (81, false)⟩,
   ⟨some 86, .faddr 2 (.t 5), some (85, true)⟩,
   ⟨some 87, .load false 1 [.int .i64] (.t 86), some (85, true)⟩,
   ⟨some 88, .bin .gtr (.t 87) (.c (.int .i64 0)), some (85, true)⟩,
   ⟨some 89, .pick (.t 85) (.t 88) (.c (.bool false)), some (81, false)⟩,
   ⟨some 90, .pick (.t 81) (.c (.bool true)) (.t 89), none⟩,
   ⟨some 91, .mov (.t 90), none⟩,
   ⟨some 92, .faddr 2 (.t 4), some (91, false)⟩,
   ⟨some 93, .load false 1 [.int .i64] (.t 92), some (91, false)⟩,
   ⟨some 94, .bin .eql (.t 93) (.c (.int .i64 3)), some (91, false)⟩,
   ⟨some 95, .mov (.t 94), some (91, false)⟩,
   ⟨some 96, .faddr 2 (.t 5), some (95, true)⟩,
   ⟨some 97, .load false 1 [.int .i64] (.t 96), some (95, true)⟩,
   ⟨some 98, .bin .lss (.t 97) (.c (.int .i64 0)), some (95, true)⟩,
   ⟨some 99, .pick (.t 95) (.t 98) (.c (.bool false)), some (91, false)⟩,
   ⟨some 100, .pick (.t 91) (.c (.bool true)) (.t 99), none⟩,
   ⟨some 12, .mov (.t 100), none⟩] none) (
 .seq (
 .region [⟨some 13, .mov (.c (.int .i64 0)), none⟩] none) (
 .seq (
 .seq (
 .region [⟨some 101, .mov (.t 11), none⟩,
   ⟨some 102, .mov (.t 101), none⟩,
   ⟨some 103, .faddr 2 (.t 4), some (102, true)⟩,
   ⟨some 104, .load false 1 [.int .i64] (.t 103), some (102, true)⟩,
   ⟨some 105, .bin .eql (.t 104) (.c (.int .i64 4)), some (102, true)⟩,
   ⟨some 106, .pick (.t 102) (.t 105) (.c (.bool false)), none⟩] none) (
 .cond (.t 106) (
  .region [⟨some 107, .faddr 3 (.t 4), none⟩,
    ⟨some 108, .load false 1 [.int .i64] (.t 107), none⟩,
    ⟨some 13, .mov (.t 108), none⟩] none) (
  .skip))) (
 .seq (
 .region [⟨some 109, .mov (.t 7), none⟩,
   ⟨some 110, .faddr 0 (.t 5), none⟩,
   ⟨some 111, .load false 1 [.int .i64] (.t 110), none⟩,
   ⟨some 112, .faddr 1 (.t 5), none⟩,
   ⟨some 113, .load false 1 [.int .i64] (.t 112), none⟩,
   ⟨some 114, .faddr 2 (.t 5), none⟩,
   ⟨some 115, .load false 1 [.int .i64] (.t 114), none⟩,
   ⟨some 116, .call 20 [.t 109, .t 111, .t 113, .t 115], none⟩,
   ⟨some 117, .mov (.t 0), none⟩,
   ⟨some 118, .faddr 0 (.t 5), none⟩,
   ⟨some 119, .load false 1 [.int .i64] (.t 118), none⟩,
   ⟨some 120, .faddr 1 (.t 5), none⟩,
   ⟨some 121, .load false 1 [.int .i64] (.t 120), none⟩,
   ⟨some 122, .faddr 2 (.t 5), none⟩,
   ⟨some 123, .load false 1 [.int .i64] (.t 122), none⟩,
   ⟨some 124, .call 20 [.t 117, .t 119, .t 121, .t 123], none⟩,
   ⟨some 125, .mov (.t 124), none⟩,
   ⟨some 126, .mov (.t 11), some (125, false)⟩,
   ⟨some 127, .mov (.t 126), some (125, false)⟩,
   ⟨some 128, .mov (.t 12), some (127, true)⟩,
   ⟨some 129, .pick (.t 127) (.t 128) (.c (.bool false)), some (125, false)⟩,
   ⟨some 130, .pick (.t 125) (.c (.bool true)) (.t 129), none⟩,
   ⟨some 131, .eqs (false, [.b]) false (.t 116) (.t 130), none⟩,
   ⟨some 132, .mov (.t 131), none⟩,
   ⟨some 133, .mov (.t 7), some (132, true)⟩,
   ⟨some 134, .faddr 0 (.t 5), some (132, true)⟩,
   ⟨some 135, .load false 1 [.int .i64] (.t 134), some (132, true)⟩,
   ⟨some 136, .faddr 1 (.t 5), some (132, true)⟩,
   ⟨some 137, .load false 1 [.int .i64] (.t 136), some (132, true)⟩,
   ⟨some 138, .call 22 [.t 133, .t 135, .t 137], some (132, true)⟩,
   ⟨some 139, .mov (.t 0), some (132, true)⟩,
   ⟨some 140, .faddr 0 (.t 5), some (132, true)⟩,
   ⟨some 141, .load false 1 [.int .i64] (.t 140), some (132, true)⟩,
   ⟨some 142, .faddr 1 (.t 5), some (132, true)⟩,
   ⟨some 143, .load false 1 [.int .i64] (.t 142), some (132, true)⟩,
   ⟨some 144, .call 22 [.t 139, .t 141, .t 143], some (132, true)⟩,
   ⟨some 145, .mov (.t 13), some (132, true)⟩,
   ⟨some 146, .bin .add (.t 144) (.t 145), some (132, true)⟩,
   ⟨some 147, .bin .eql (.t 138) (.t 146), some (132, true)⟩,
   ⟨some 148, .pick (.t 132) (.t 147) (.c (.bool false)), none⟩,
   ⟨some 149, .mov (.t 148), none⟩,
   ⟨some 150, .call 12 [], some (149, true)⟩,
   ⟨some 151, .pick (.t 149) (.t 150) (.c (.bool false)), none⟩,
   ⟨some 6, .mov (.t 151), none⟩] (some [[], [], [1], [], [3], [], [5], [0, 2, 1, 4, 3, 6, 5], [], [], [9], [], [11], [], [13], [8, 10, 9, 12, 11, 14, 13, 7, 0, 2, 1, 4, 3, 6, 5], [15, 8, 10, 9, 12, 11, 14, 13, 7, 0, 2, 1, 4, 3, 6, 5], [16, 15, 8, 10, 9, 12, 11, 14, 13, 7, 0, 2, 1, 4, 3, 6, 5], [17, 16, 15, 8, 10, 9, 12, 11, 14, 13, 7, 0, 2, 1, 4, 3, 6, 5], [18, 17, 16, 15, 8, 10, 9, 12, 11, 14, 13, 7, 0, 2, 1, 4, 3, 6, 5], [19, 18, 17, 16, 15, 8, 10, 9, 12, 11, 14, 13, 7, 0, 2, 1, 4, 3, 6, 5], [20, 19, 18, 17, 16, 15, 8, 10, 9, 12, 11, 14, 13, 7, 0, 2, 1, 4, 3, 6, 5], [21, 20, 19, 18, 17, 16, 15, 8, 10, 9, 12, 11, 14, 13, 7, 0, 2, 1, 4, 3, 6, 5], [22, 21, 20, 19, 18, 17, 16, 15, 8, 10, 9, 12, 11, 14, 13, 7, 0, 2, 1, 4, 3, 6, 5], [23, 22, 21, 20, 19, 18, 17, 16, 15, 8, 10, 9, 12, 11, 14, 13, 7, 0, 2, 1, 4, 3, 6, 5], [23, 22, 21, 20, 19, 18, 17, 16, 15, 8, 10, 9, 12, 11, 14, 13, 7, 0, 2, 1, 4, 3, 6, 5], [25, 23, 22, 21, 20, 19, 18, 17, 16, 15, 8, 10, 9, 12, 11, 14, 13, 7, 0, 2, 1, 4, 3, 6, 5], [23, 22, 21, 20, 19, 18, 17, 16, 15, 8, 10, 9, 12, 11, 14, 13, 7, 0, 2, 1, 4, 3, 6, 5], [27, 23, 22, 21, 20, 19, 18, 17, 16, 15, 8, 10, 9, 12, 11, 14, 13, 7, 0, 2, 1, 4, 3, 6, 5], [24, 26, 25, 28, 27, 23, 22, 21, 20, 19, 18, 17, 16, 15, 8, 10, 9, 12, 11, 14, 13, 7, 0, 2, 1, 4, 3, 6, 5], [23, 22, 21, 20, 19, 18, 17, 16, 15, 8, 10, 9, 12, 11, 14, 13, 7, 0, 2, 1, 4, 3, 6, 5], [23, 22, 21, 20, 19, 18, 17, 16, 15, 8, 10, 9, 12, 11, 14, 13, 7, 0, 2, 1, 4, 3, 6, 5], [31, 23, 22, 21, 20, 19, 18, 17, 16, 15, 8, 10, 9, 12, 11, 14, 13, 7, 0, 2, 1, 4, 3, 6, 5], [23, 22, 21, 20, 19, 18, 17, 16, 15, 8, 10, 9, 12, 11, 14, 13, 7, 0, 2, 1, 4, 3, 6, 5], [33, 23, 22, 21, 20, 19, 18, 17, 16, 15, 8, 10, 9, 12, 11, 14, 13, 7, 0, 2, 1, 4, 3, 6, 5], [30, 32, 31, 34, 33, 29, 24, 26, 25, 28, 27, 23, 22, 21, 20, 19, 18, 17, 16, 15, 8, 10, 9, 12, 11, 14, 13, 7, 0, 2, 1, 4, 3, 6, 5], [23, 22, 21, 20, 19, 18, 17, 16, 15, 8, 10, 9, 12, 11, 14, 13, 7, 0, 2, 1, 4, 3, 6, 5], [35, 30, 32, 31, 34, 33, 29, 24, 26, 25, 28, 27, 36, 23, 22, 21, 20, 19, 18, 17, 16, 15, 8, 10, 9, 12, 11, 14, 13, 7, 0, 2, 1, 4, 3, 6, 5], [37, 35, 30, 32, 31, 34, 33, 29, 24, 26, 25, 28, 27, 36, 23, 22, 21, 20, 19, 18, 17, 16, 15, 8, 10, 9, 12, 11, 14, 13, 7, 0, 2, 1, 4, 3, 6, 5], [38, 37, 35, 30, 32, 31, 34, 33, 29, 24, 26, 25, 28, 27, 36, 23, 22, 21, 20, 19, 18, 17, 16, 15, 8, 10, 9, 12, 11, 14, 13, 7, 0, 2, 1, 4, 3, 6, 5], [39, 38, 37, 36, 35, 30, 32, 31, 34, 33, 29, 24, 26, 25, 28, 27, 23, 22, 21, 20, 19, 18, 17, 16, 15, 8, 10, 9, 12, 11, 14, 13, 7, 0, 2, 1, 4, 3, 6, 5], [40, 39, 38, 37, 36, 35, 30, 32, 31, 34, 33, 29, 24, 26, 25, 28, 27, 23, 22, 21, 20, 19, 18, 17, 16, 15, 8, 10, 9, 12, 11, 14, 13, 7, 0, 2, 1, 4, 3, 6, 5], [41, 40, 39, 38, 37, 36, 35, 30, 32, 31, 34, 33, 29, 24, 26, 25, 28, 27, 23, 22, 21, 20, 19, 18, 17, 16, 15, 8, 10, 9, 12, 11, 14, 13, 7, 0, 2, 1, 4, 3, 6, 5], [42, 41, 40, 39, 38, 37, 36, 35, 30, 32, 31, 34, 33, 29, 24, 26, 25, 28, 27, 23, 22, 21, 20, 19, 18, 17, 16, 15, 8, 10, 9, 12, 11, 14, 13, 7, 0, 2, 1, 4, 3, 6, 5]])) (
 .ret)))))))))⟩
def K7 : List (List Nat) := []
def Hn7 : List (Nat × Nat) := []

/-- corebank/corebanklaw23.BlockingEnds -/
def F8 : Fun := ⟨3, 117, [(6, none)],
 .seq (
 .region [⟨some 5, .box 3 (.t 2), none⟩,
   ⟨some 6, .mov (.c (.bool false)), none⟩] none) (
 .seq (
 .seq (
 .region [⟨some 11, .mov (.t 0), none⟩,
   ⟨some 12, .len .l (.t 11), none⟩,
   ⟨some 13, .bin .gtr (.t 12) (.c (.int .i64 100)), none⟩,
   ⟨some 14, .mov (.t 13), none⟩,
   ⟨some 15, .mov (.t 0), some (14, false)⟩,
   ⟨some 16, .call 9 [.t 15], some (14, false)⟩,
   ⟨some 17, .un .not (.t 16), some (14, false)⟩,
   ⟨some 18, .pick (.t 14) (.c (.bool true)) (.t 17), none⟩,
   ⟨some 19, .mov (.t 18), none⟩,
   ⟨some 20, .mov (.t 0), some (19, false)⟩,
   ⟨some 21, .call 11 [.t 20], some (19, false)⟩,
   ⟨some 22, .bin .neq (.t 21) (.c (.int .i64 0)), some (19, false)⟩,
   ⟨some 23, .pick (.t 19) (.c (.bool true)) (.t 22), none⟩,
   ⟨some 24, .mov (.t 23), none⟩,
   ⟨some 25, .faddr 1 (.t 5), some (24, false)⟩,
   ⟨some 26, .load false 1 [.int .i64] (.t 25), some (24, false)⟩,
   ⟨some 27, .call 24 [.t 26], some (24, false)⟩,
   ⟨some 28, .un .not (.t 27), some (24, false)⟩,
   ⟨some 29, .pick (.t 24) (.c (.bool true)) (.t 28), none⟩] none) (
 .cond (.t 29) (
  .seq (
  .region [⟨some 30, .call 12 [], none⟩,
    ⟨some 6, .mov (.t 30), none⟩] none) (
  .ret)) (
  .skip))) (
 .seq (
 .region [⟨some 32, .mov (.t 0), none⟩,
   ⟨some 33, .mov (.t 1), none⟩,
   ⟨some 34, .faddr 1 (.t 5), none⟩,
   ⟨some 35, .load false 1 [.int .i64] (.t 34), none⟩,
   ⟨some 36, .call 16 [.t 32, .t 33, .t 35], none⟩,
   ⟨some 31, .mov (.t 36), none⟩,
   ⟨some 37, .ext (.t 31) 0, none⟩,
   ⟨some 38, .ext (.t 31) 1, none⟩,
   ⟨some 7, .mov (.t 37), none⟩,
   ⟨some 8, .mov (.t 38), none⟩] none) (
 .seq (
 .seq (
 .region [⟨some 39, .mov (.t 8), none⟩,
   ⟨some 40, .bin .neq (.t 39) (.c (.int .i64 0)), none⟩] none) (
 .cond (.t 40) (
  .seq (
  .region [⟨some 41, .mov (.t 7), none⟩,
    ⟨some 42, .len .l (.t 41), none⟩,
    ⟨some 43, .bin .eql (.t 42) (.c (.int .i64 0)), none⟩,
    ⟨some 44, .mov (.t 43), none⟩,
    ⟨some 45, .mov (.t 8), some (44, true)⟩,
    ⟨some 46, .bin .eql (.t 45) (.c (.int .i64 11)), some (44, true)⟩,
    ⟨some 47, .mov (.t 46), some (44, true)⟩,
    ⟨some 48, .mov (.t 8), some (47, false)⟩,
    ⟨some 49, .bin .eql (.t 48) (.c (.int .i64 23)), some (47, false)⟩,
    ⟨some 50, .pick (.t 47) (.c (.bool true)) (.t 49), some (44, true)⟩,
    ⟨some 51, .pick (.t 44) (.t 50) (.c (.bool false)), none⟩,
    ⟨some 52, .mov (.t 51), none⟩,
    ⟨some 53, .call 12 [], some (52, true)⟩,
    ⟨some 54, .pick (.t 52) (.t 53) (.c (.bool false)), none⟩,
    ⟨some 6, .mov (.t 54), none⟩] none) (
  .ret)) (
  .skip))) (
 .seq (
 .seq (
 .region [⟨some 9, .mov (.c (.int .i64 0)), none⟩] none) (
 .block 0 (
  .loop [1000800, 0, 1, 5, 7, 9] (
   .seq (
   .seq (
   .region [⟨some 55, .mov (.t 9), none⟩,
     ⟨some 56, .mov (.t 7), none⟩,
     ⟨some 57, .len .l (.t 56), none⟩,
     ⟨some 58, .bin .lss (.t 55) (.t 57), none⟩] none) (
   .cond (.t 58) (
    .skip) (
    .exit 0))) (
   .seq (
   .block 1 (
    .seq (
    .region [⟨some 61, .mov (.t 7), none⟩,
      ⟨some 62, .mov (.t 9), none⟩,
      ⟨some 63, .iaddr 7 [.int .i64, .int .i64, .int .i64, .int .i64, .int .i64, .int .i64, .str] (.t 61) (.t 62), none⟩,
      ⟨some 64, .faddr 0 (.t 63), none⟩,
      ⟨some 65, .load false 1 [.int .i64] (.t 64), none⟩,
      ⟨some 66, .mov (.t 1), none⟩,
      ⟨some 67, .bin .eql (.t 65) (.t 66), none⟩,
      ⟨some 68, .mov (.t 67), none⟩,
      ⟨some 69, .mov (.t 7), some (68, true)⟩,
      ⟨some 70, .mov (.t 9), some (68, true)⟩,
      ⟨some 71, .iaddr 7 [.int .i64, .int .i64, .int .i64, .int .i64, .int .i64, .int .i64, .str] (.t 69) (.t 70), some (68, true)⟩,
      ⟨some 72, .faddr 5 (.t 71), some (68, true)⟩,
      ⟨some 73, .load false 1 [.int .i64] (.t 72), some (68, true)⟩,
      ⟨some 74, .faddr 1 (.t 5), some (68, true)⟩,
      ⟨some 75, .load false 1 [.int .i64] (.t 74), some (68, true)⟩,
      ⟨some 76, .bin .geq (.t 73) (.t 75), some (68, true)⟩,
      ⟨some 77, .pick (.t 68) (.t 76) (.c (.bool false)), none⟩] (some [[], [], [0, 1], [2, 0, 1], [3, 2, 0, 1], [], [4, 3, 2, 0, 1, 5], [6, 4, 3, 2, 0, 1, 5], [7, 6, 4, 3, 2, 0, 1, 5], [7, 6, 4, 3, 2, 0, 1, 5], [8, 9, 7, 6, 4, 3, 2, 0, 1, 5], [10, 8, 9, 7, 6, 4, 3, 2, 0, 1, 5], [11, 10, 8, 9, 7, 6, 4, 3, 2, 0, 1, 5], [7, 6, 4, 3, 2, 0, 1, 5], [13, 7, 6, 4, 3, 2, 0, 1, 5], [12, 11, 10, 8, 9, 14, 13, 7, 6, 4, 3, 2, 0, 1, 5], [15, 12, 11, 10, 8, 9, 14, 13, 7, 6, 4, 3, 2, 0, 1, 5]])) (
    .cond (.t 77) (
     .seq (
     .region [⟨some 6, .mov (.c (.bool false)), none⟩] none) (
     .ret)) (
     .skip)))) (
   .region [⟨some 59, .mov (.t 9), none⟩,
     ⟨some 60, .bin .add (.t 59) (.c (.int .i64 1)), none⟩,
     ⟨some 9, .mov (.t 60), none⟩] none)))))) (
 .seq (
 .region [⟨some 78, .faddr 1 (.t 5), none⟩,
   ⟨some 79, .load false 1 [.int .i64] (.t 78), none⟩,
   ⟨some 80, .bin .sub (.t 79) (.c (.int .i64 1)), none⟩,
   ⟨some 10, .mov (.t 80), none⟩] none) (
 .seq (
 .region [⟨some 81, .mov (.t 7), none⟩,
   ⟨some 82, .call 10 [.t 81], none⟩,
   ⟨some 83, .bin .eql (.t 82) (.c (.int .i64 0)), none⟩,
   ⟨some 84, .mov (.t 83), none⟩,
   ⟨some 85, .mov (.t 7), some (84, true)⟩,
   ⟨some 86, .faddr 0 (.t 5), some (84, true)⟩,
   ⟨some 87, .load false 1 [.int .i64] (.t 86), some (84, true)⟩,
   ⟨some 88, .mov (.t 10), some (84, true)⟩,
   ⟨some 89, .faddr 2 (.t 5), some (84, true)⟩,
   ⟨some 90, .load false 1 [.int .i64] (.t 89), some (84, true)⟩,
   ⟨some 91, .call 20 [.t 85, .t 87, .t 88, .t 90], some (84, true)⟩,
   ⟨some 92, .mov (.t 0), some (84, true)⟩,
   ⟨some 93, .faddr 0 (.t 5), some (84, true)⟩,
   ⟨some 94, .load false 1 [.int .i64] (.t 93), some (84, true)⟩,
   ⟨some 95, .mov (.t 10), some (84, true)⟩,
   ⟨some 96, .faddr 2 (.t 5), some (84, true)⟩,
   ⟨some 97, .load false 1 [.int .i64] (.t 96), some (84, true)⟩,
   ⟨some 98, .call 20 [.t 92, .t 94, .t 95, .t 97], some (84, true)⟩,
   ⟨some 99, .eqs (false, [.b]) false (.t 91) (.t 98), some (84, true)⟩,
   ⟨some 100, .pick (.t 84) (.t 99) (.c (.bool false)), none⟩,
   ⟨some 101, .mov (.t 100), none⟩,
   ⟨some 102, .mov (.t 7), some (101, true)⟩,
   ⟨some 103, .faddr 0 (.t 5), some (101, true)⟩,
   ⟨some 104, .load false 1 [.int .i64] (.t 103), some (101, true)⟩,
   ⟨some 105, .mov (.t 10), some (101, true)⟩,
   ⟨some 106, .call 22 [.t 102, .t 104, .t 105], some (101, true)⟩,
   ⟨some 107, .mov (.t 0), some (101, true)⟩,
   ⟨some 108, .faddr 0 (.t 5), some (101, true)⟩,
   ⟨some 109, .load false 1 [.int .i64] (.t 108), some (101, true)⟩,
   ⟨some 110, .mov (.t 10), some (101, true)⟩,
   ⟨some 111, .call 22 [.t 107, .t 109, .t 110], some (101, true)⟩,
   ⟨some 112, .bin .eql (.t 106) (.t 111), some (101, true)⟩,
   ⟨some 113, .pick (.t 101) (.t 112) (.c (.bool false)), none⟩,
   ⟨some 114, .mov (.t 113), none⟩,
   ⟨some 115, .call 12 [], some (114, true)⟩,
   ⟨some 116, .pick (.t 114) (.t 115) (.c (.bool false)), none⟩,
   ⟨some 6, .mov (.t 116), none⟩] (some [[], [0], [1, 0], [2, 1, 0], [3, 2, 1, 0], [3, 2, 1, 0], [5, 3, 2, 1, 0], [3, 2, 1, 0], [3, 2, 1, 0], [8, 3, 2, 1, 0], [4, 6, 5, 7, 9, 8, 3, 2, 1, 0], [3, 2, 1, 0], [3, 2, 1, 0], [12, 3, 2, 1, 0], [3, 2, 1, 0], [3, 2, 1, 0], [15, 3, 2, 1, 0], [11, 13, 12, 14, 16, 15, 10, 4, 6, 5, 7, 9, 8, 3, 2, 1, 0], [17, 11, 13, 12, 14, 16, 15, 10, 4, 6, 5, 7, 9, 8, 3, 2, 1, 0], [18, 17, 11, 13, 12, 14, 16, 15, 10, 4, 6, 5, 7, 9, 8, 3, 2, 1, 0], [19, 18, 17, 11, 13, 12, 14, 16, 15, 10, 4, 6, 5, 7, 9, 8, 3, 2, 1, 0], [20, 19, 18, 17, 11, 13, 12, 14, 16, 15, 10, 4, 6, 5, 7, 9, 8, 3, 2, 1, 0], [20, 19, 18, 17, 11, 13, 12, 14, 16, 15, 10, 4, 6, 5, 7, 9, 8, 3, 2, 1, 0], [22, 20, 19, 18, 17, 11, 13, 12, 14, 16, 15, 10, 4, 6, 5, 7, 9, 8, 3, 2, 1, 0], [20, 19, 18, 17, 11, 13, 12, 14, 16, 15, 10, 4, 6, 5, 7, 9, 8, 3, 2, 1, 0], [21, 23, 22, 24, 20, 19, 18, 17, 11, 13, 12, 14, 16, 15, 10, 4, 6, 5, 7, 9, 8, 3, 2, 1, 0], [20, 19, 18, 17, 11, 13, 12, 14, 16, 15, 10, 4, 6, 5, 7, 9, 8, 3, 2, 1, 0], [20, 19, 18, 17, 11, 13, 12, 14, 16, 15, 10, 4, 6, 5, 7, 9, 8, 3, 2, 1, 0], [27, 20, 19, 18, 17, 11, 13, 12, 14, 16, 15, 10, 4, 6, 5, 7, 9, 8, 3, 2, 1, 0], [20, 19, 18, 17, 11, 13, 12, 14, 16, 15, 10, 4, 6, 5, 7, 9, 8, 3, 2, 1, 0], [26, 28, 27, 29, 25, 21, 23, 22, 24, 20, 19, 18, 17, 11, 13, 12, 14, 16, 15, 10, 4, 6, 5, 7, 9, 8, 3, 2, 1, 0], [30, 26, 28, 27, 29, 25, 21, 23, 22, 24, 20, 19, 18, 17, 11, 13, 12, 14, 16, 15, 10, 4, 6, 5, 7, 9, 8, 3, 2, 1, 0], [31, 30, 26, 28, 27, 29, 25, 21, 23, 22, 24, 20, 19, 18, 17, 11, 13, 12, 14, 16, 15, 10, 4, 6, 5, 7, 9, 8, 3, 2, 1, 0], [32, 31, 30, 26, 28, 27, 29, 25, 21, 23, 22, 24, 20, 19, 18, 17, 11, 13, 12, 14, 16, 15, 10, 4, 6, 5, 7, 9, 8, 3, 2, 1, 0], [33, 32, 31, 30, 26, 28, 27, 29, 25, 21, 23, 22, 24, 20, 19, 18, 17, 11, 13, 12, 14, 16, 15, 10, 4, 6, 5, 7, 9, 8, 3, 2, 1, 0], [34, 33, 32, 31, 30, 26, 28, 27, 29, 25, 21, 23, 22, 24, 20, 19, 18, 17, 11, 13, 12, 14, 16, 15, 10, 4, 6, 5, 7, 9, 8, 3, 2, 1, 0], [35, 34, 33, 32, 31, 30, 26, 28, 27, 29, 25, 21, 23, 22, 24, 20, 19, 18, 17, 11, 13, 12, 14, 16, 15, 10, 4, 6, 5, 7, 9, 8, 3, 2, 1, 0]])) (
 .ret)))))))⟩
def K8 : List (List Nat) := [[1000800, 0, 1, 5, 7, 9]]
def Hn8 : List (Nat × Nat) := []

/-- corebank/corebanklaw23.short -/
def F9 : Fun := ⟨1, 17, [(2, none)],
 .seq (
 .region [⟨some 2, .mov (.c (.bool false)), none⟩] none) (
 .seq (
 .seq (
 .region [⟨some 3, .mov (.c (.int .i64 0)), none⟩] none) (
 .block 0 (
  .loop [1000900, 0, 3] (
   .seq (
   .seq (
   .region [⟨some 4, .mov (.t 3), none⟩,
     ⟨some 5, .mov (.t 0), none⟩,
     ⟨some 6, .len .l (.t 5), none⟩,
     ⟨some 7, .bin .lss (.t 4) (.t 6), none⟩] none) (
   .cond (.t 7) (
    .skip) (
    .exit 0))) (
   .seq (
   .block 1 (
    .seq (
    .region [⟨some 10, .mov (.t 0), none⟩,
      ⟨some 11, .mov (.t 3), none⟩,
      ⟨some 12, .iaddr 7 [.int .i64, .int .i64, .int .i64, .int .i64, .int .i64, .int .i64, .str] (.t 10) (.t 11), none⟩,
      ⟨some 13, .faddr 6 (.t 12), none⟩,
      ⟨some 14, .load false 1 [.str] (.t 13), none⟩,
      ⟨some 15, .len .s (.t 14), none⟩,
      ⟨some 16, .bin .gtr (.t 15) (.c (.int .i64 100)), none⟩] none) (
    .cond (.t 16) (
     .seq (
     .region [⟨some 2, .mov (.c (.bool false)), none⟩] none) (
     .ret)) (
     .skip)))) (
   .region [⟨some 8, .mov (.t 3), none⟩,
     ⟨some 9, .bin .add (.t 8) (.c (.int .i64 1)), none⟩,
     ⟨some 3, .mov (.t 9), none⟩] none)))))) (
 .seq (
 .region [⟨some 2, .mov (.c (.bool true)), none⟩] none) (
 .ret)))⟩
def K9 : List (List Nat) := [[1000900, 0, 3]]
def Hn9 : List (Nat × Nat) := []

/-- corebank/blocking.Check -/
def F10 : Fun := ⟨1, 39, [(2, none)],
 .seq (
 .region [⟨some 2, .mov (.c (.int .i64 0)), none⟩] none) (
 .seq (
 .seq (
 .region [⟨some 5, .mov (.t 0), none⟩,
   ⟨some 6, .len .l (.t 5), none⟩,
   ⟨some 7, .bin .gtr (.t 6) (.c (.int .i64 64)), none⟩] none) (
 .cond (.t 7) (
  .seq (
  .region [⟨some 2, .mov (.c (.int .i64 5)), none⟩] none) (
  .ret)) (
  .skip))) (
 .seq (
 .seq (
 .region [⟨some 8, .mov (.t 0), none⟩,
   ⟨some 9, .len .l (.t 8), none⟩,
   ⟨some 10, .mov (.c (.int .i64 0)), none⟩] none) (
 .block 0 (
  .loop [1001000, 0, 8, 9, 10] (
   .seq (
   .region [⟨some 11, .bin .lss (.t 10) (.t 9), none⟩] none) (
   .seq (
   .cond (.t 11) (
    .skip) (
    .exit 0)) (
   .seq (
   .block 1 (
    .seq (
    .region [⟨some 12, .mov (.t 10), none⟩,
      ⟨some 13, .iaddr 7 [.int .i64, .int .i64, .int .i64, .int .i64, .int .i64, .int .i64, .str] (.t 8) (.t 10), none⟩,
      ⟨some 14, .load true 7 [.int .i64, .int .i64, .int .i64, .int .i64, .int .i64, .int .i64, .str] (.t 13), none⟩,
      ⟨some 4, .alloc (.agg [.int .i64 0, .int .i64 0, .int .i64 0, .int .i64 0, .int .i64 0, .int .i64 0, .str []]), none⟩,
      ⟨some 3, .mov (.t 12), none⟩,
      ⟨none, .store 7 (.t 4) (.t 14), none⟩] none) (
    .block 2 (
     .seq (
     .region [⟨some 16, .load true 7 [.int .i64, .int .i64, .int .i64, .int .i64, .int .i64, .int .i64, .str] (.t 4), none⟩,
       ⟨some 17, .call 25 [.t 16], none⟩,
       ⟨some 18, .un .not (.t 17), none⟩,
       ⟨some 15, .mov (.t 18), none⟩] none) (
     .cond (.t 15) (
      .seq (
      .region [⟨some 2, .mov (.c (.int .i64 1)), none⟩] none) (
      .ret)) (
      .seq (
      .region [⟨some 20, .faddr 6 (.t 4), none⟩,
        ⟨some 21, .load false 1 [.str] (.t 20), none⟩,
        ⟨some 22, .call 26 [.t 21], none⟩,
        ⟨some 23, .un .not (.t 22), none⟩,
        ⟨some 19, .mov (.t 23), none⟩] none) (
      .cond (.t 19) (
       .seq (
       .region [⟨some 2, .mov (.c (.int .i64 4)), none⟩] none) (
       .ret)) (
       .seq (
       .region [⟨some 25, .mov (.t 3), none⟩,
         ⟨some 26, .bin .gtr (.t 25) (.c (.int .i64 0)), none⟩,
         ⟨some 27, .mov (.t 26), none⟩,
         ⟨some 28, .faddr 0 (.t 4), some (27, true)⟩,
         ⟨some 29, .load false 1 [.int .i64] (.t 28), some (27, true)⟩,
         ⟨some 30, .mov (.t 0), some (27, true)⟩,
         ⟨some 31, .mov (.t 3), some (27, true)⟩,
         ⟨some 32, .bin .sub (.t 31) (.c (.int .i64 1)), some (27, true)⟩,
         ⟨some 33, .iaddr 7 [.int .i64, .int .i64, .int .i64, .int .i64, .int .i64, .int .i64, .str] (.t 30) (.t 32), some (27, true)⟩,
         ⟨some 34, .faddr 0 (.t 33), some (27, true)⟩,
         ⟨some 35, .load false 1 [.int .i64] (.t 34), some (27, true)⟩,
         ⟨some 36, .bin .leq (.t 29) (.t 35), some (27, true)⟩,
         ⟨some 37, .pick (.t 27) (.t 36) (.c (.bool false)), none⟩,
         ⟨some 24, .mov (.t 37), none⟩] (some [[], [0], [1, 0], [2, 1, 0], [3, 2, 1, 0], [2, 1, 0], [2, 1, 0], [6, 2, 1, 0], [5, 7, 6, 2, 1, 0], [8, 5, 7, 6, 2, 1, 0], [9, 8, 5, 7, 6, 2, 1, 0], [4, 3, 10, 9, 8, 5, 7, 6, 2, 1, 0], [11, 4, 3, 10, 9, 8, 5, 7, 6, 2, 1, 0], [12, 11, 4, 3, 10, 9, 8, 5, 7, 6, 2, 1, 0]])) (
       .cond (.t 24) (
        .seq (
        .region [⟨some 2, .mov (.c (.int .i64 10)), none⟩] none) (
        .ret)) (
        .skip)))))))))) (
   .region [⟨some 38, .bin .add (.t 10) (.c (.int .i64 1)), none⟩,
     ⟨some 10, .mov (.t 38), none⟩] none))))))) (
 .seq (
 .region [⟨some 2, .mov (.c (.int .i64 0)), none⟩] none) (
 .ret))))⟩
def K10 : List (List Nat) := [[1001000, 0, 8, 9, 10]]
def Hn10 : List (Nat × Nat) := []

/-- corebank/corebankref23.Check -/
def F11 : Fun := ⟨1, 42, [(2, none)],
 .seq (
 .region [⟨some 2, .mov (.c (.int .i64 0)), none⟩] none) (
 .seq (
 .seq (
 .region [⟨some 4, .mov (.t 0), none⟩,
   ⟨some 5, .len .l (.t 4), none⟩,
   ⟨some 6, .bin .gtr (.t 5) (.c (.int .i64 64)), none⟩] none) (
 .cond (.t 6) (
  .seq (
  .region [⟨some 2, .mov (.c (.int .i64 5)), none⟩] none) (
  .ret)) (
  .skip))) (
 .seq (
 .seq (
 .region [⟨some 3, .mov (.c (.int .i64 0)), none⟩] none) (
 .block 0 (
  .loop [1001100, 0, 3] (
   .seq (
   .seq (
   .region [⟨some 7, .mov (.t 3), none⟩,
     ⟨some 8, .mov (.t 0), none⟩,
     ⟨some 9, .len .l (.t 8), none⟩,
     ⟨some 10, .bin .lss (.t 7) (.t 9), none⟩] none) (
   .cond (.t 10) (
    .skip) (
    .exit 0))) (
   .seq (
   .block 1 (
    .seq (
    .seq (
    .region [⟨some 13, .mov (.t 0), none⟩,
      ⟨some 14, .mov (.t 3), none⟩,
      ⟨some 15, .iaddr 7 [.int .i64, .int .i64, .int .i64, .int .i64, .int .i64, .int .i64, .str] (.t 13) (.t 14), none⟩,
      ⟨some 16, .load true 7 [.int .i64, .int .i64, .int .i64, .int .i64, .int .i64, .int .i64, .str] (.t 15), none⟩,
      ⟨some 17, .call 27 [.t 16], none⟩,
      ⟨some 18, .un .not (.t 17), none⟩] none) (
    .cond (.t 18) (
     .seq (
     .region [⟨some 2, .mov (.c (.int .i64 1)), none⟩] none) (
     .ret)) (
     .skip))) (
    .seq (
    .seq (
    .region [⟨some 19, .mov (.t 0), none⟩,
      ⟨some 20, .mov (.t 3), none⟩,
      ⟨some 21, .iaddr 7 [.int .i64, .int .i64, .int .i64, .int .i64, .int .i64, .int .i64, .str] (.t 19) (.t 20), none⟩,
      ⟨some 22, .faddr 6 (.t 21), none⟩,
      ⟨some 23, .load false 1 [.str] (.t 22), none⟩,
      ⟨some 24, .call 28 [.t 23], none⟩,
      ⟨some 25, .un .not (.t 24), none⟩] none) (
    .cond (.t 25) (
     .seq (
     .region [⟨some 2, .mov (.c (.int .i64 4)), none⟩] none) (
     .ret)) (
     .skip))) (
    .seq (
    .region [⟨some 26, .mov (.t 3), none⟩,
      ⟨some 27, .bin .gtr (.t 26) (.c (.int .i64 0)), none⟩,
      ⟨some 28, .mov (.t 27), none⟩,
      ⟨some 29, .mov (.t 0), some (28, true)⟩,
      ⟨some 30, .mov (.t 3), some (28, true)⟩,
      ⟨some 31, .iaddr 7 [.int .i64, .int .i64, .int .i64, .int .i64, .int .i64, .int .i64, .str] (.t 29) (.t 30), some (28, true)⟩,
      ⟨some 32, .faddr 0 (.t 31), some (28, true)⟩,
      ⟨some 33, .load false 1 [.int .i64] (.t 32), some (28, true)⟩,
      ⟨some 34, .mov (.t 0), some (28, true)⟩,
      ⟨some 35, .mov (.t 3), some (28, true)⟩,
      ⟨some 36, .bin .sub (.t 35) (.c (.int .i64 1)), some (28, true)⟩,
      ⟨some 37, .iaddr 7 [.int .i64, .int .i64, .int .i64, .int .i64, .int .i64, .int .i64, .str] (.t 34) (.t 36), some (28, true)⟩,
      ⟨some 38, .faddr 0 (.t 37), some (28, true)⟩,
      ⟨some 39, .load false 1 [.int .i64] (.t 38), some (28, true)⟩,
      ⟨some 40, .bin .leq (.t 33) (.t 39), some (28, true)⟩,
      ⟨some 41, .pick (.t 28) (.t 40) (.c (.bool false)), none⟩] (some [[], [0], [1, 0], [2, 1, 0], [2, 1, 0], [3, 4, 2, 1, 0], [5, 3, 4, 2, 1, 0], [6, 5, 3, 4, 2, 1, 0], [2, 1, 0], [2, 1, 0], [9, 2, 1, 0], [8, 10, 9, 2, 1, 0], [11, 8, 10, 9, 2, 1, 0], [12, 11, 8, 10, 9, 2, 1, 0], [7, 6, 5, 3, 4, 13, 12, 11, 8, 10, 9, 2, 1, 0], [14, 7, 6, 5, 3, 4, 13, 12, 11, 8, 10, 9, 2, 1, 0]])) (
    .cond (.t 41) (
     .seq (
     .region [⟨some 2, .mov (.c (.int .i64 10)), none⟩] none) (
     .ret)) (
     .skip)))))) (
   .region [⟨some 11, .mov (.t 3), none⟩,
     ⟨some 12, .bin .add (.t 11) (.c (.int .i64 1)), none⟩,
     ⟨some 3, .mov (.t 12), none⟩] none)))))) (
 .seq (
 .region [⟨some 2, .mov (.c (.int .i64 0)), none⟩] none) (
 .ret))))⟩
def K11 : List (List Nat) := [[1001100, 0, 3]]
def Hn11 : List (Nat × Nat) := []

/-- corebank/corebanklaw23.live -/
def F12 : Fun := ⟨0, 79, [(0, none)],
 .seq (
 .region [⟨some 0, .mov (.c (.bool false)), none⟩] none) (
 .seq (
 .region [⟨some 9, .build [.int .i64 0, .int .i64 0, .int .i64 0, .int .i64 0, .int .i64 0, .int .i64 0, .str []] [(0, 1, (.c (.int .i64 1))), (1, 1, (.c (.int .i64 1000))), (2, 1, (.c (.int .i64 2))), (4, 1, (.c (.int .i64 10))), (5, 1, (.c (.int .i64 20))), (6, 1, (.c (.str [99, 111, 117, 114, 116])))], none⟩,
   ⟨some 1, .alloc (.agg [.int .i64 0, .int .i64 0, .int .i64 0, .int .i64 0, .int .i64 0, .int .i64 0, .str []]), none⟩,
   ⟨none, .store 7 (.t 1) (.t 9), none⟩] none) (
 .seq (
 .region [⟨some 11, .load true 7 [.int .i64, .int .i64, .int .i64, .int .i64, .int .i64, .int .i64, .str] (.t 1), none⟩,
   ⟨some 12, .call 13 [.c (.nils 7), .t 11], none⟩,
   ⟨some 10, .mov (.t 12), none⟩,
   ⟨some 13, .ext (.t 10) 0, none⟩,
   ⟨some 14, .ext (.t 10) 1, none⟩,
   ⟨some 2, .mov (.t 13), none⟩,
   ⟨some 3, .mov (.t 14), none⟩] none) (
 .seq (
 .region [⟨some 16, .mov (.t 2), none⟩,
   ⟨some 17, .call 16 [.t 16, .c (.int .i64 1), .c (.int .i64 15)], none⟩,
   ⟨some 15, .mov (.t 17), none⟩,
   ⟨some 18, .ext (.t 15) 0, none⟩,
   ⟨some 19, .ext (.t 15) 1, none⟩,
   ⟨some 4, .mov (.t 18), none⟩,
   ⟨some 5, .mov (.t 19), none⟩] none) (
 .seq (
 .region [⟨some 21, .mov (.t 2), none⟩,
   ⟨some 22, .call 16 [.t 21, .c (.int .i64 1), .c (.int .i64 21)], none⟩,
   ⟨some 20, .mov (.t 22), none⟩,
   ⟨some 23, .ext (.t 20) 0, none⟩,
   ⟨some 24, .ext (.t 20) 1, none⟩,
   ⟨some 6, .mov (.t 23), none⟩,
   ⟨some 7, .mov (.t 24), none⟩] none) (
 .seq (
 .region [⟨some 25, .build [.int .i64 0, .int .i64 0, .int .i64 0, .int .i64 0, .int .i64 0, .int .i64 0, .str []] [(0, 1, (.c (.int .i64 1))), (1, 1, (.c (.int .i64 1000))), (2, 1, (.c (.int .i64 4))), (3, 1, (.c (.int .i64 30))), (5, 1, (.c (.int .i64 9))), (6, 1, (.c (.str [97])))], none⟩,
   ⟨some 26, .build [.int .i64 0, .int .i64 0, .int .i64 0, .int .i64 0, .int .i64 0, .int .i64 0, .str []] [(0, 1, (.c (.int .i64 2))), (1, 1, (.c (.int .i64 1000))), (2, 1, (.c (.int .i64 4))), (3, 1, (.c (.int .i64 40))), (5, 1, (.c (.int .i64 9))), (6, 1, (.c (.str [97])))], none⟩,
   ⟨some 27, .bslice 7 (.agg [.int .i64 0, .int .i64 0, .int .i64 0, .int .i64 0, .int .i64 0, .int .i64 0, .str []]) 2 [(0, (.t 25)), (1, (.t 26))], none⟩,
   ⟨some 8, .mov (.t 27), none⟩] none) (
 .seq (
 .region [⟨some 28, .mov (.t 3), none⟩,
   ⟨some 29, .bin .eql (.t 28) (.c (.int .i64 0)), none⟩,
   ⟨some 30, .mov (.t 29), none⟩,
   ⟨some 31, .mov (.t 2), some (30, true)⟩,
   ⟨some 32, .len .l (.t 31), some (30, true)⟩,
   ⟨some 33, .bin .eql (.t 32) (.c (.int .i64 1)), some (30, true)⟩,
   ⟨some 34, .pick (.t 30) (.t 33) (.c (.bool false)), none⟩,
   ⟨some 35, .mov (.t 34), none⟩,
   ⟨some 36, .mov (.t 5), some (35, true)⟩,
   ⟨some 37, .bin .eql (.t 36) (.c (.int .i64 0)), some (35, true)⟩,
   ⟨some 38, .pick (.t 35) (.t 37) (.c (.bool false)), none⟩,
   ⟨some 39, .mov (.t 38), none⟩,
   ⟨some 40, .mov (.t 4), some (39, true)⟩,
   ⟨some 41, .len .l (.t 40), some (39, true)⟩,
   ⟨some 42, .bin .eql (.t 41) (.c (.int .i64 1)), some (39, true)⟩,
   ⟨some 43, .pick (.t 39) (.t 42) (.c (.bool false)), none⟩,
   ⟨some 44, .mov (.t 43), none⟩,
   ⟨some 45, .mov (.t 4), some (44, true)⟩,
   ⟨some 46, .iaddr 7 [.int .i64, .int .i64, .int .i64, .int .i64, .int .i64, .int .i64, .str] (.t 45) (.c (.int .i64 0)), some (44, true)⟩,
   ⟨some 47, .faddr 5 (.t 46), some (44, true)⟩,
   ⟨some 48, .load false 1 [.int .i64] (.t 47), some (44, true)⟩,
   ⟨some 49, .bin .eql (.t 48) (.c (.int .i64 14)), some (44, true)⟩,
   ⟨some 50, .pick (.t 44) (.t 49) (.c (.bool false)), none⟩,
   ⟨some 51, .mov (.t 50), none⟩,
   ⟨some 52, .mov (.t 7), some (51, true)⟩,
   ⟨some 53, .bin .eql (.t 52) (.c (.int .i64 23)), some (51, true)⟩,
   ⟨some 54, .pick (.t 51) (.t 53) (.c (.bool false)), none⟩,
   ⟨some 55, .mov (.t 54), none⟩,
   ⟨some 56, .mov (.t 2), some (55, true)⟩,
   ⟨some 57, .call 20 [.t 56, .c (.int .i64 1000), .c (.int .i64 20), .c (.int .i64 5)], some (55, true)⟩,
   ⟨some 58, .pick (.t 55) (.t 57) (.c (.bool false)), none⟩,
   ⟨some 59, .mov (.t 58), none⟩,
   ⟨some 60, .mov (.t 2), some (59, true)⟩,
   ⟨some 61, .call 20 [.t 60, .c (.int .i64 1000), .c (.int .i64 21), .c (.int .i64 5)], some (59, true)⟩,
   ⟨some 62, .un .not (.t 61), some (59, true)⟩,
   ⟨some 63, .pick (.t 59) (.t 62) (.c (.bool false)), none⟩,
   ⟨some 64, .mov (.t 63), none⟩,
   ⟨some 65, .mov (.t 2), some (64, true)⟩,
   ⟨some 66, .call 20 [.t 65, .c (.int .i64 1000), .c (.int .i64 10), .c (.int .i64 (-5))], some (64, true)⟩,
   ⟨some 67, .un .not (.t 66), some (64, true)⟩,
   ⟨some 68, .pick (.t 64) (.t 67) (.c (.bool false)), none⟩,
   ⟨some 69, .mov (.t 68), none⟩,
   ⟨some 70, .mov (.t 8), some (69, true)⟩,
   ⟨some 71, .call 22 [.t 70, .c (.int .i64 1000), .c (.int .i64 9)], some (69, true)⟩,
   ⟨some 72, .bin .eql (.t 71) (.c (.int .i64 70)), some (69, true)⟩,
   ⟨some 73, .pick (.t 69) (.t 72) (.c (.bool false)), none⟩,
   ⟨some 74, .mov (.t 73), none⟩,
   ⟨some 75, .mov (.t 8), some (74, true)⟩,
   ⟨some 76, .call 10 [.t 75], some (74, true)⟩,
   ⟨some 77, .bin .eql (.t 76) (.c (.int .i64 0)), some (74, true)⟩,
   ⟨some 78, .pick (.t 74) (.t 77) (.c (.bool false)), none⟩,
   ⟨some 0, .mov (.t 78), none⟩] none) (
 .ret)))))))⟩
def K12 : List (List Nat) := []
def Hn12 : List (Nat × Nat) := []

/-- corebank/blocking.Place -/
def F13 : Fun := ⟨2, 41, [(4, none), (5, none)],
 .seq (
 .region [⟨some 3, .box 7 (.t 1), none⟩,
   ⟨some 4, .mov (.c (.nils 7)), none⟩,
   ⟨some 5, .mov (.c (.int .i64 0)), none⟩] none) (
 .seq (
 .block 0 (
  .seq (
  .region [⟨some 7, .mov (.t 0), none⟩,
    ⟨some 8, .call 10 [.t 7], none⟩,
    ⟨some 9, .bin .neq (.t 8) (.c (.int .i64 0)), none⟩,
    ⟨some 10, .mov (.t 9), none⟩,
    ⟨some 11, .load true 7 [.int .i64, .int .i64, .int .i64, .int .i64, .int .i64, .int .i64, .str] (.t 3), some (10, false)⟩,
    ⟨some 12, .bslice 7 (.agg [.int .i64 0, .int .i64 0, .int .i64 0, .int .i64 0, .int .i64 0, .int .i64 0, .str []]) 1 [(0, (.t 11))], some (10, false)⟩,
    ⟨some 13, .call 10 [.t 12], some (10, false)⟩,
    ⟨some 14, .bin .neq (.t 13) (.c (.int .i64 0)), some (10, false)⟩,
    ⟨some 15, .pick (.t 10) (.c (.bool true)) (.t 14), none⟩,
    ⟨some 6, .mov (.t 15), none⟩] none) (
  .cond (.t 6) (
   .seq (
   .region [⟨some 4, .mov (.c (.nils 7)), none⟩,
     ⟨some 5, .mov (.c (.int .i64 1)), none⟩] none) (
   .ret)) (
   .seq (
   .region [⟨some 17, .mov (.t 0), none⟩,
     ⟨some 18, .len .l (.t 17), none⟩,
     ⟨some 19, .bin .gtr (.t 18) (.c (.int .i64 0)), none⟩,
     ⟨some 20, .mov (.t 19), none⟩,
     ⟨some 21, .faddr 0 (.t 3), some (20, true)⟩,
     ⟨some 22, .load false 1 [.int .i64] (.t 21), some (20, true)⟩,
     ⟨some 23, .mov (.t 0), some (20, true)⟩,
     ⟨some 24, .mov (.t 0), some (20, true)⟩,
     ⟨some 25, .len .l (.t 24), some (20, true)⟩,
     ⟨some 26, .bin .sub (.t 25) (.c (.int .i64 1)), some (20, true)⟩,
     ⟨some 27, .iaddr 7 [.int .i64, .int .i64, .int .i64, .int .i64, .int .i64, .int .i64, .str] (.t 23) (.t 26), some (20, true)⟩,
     ⟨some 28, .faddr 0 (.t 27), some (20, true)⟩,
     ⟨some 29, .load false 1 [.int .i64] (.t 28), some (20, true)⟩,
     ⟨some 30, .bin .leq (.t 22) (.t 29), some (20, true)⟩,
     ⟨some 31, .pick (.t 20) (.t 30) (.c (.bool false)), none⟩,
     ⟨some 16, .mov (.t 31), none⟩] (some [[], [0], [1, 0], [2, 1, 0], [3, 2, 1, 0], [4, 3, 2, 1, 0], [3, 2, 1, 0], [3, 2, 1, 0], [7, 3, 2, 1, 0], [8, 7, 3, 2, 1, 0], [6, 9, 8, 7, 3, 2, 1, 0], [10, 6, 9, 8, 7, 3, 2, 1, 0], [11, 10, 6, 9, 8, 7, 3, 2, 1, 0], [5, 4, 12, 11, 10, 6, 9, 8, 7, 3, 2, 1, 0], [13, 5, 4, 12, 11, 10, 6, 9, 8, 7, 3, 2, 1, 0], [14, 13, 5, 4, 12, 11, 10, 6, 9, 8, 7, 3, 2, 1, 0]])) (
   .cond (.t 16) (
    .seq (
    .region [⟨some 4, .mov (.c (.nils 7)), none⟩,
      ⟨some 5, .mov (.c (.int .i64 10)), none⟩] none) (
    .ret)) (
    .seq (
    .region [⟨some 33, .mov (.t 0), none⟩,
      ⟨some 34, .len .l (.t 33), none⟩,
      ⟨some 35, .bin .eql (.t 34) (.c (.int .i64 64)), none⟩,
      ⟨some 32, .mov (.t 35), none⟩] none) (
    .cond (.t 32) (
     .seq (
     .region [⟨some 4, .mov (.c (.nils 7)), none⟩,
       ⟨some 5, .mov (.c (.int .i64 5)), none⟩] none) (
     .ret)) (
     .skip)))))))) (
 .seq (
 .region [⟨some 36, .mov (.t 0), none⟩,
   ⟨some 37, .call 29 [.t 36], none⟩,
   ⟨some 38, .load true 7 [.int .i64, .int .i64, .int .i64, .int .i64, .int .i64, .int .i64, .str] (.t 3), none⟩,
   ⟨some 39, .bslice 7 (.agg [.int .i64 0, .int .i64 0, .int .i64 0, .int .i64 0, .int .i64 0, .int .i64 0, .str []]) 1 [(0, (.t 38))], none⟩,
   ⟨some 40, .app 7 64 (.t 37) (.t 39), none⟩,
   ⟨some 4, .mov (.t 40), none⟩,
   ⟨some 5, .mov (.c (.int .i64 0)), none⟩] (some [[], [0], [], [2], [3, 2, 1, 0], [4, 3, 2, 1, 0], [5, 4, 3, 2, 1, 0]])) (
 .ret)))⟩
def K13 : List (List Nat) := []
def Hn13 : List (Nat × Nat) := [(4, 7)]

/-- corebank/corebankref23.Place -/
def F14 : Fun := ⟨2, 39, [(4, none), (5, none)],
 .seq (
 .region [⟨some 3, .box 7 (.t 1), none⟩,
   ⟨some 4, .mov (.c (.nils 7)), none⟩,
   ⟨some 5, .mov (.c (.int .i64 0)), none⟩] none) (
 .seq (
 .seq (
 .region [⟨some 6, .mov (.t 0), none⟩,
   ⟨some 7, .call 11 [.t 6], none⟩,
   ⟨some 8, .bin .neq (.t 7) (.c (.int .i64 0)), none⟩,
   ⟨some 9, .mov (.t 8), none⟩,
   ⟨some 10, .load true 7 [.int .i64, .int .i64, .int .i64, .int .i64, .int .i64, .int .i64, .str] (.t 3), some (9, false)⟩,
   ⟨some 11, .bslice 7 (.agg [.int .i64 0, .int .i64 0, .int .i64 0, .int .i64 0, .int .i64 0, .int .i64 0, .str []]) 1 [(0, (.t 10))], some (9, false)⟩,
   ⟨some 12, .call 11 [.t 11], some (9, false)⟩,
   ⟨some 13, .bin .neq (.t 12) (.c (.int .i64 0)), some (9, false)⟩,
   ⟨some 14, .pick (.t 9) (.c (.bool true)) (.t 13), none⟩] none) (
 .cond (.t 14) (
  .seq (
  .region [⟨some 4, .mov (.c (.nils 7)), none⟩,
    ⟨some 5, .mov (.c (.int .i64 1)), none⟩] none) (
  .ret)) (
  .skip))) (
 .seq (
 .seq (
 .region [⟨some 15, .mov (.t 0), none⟩,
   ⟨some 16, .len .l (.t 15), none⟩,
   ⟨some 17, .bin .gtr (.t 16) (.c (.int .i64 0)), none⟩,
   ⟨some 18, .mov (.t 17), none⟩,
   ⟨some 19, .faddr 0 (.t 3), some (18, true)⟩,
   ⟨some 20, .load false 1 [.int .i64] (.t 19), some (18, true)⟩,
   ⟨some 21, .mov (.t 0), some (18, true)⟩,
   ⟨some 22, .mov (.t 0), some (18, true)⟩,
   ⟨some 23, .len .l (.t 22), some (18, true)⟩,
   ⟨some 24, .bin .sub (.t 23) (.c (.int .i64 1)), some (18, true)⟩,
   ⟨some 25, .iaddr 7 [.int .i64, .int .i64, .int .i64, .int .i64, .int .i64, .int .i64, .str] (.t 21) (.t 24), some (18, true)⟩,
   ⟨some 26, .faddr 0 (.t 25), some (18, true)⟩,
   ⟨some 27, .load false 1 [.int .i64] (.t 26), some (18, true)⟩,
   ⟨some 28, .bin .leq (.t 20) (.t 27), some (18, true)⟩,
   ⟨some 29, .pick (.t 18) (.t 28) (.c (.bool false)), none⟩] (some [[], [0], [1, 0], [2, 1, 0], [3, 2, 1, 0], [4, 3, 2, 1, 0], [3, 2, 1, 0], [3, 2, 1, 0], [7, 3, 2, 1, 0], [8, 7, 3, 2, 1, 0], [6, 9, 8, 7, 3, 2, 1, 0], [10, 6, 9, 8, 7, 3, 2, 1, 0], [11, 10, 6, 9, 8, 7, 3, 2, 1, 0], [5, 4, 12, 11, 10, 6, 9, 8, 7, 3, 2, 1, 0], [13, 5, 4, 12, 11, 10, 6, 9, 8, 7, 3, 2, 1, 0]])) (
 .cond (.t 29) (
  .seq (
  .region [⟨some 4, .mov (.c (.nils 7)), none⟩,
    ⟨some 5, .mov (.c (.int .i64 10)), none⟩] none) (
  .ret)) (
  .skip))) (
 .seq (
 .seq (
 .region [⟨some 30, .mov (.t 0), none⟩,
   ⟨some 31, .len .l (.t 30), none⟩,
   ⟨some 32, .bin .geq (.t 31) (.c (.int .i64 64)), none⟩] none) (
 .cond (.t 32) (
  .seq (
  .region [⟨some 4, .mov (.c (.nils 7)), none⟩,
    ⟨some 5, .mov (.c (.int .i64 5)), none⟩] none) (
  .ret)) (
  .skip))) (
 .seq (
 .region [⟨some 33, .bslice 7 (.agg [.int .i64 0, .int .i64 0, .int .i64 0, .int .i64 0, .int .i64 0, .int .i64 0, .str []]) 0 [], none⟩,
   ⟨some 34, .mov (.t 0), none⟩,
   ⟨some 35, .app 7 64 (.t 33) (.t 34), none⟩,
   ⟨some 36, .load true 7 [.int .i64, .int .i64, .int .i64, .int .i64, .int .i64, .int .i64, .str] (.t 3), none⟩,
   ⟨some 37, .bslice 7 (.agg [.int .i64 0, .int .i64 0, .int .i64 0, .int .i64 0, .int .i64 0, .int .i64 0, .str []]) 1 [(0, (.t 36))], none⟩,
   ⟨some 38, .app 7 64 (.t 35) (.t 37), none⟩,
   ⟨some 4, .mov (.t 38), none⟩,
   ⟨some 5, .mov (.c (.int .i64 0)), none⟩] (some [[], [], [0, 1], [], [3], [4, 3, 2, 0, 1], [5, 4, 3, 2, 0, 1], [6, 5, 4, 3, 2, 0, 1]])) (
 .ret)))))⟩
def K14 : List (List Nat) := []
def Hn14 : List (Nat × Nat) := [(4, 7)]

/-- corebank/corebankref23.SameAll -/
def F15 : Fun := ⟨2, 26, [(4, none)],
 .seq (
 .region [⟨some 4, .mov (.c (.bool false)), none⟩] none) (
 .seq (
 .seq (
 .region [⟨some 6, .mov (.t 0), none⟩,
   ⟨some 7, .len .l (.t 6), none⟩,
   ⟨some 8, .mov (.t 1), none⟩,
   ⟨some 9, .len .l (.t 8), none⟩,
   ⟨some 10, .bin .neq (.t 7) (.t 9), none⟩] none) (
 .cond (.t 10) (
  .seq (
  .region [⟨some 4, .mov (.c (.bool false)), none⟩] none) (
  .ret)) (
  .skip))) (
 .seq (
 .seq (
 .region [⟨some 5, .mov (.c (.int .i64 0)), none⟩] none) (
 .block 0 (
  .loop [1001500, 0, 1, 5] (
   .seq (
   .seq (
   .region [⟨some 11, .mov (.t 5), none⟩,
     ⟨some 12, .mov (.t 0), none⟩,
     ⟨some 13, .len .l (.t 12), none⟩,
     ⟨some 14, .bin .lss (.t 11) (.t 13), none⟩] none) (
   .cond (.t 14) (
    .skip) (
    .exit 0))) (
   .seq (
   .block 1 (
    .seq (
    .region [⟨some 17, .mov (.t 0), none⟩,
      ⟨some 18, .mov (.t 5), none⟩,
      ⟨some 19, .iaddr 7 [.int .i64, .int .i64, .int .i64, .int .i64, .int .i64, .int .i64, .str] (.t 17) (.t 18), none⟩,
      ⟨some 20, .load true 7 [.int .i64, .int .i64, .int .i64, .int .i64, .int .i64, .int .i64, .str] (.t 19), none⟩,
      ⟨some 21, .mov (.t 1), none⟩,
      ⟨some 22, .mov (.t 5), none⟩,
      ⟨some 23, .iaddr 7 [.int .i64, .int .i64, .int .i64, .int .i64, .int .i64, .int .i64, .str] (.t 21) (.t 22), none⟩,
      ⟨some 24, .load true 7 [.int .i64, .int .i64, .int .i64, .int .i64, .int .i64, .int .i64, .str] (.t 23), none⟩,
      ⟨some 25, .eqs (true, [.i, .i, .i, .i, .i, .i, .s]) true (.t 20) (.t 24), none⟩] (some [[], [], [0, 1], [2, 0, 1], [], [], [4, 5], [6, 4, 5], [3, 2, 0, 1, 7, 6, 4, 5]])) (
    .cond (.t 25) (
     .seq (
     .region [⟨some 4, .mov (.c (.bool false)), none⟩] none) (
     .ret)) (
     .skip)))) (
   .region [⟨some 15, .mov (.t 5), none⟩,
     ⟨some 16, .bin .add (.t 15) (.c (.int .i64 1)), none⟩,
     ⟨some 5, .mov (.t 16), none⟩] none)))))) (
 .seq (
 .region [⟨some 4, .mov (.c (.bool true)), none⟩] none) (
 .ret))))⟩
def K15 : List (List Nat) := [[1001500, 0, 1, 5]]
def Hn15 : List (Nat × Nat) := []

/-- corebank/blocking.Lift -/
def F16 : Fun := ⟨3, 53, [(6, none), (7, none)],
 .seq (
 .region [⟨some 4, .box 1 (.t 1), none⟩,
   ⟨some 6, .mov (.c (.nils 7)), none⟩,
   ⟨some 7, .mov (.c (.int .i64 0)), none⟩] none) (
 .seq (
 .region [⟨some 10, .mov (.t 0), none⟩,
   ⟨some 11, .mkf 31 [.t 4], none⟩,
   ⟨some 12, .call 30 [.t 10, .t 11], none⟩,
   ⟨some 8, .mov (.t 12), none⟩] none) (
 .seq (
 .block 0 (
  .seq (
  .region [⟨some 14, .mov (.t 8), none⟩,
    ⟨some 15, .bin .lss (.t 14) (.c (.int .i64 0)), none⟩,
    ⟨some 13, .mov (.t 15), none⟩] none) (
  .cond (.t 13) (
   .seq (
   .region [⟨some 6, .mov (.c (.nils 7)), none⟩,
     ⟨some 7, .mov (.c (.int .i64 11)), none⟩] none) (
   .ret)) (
   .seq (
   .region [⟨some 17, .mov (.t 2), none⟩,
     ⟨some 18, .call 32 [.t 17], none⟩,
     ⟨some 19, .un .not (.t 18), none⟩,
     ⟨some 16, .mov (.t 19), none⟩] none) (
   .cond (.t 16) (
    .seq (
    .region [⟨some 6, .mov (.c (.nils 7)), none⟩,
      ⟨some 7, .mov (.c (.int .i64 1)), none⟩] none) (
    .ret)) (
    .seq (
    .region [⟨some 21, .mov (.t 0), none⟩,
      ⟨some 22, .mov (.t 8), none⟩,
      ⟨some 23, .iaddr 7 [.int .i64, .int .i64, .int .i64, .int .i64, .int .i64, .int .i64, .str] (.t 21) (.t 22), none⟩,
      ⟨some 24, .faddr 5 (.t 23), none⟩,
      ⟨some 25, .load false 1 [.int .i64] (.t 24), none⟩,
      ⟨some 26, .mov (.t 2), none⟩,
      ⟨some 27, .bin .lss (.t 25) (.t 26), none⟩,
      ⟨some 20, .mov (.t 27), none⟩] none) (
    .cond (.t 20) (
     .seq (
     .region [⟨some 6, .mov (.c (.nils 7)), none⟩,
       ⟨some 7, .mov (.c (.int .i64 23)), none⟩] none) (
     .ret)) (
     .skip)))))))) (
 .seq (
 .region [⟨some 28, .mov (.t 0), none⟩,
   ⟨some 29, .call 29 [.t 28], none⟩,
   ⟨some 9, .mov (.t 29), none⟩] none) (
 .seq (
 .region [⟨some 30, .mov (.t 9), none⟩,
   ⟨some 31, .mov (.t 8), none⟩,
   ⟨some 32, .mov (.t 2), none⟩,
   ⟨some 33, .bin .sub (.t 32) (.c (.int .i64 1)), none⟩,
   ⟨some 34, .iaddr 7 [.int .i64, .int .i64, .int .i64, .int .i64, .int .i64, .int .i64, .str] (.t 30) (.t 31), none⟩,
   ⟨some 35, .faddr 5 (.t 34), none⟩,
   ⟨none, .store 1 (.t 35) (.t 33), none⟩] none) (
 .seq (
 .seq (
 .region [⟨some 36, .mov (.t 9), none⟩,
   ⟨some 37, .mov (.t 8), none⟩,
   ⟨some 38, .iaddr 7 [.int .i64, .int .i64, .int .i64, .int .i64, .int .i64, .int .i64, .str] (.t 36) (.t 37), none⟩,
   ⟨some 39, .faddr 4 (.t 38), none⟩,
   ⟨some 40, .load false 1 [.int .i64] (.t 39), none⟩,
   ⟨some 41, .mov (.t 9), none⟩,
   ⟨some 42, .mov (.t 8), none⟩,
   ⟨some 43, .iaddr 7 [.int .i64, .int .i64, .int .i64, .int .i64, .int .i64, .int .i64, .str] (.t 41) (.t 42), none⟩,
   ⟨some 44, .faddr 5 (.t 43), none⟩,
   ⟨some 45, .load false 1 [.int .i64] (.t 44), none⟩,
   ⟨some 46, .bin .gtr (.t 40) (.t 45), none⟩] (some [[], [], [0, 1], [2, 0, 1], [3, 2, 0, 1], [], [], [5, 6], [7, 5, 6], [8, 7, 5, 6], [4, 3, 2, 0, 1, 9, 8, 7, 5, 6]])) (
 .cond (.t 46) (
  .region [⟨some 47, .mov (.t 9), none⟩,
    ⟨some 48, .mov (.t 8), none⟩,
    ⟨some 49, .mov (.t 8), none⟩,
    ⟨some 50, .bin .add (.t 49) (.c (.int .i64 1)), none⟩,
    ⟨some 51, .call 33 [.t 47, .t 48, .t 50], none⟩,
    ⟨some 9, .mov (.t 51), none⟩] none) (
  .skip))) (
 .seq (
 .region [⟨some 52, .mov (.t 9), none⟩,
   ⟨some 6, .mov (.t 52), none⟩,
   ⟨some 7, .mov (.c (.int .i64 0)), none⟩] none) (
 .ret)))))))⟩
def K16 : List (List Nat) := []
def Hn16 : List (Nat × Nat) := [(6, 7)]

/-- corebank/corebankref23.Lift -/
def F17 : Fun := ⟨3, 72, [(6, none), (7, none)],
 .seq (
 .region [⟨some 6, .mov (.c (.nils 7)), none⟩,
   ⟨some 7, .mov (.c (.int .i64 0)), none⟩] none) (
 .seq (
 .region [⟨some 8, .mov (.c (.int .i64 (-1))), none⟩] none) (
 .seq (
 .seq (
 .region [⟨some 13, .mov (.t 0), none⟩,
   ⟨some 14, .len .l (.t 13), none⟩,
   ⟨some 15, .bin .sub (.t 14) (.c (.int .i64 1)), none⟩,
   ⟨some 9, .mov (.t 15), none⟩] none) (
 .block 0 (
  .loop [1001700, 0, 1, 2, 8, 9] (
   .seq (
   .seq (
   .region [⟨some 16, .mov (.t 9), none⟩,
     ⟨some 17, .bin .geq (.t 16) (.c (.int .i64 0)), none⟩] none) (
   .cond (.t 17) (
    .skip) (
    .exit 0))) (
   .seq (
   .block 1 (
    .seq (
    .region [⟨some 20, .mov (.t 0), none⟩,
      ⟨some 21, .mov (.t 9), none⟩,
      ⟨some 22, .iaddr 7 [.int .i64, .int .i64, .int .i64, .int .i64, .int .i64, .int .i64, .str] (.t 20) (.t 21), none⟩,
      ⟨some 23, .faddr 0 (.t 22), none⟩,
      ⟨some 24, .load false 1 [.int .i64] (.t 23), none⟩,
      ⟨some 25, .mov (.t 1), none⟩,
      ⟨some 26, .bin .eql (.t 24) (.t 25), none⟩] none) (
    .cond (.t 26) (
     .region [⟨some 27, .mov (.t 9), none⟩,
       ⟨some 8, .mov (.t 27), none⟩] none) (
     .skip)))) (
   .region [⟨some 18, .mov (.t 9), none⟩,
     ⟨some 19, .bin .sub (.t 18) (.c (.int .i64 1)), none⟩,
     ⟨some 9, .mov (.t 19), none⟩] none)))))) (
 .seq (
 .seq (
 .region [⟨some 28, .mov (.t 8), none⟩,
   ⟨some 29, .bin .lss (.t 28) (.c (.int .i64 0)), none⟩] none) (
 .cond (.t 29) (
  .seq (
  .region [⟨some 6, .mov (.c (.nils 7)), none⟩,
    ⟨some 7, .mov (.c (.int .i64 11)), none⟩] none) (
  .ret)) (
  .skip))) (
 .seq (
 .seq (
 .region [⟨some 30, .mov (.t 2), none⟩,
   ⟨some 31, .call 24 [.t 30], none⟩,
   ⟨some 32, .un .not (.t 31), none⟩] none) (
 .cond (.t 32) (
  .seq (
  .region [⟨some 6, .mov (.c (.nils 7)), none⟩,
    ⟨some 7, .mov (.c (.int .i64 1)), none⟩] none) (
  .ret)) (
  .skip))) (
 .seq (
 .seq (
 .region [⟨some 33, .mov (.t 0), none⟩,
   ⟨some 34, .mov (.t 8), none⟩,
   ⟨some 35, .iaddr 7 [.int .i64, .int .i64, .int .i64, .int .i64, .int .i64, .int .i64, .str] (.t 33) (.t 34), none⟩,
   ⟨some 36, .faddr 5 (.t 35), none⟩,
   ⟨some 37, .load false 1 [.int .i64] (.t 36), none⟩,
   ⟨some 38, .mov (.t 2), none⟩,
   ⟨some 39, .bin .lss (.t 37) (.t 38), none⟩] none) (
 .cond (.t 39) (
  .seq (
  .region [⟨some 6, .mov (.c (.nils 7)), none⟩,
    ⟨some 7, .mov (.c (.int .i64 23)), none⟩] none) (
  .ret)) (
  .skip))) (
 .seq (
 .region [⟨some 40, .bslice 7 (.agg [.int .i64 0, .int .i64 0, .int .i64 0, .int .i64 0, .int .i64 0, .int .i64 0, .str []]) 0 [], none⟩,
   ⟨some 10, .mov (.t 40), none⟩] none) (
 .seq (
 .seq (
 .region [⟨some 11, .mov (.c (.int .i64 0)), none⟩] none) (
 .block 2 (
  .loop [1001701, 0, 2, 8, 10, 11] (
   .seq (
   .seq (
   .region [⟨some 41, .mov (.t 11), none⟩,
     ⟨some 42, .mov (.t 0), none⟩,
     ⟨some 43, .len .l (.t 42), none⟩,
     ⟨some 44, .bin .lss (.t 41) (.t 43), none⟩] none) (
   .cond (.t 44) (
    .skip) (
    .exit 2))) (
   .seq (
   .block 3 (
    .seq (
    .region [⟨some 47, .mov (.t 0), none⟩,
      ⟨some 48, .mov (.t 11), none⟩,
      ⟨some 49, .iaddr 7 [.int .i64, .int .i64, .int .i64, .int .i64, .int .i64, .int .i64, .str] (.t 47) (.t 48), none⟩,
      ⟨some 50, .load true 7 [.int .i64, .int .i64, .int .i64, .int .i64, .int .i64, .int .i64, .str] (.t 49), none⟩,
      ⟨some 12, .alloc (.agg [.int .i64 0, .int .i64 0, .int .i64 0, .int .i64 0, .int .i64 0, .int .i64 0, .str []]), none⟩,
      ⟨none, .store 7 (.t 12) (.t 50), none⟩] none) (
    .seq (
    .seq (
    .region [⟨some 51, .mov (.t 11), none⟩,
      ⟨some 52, .mov (.t 8), none⟩,
      ⟨some 53, .bin .eql (.t 51) (.t 52), none⟩] none) (
    .cond (.t 53) (
     .region [⟨some 54, .mov (.t 2), none⟩,
       ⟨some 55, .bin .sub (.t 54) (.c (.int .i64 1)), none⟩,
       ⟨some 56, .faddr 5 (.t 12), none⟩,
       ⟨none, .store 1 (.t 56) (.t 55), none⟩] none) (
     .skip))) (
    .seq (
    .region [⟨some 57, .mov (.t 11), none⟩,
      ⟨some 58, .mov (.t 8), none⟩,
      ⟨some 59, .bin .neq (.t 57) (.t 58), none⟩,
      ⟨some 60, .mov (.t 59), none⟩,
      ⟨some 61, .faddr 4 (.t 12), some (60, false)⟩,
      ⟨some 62, .load false 1 [.int .i64] (.t 61), some (60, false)⟩,
      ⟨some 63, .faddr 5 (.t 12), some (60, false)⟩,
      ⟨some 64, .load false 1 [.int .i64] (.t 63), some (60, false)⟩,
      ⟨some 65, .bin .leq (.t 62) (.t 64), some (60, false)⟩,
      ⟨some 66, .pick (.t 60) (.c (.bool true)) (.t 65), none⟩] none) (
    .cond (.t 66) (
     .region [⟨some 67, .mov (.t 10), none⟩,
       ⟨some 68, .load true 7 [.int .i64, .int .i64, .int .i64, .int .i64, .int .i64, .int .i64, .str] (.t 12), none⟩,
       ⟨some 69, .bslice 7 (.agg [.int .i64 0, .int .i64 0, .int .i64 0, .int .i64 0, .int .i64 0, .int .i64 0, .str []]) 1 [(0, (.t 68))], none⟩,
       ⟨some 70, .app 7 64 (.t 67) (.t 69), none⟩,
       ⟨some 10, .mov (.t 70), none⟩] none) (
     .skip)))))) (
   .region [⟨some 45, .mov (.t 11), none⟩,
     ⟨some 46, .bin .add (.t 45) (.c (.int .i64 1)), none⟩,
     ⟨some 11, .mov (.t 46), none⟩] none)))))) (
 .seq (
 .region [⟨some 71, .mov (.t 10), none⟩,
   ⟨some 6, .mov (.t 71), none⟩,
   ⟨some 7, .mov (.c (.int .i64 0)), none⟩] none) (
 .ret)))))))))⟩
def K17 : List (List Nat) := [[1001700, 0, 1, 2, 8, 9], [1001701, 0, 2, 8, 10, 11]]
def Hn17 : List (Nat × Nat) := [(6, 7)]

/-- corebank/blocking.Active -/
def F18 : Fun := ⟨3, 38, [(6, none)],
 .seq (
 .region [⟨some 6, .mov (.c (.nils 7)), none⟩] none) (
 .seq (
 .region [⟨some 7, .mov (.c (.nils 7)), none⟩] none) (
 .seq (
 .seq (
 .region [⟨some 10, .mov (.t 0), none⟩,
   ⟨some 11, .len .l (.t 10), none⟩,
   ⟨some 12, .mov (.c (.int .i64 0)), none⟩] none) (
 .block 0 (
  .loop [1001800, 1, 2, 7, 10, 11, 12] (
   .seq (
   .region [⟨some 13, .bin .lss (.t 12) (.t 11), none⟩] none) (
   .seq (
   .cond (.t 13) (
    .skip) (
    .exit 0)) (
   .seq (
   .block 1 (
    .seq (
    .region [⟨some 14, .iaddr 7 [.int .i64, .int .i64, .int .i64, .int .i64, .int .i64, .int .i64, .str] (.t 10) (.t 12), none⟩,
      ⟨some 15, .load true 7 [.int .i64, .int .i64, .int .i64, .int .i64, .int .i64, .int .i64, .str] (.t 14), none⟩,
      ⟨some 9, .alloc (.agg [.int .i64 0, .int .i64 0, .int .i64 0, .int .i64 0, .int .i64 0, .int .i64 0, .str []]), none⟩,
      ⟨none, .store 7 (.t 9) (.t 15), none⟩] none) (
    .seq (
    .region [⟨some 16, .faddr 1 (.t 9), none⟩,
      ⟨some 17, .load false 1 [.int .i64] (.t 16), none⟩,
      ⟨some 18, .mov (.t 1), none⟩,
      ⟨some 19, .bin .eql (.t 17) (.t 18), none⟩,
      ⟨some 20, .mov (.t 19), none⟩,
      ⟨some 21, .faddr 4 (.t 9), some (20, true)⟩,
      ⟨some 22, .load false 1 [.int .i64] (.t 21), some (20, true)⟩,
      ⟨some 23, .mov (.t 2), some (20, true)⟩,
      ⟨some 24, .bin .leq (.t 22) (.t 23), some (20, true)⟩,
      ⟨some 25, .pick (.t 20) (.t 24) (.c (.bool false)), none⟩,
      ⟨some 26, .mov (.t 25), none⟩,
      ⟨some 27, .mov (.t 2), some (26, true)⟩,
      ⟨some 28, .faddr 5 (.t 9), some (26, true)⟩,
      ⟨some 29, .load false 1 [.int .i64] (.t 28), some (26, true)⟩,
      ⟨some 30, .bin .leq (.t 27) (.t 29), some (26, true)⟩,
      ⟨some 31, .pick (.t 26) (.t 30) (.c (.bool false)), none⟩] none) (
    .cond (.t 31) (
     .region [⟨some 32, .mov (.t 7), none⟩,
       ⟨some 33, .load true 7 [.int .i64, .int .i64, .int .i64, .int .i64, .int .i64, .int .i64, .str] (.t 9), none⟩,
       ⟨some 34, .bslice 7 (.agg [.int .i64 0, .int .i64 0, .int .i64 0, .int .i64 0, .int .i64 0, .int .i64 0, .str []]) 1 [(0, (.t 33))], none⟩,
       ⟨some 35, .app 7 64 (.t 32) (.t 34), none⟩,
       ⟨some 7, .mov (.t 35), none⟩] none) (
     .skip))))) (
   .region [⟨some 36, .bin .add (.t 12) (.c (.int .i64 1)), none⟩,
     ⟨some 12, .mov (.t 36), none⟩] none))))))) (
 .seq (
 .region [⟨some 37, .mov (.t 7), none⟩,
   ⟨some 6, .mov (.t 37), none⟩] none) (
 .ret))))⟩
def K18 : List (List Nat) := [[1001800, 1, 2, 7, 10, 11, 12]]
def Hn18 : List (Nat × Nat) := [(6, 7), (7, 7)]

/-- corebank/corebankref23.Active -/
def F19 : Fun := ⟨3, 49, [(6, none)],
 .seq (
 .region [⟨some 6, .mov (.c (.nils 7)), none⟩] none) (
 .seq (
 .region [⟨some 9, .bslice 7 (.agg [.int .i64 0, .int .i64 0, .int .i64 0, .int .i64 0, .int .i64 0, .int .i64 0, .str []]) 0 [], none⟩,
   ⟨some 7, .mov (.t 9), none⟩] none) (
 .seq (
 .seq (
 .region [⟨some 8, .mov (.c (.int .i64 0)), none⟩] none) (
 .block 0 (
  .loop [1001900, 0, 1, 2, 7, 8] (
   .seq (
   .seq (
   .region [⟨some 10, .mov (.t 8), none⟩,
     ⟨some 11, .mov (.t 0), none⟩,
     ⟨some 12, .len .l (.t 11), none⟩,
     ⟨some 13, .bin .lss (.t 10) (.t 12), none⟩] none) (
   .cond (.t 13) (
    .skip) (
    .exit 0))) (
   .seq (
   .block 1 (
    .seq (
    .region [⟨some 16, .mov (.t 0), none⟩,
      ⟨some 17, .mov (.t 8), none⟩,
      ⟨some 18, .iaddr 7 [.int .i64, .int .i64, .int .i64, .int .i64, .int .i64, .int .i64, .str] (.t 16) (.t 17), none⟩,
      ⟨some 19, .faddr 1 (.t 18), none⟩,
      ⟨some 20, .load false 1 [.int .i64] (.t 19), none⟩,
      ⟨some 21, .mov (.t 1), none⟩,
      ⟨some 22, .bin .eql (.t 20) (.t 21), none⟩,
      ⟨some 23, .mov (.t 22), none⟩,
      ⟨some 24, .mov (.t 0), some (23, true)⟩,
      ⟨some 25, .mov (.t 8), some (23, true)⟩,
      ⟨some 26, .iaddr 7 [.int .i64, .int .i64, .int .i64, .int .i64, .int .i64, .int .i64, .str] (.t 24) (.t 25), some (23, true)⟩,
      ⟨some 27, .faddr 4 (.t 26), some (23, true)⟩,
      ⟨some 28, .load false 1 [.int .i64] (.t 27), some (23, true)⟩,
      ⟨some 29, .mov (.t 2), some (23, true)⟩,
      ⟨some 30, .bin .leq (.t 28) (.t 29), some (23, true)⟩,
      ⟨some 31, .pick (.t 23) (.t 30) (.c (.bool false)), none⟩,
      ⟨some 32, .mov (.t 31), none⟩,
      ⟨some 33, .mov (.t 2), some (32, true)⟩,
      ⟨some 34, .mov (.t 0), some (32, true)⟩,
      ⟨some 35, .mov (.t 8), some (32, true)⟩,
      ⟨some 36, .iaddr 7 [.int .i64, .int .i64, .int .i64, .int .i64, .int .i64, .int .i64, .str] (.t 34) (.t 35), some (32, true)⟩,
      ⟨some 37, .faddr 5 (.t 36), some (32, true)⟩,
      ⟨some 38, .load false 1 [.int .i64] (.t 37), some (32, true)⟩,
      ⟨some 39, .bin .leq (.t 33) (.t 38), some (32, true)⟩,
      ⟨some 40, .pick (.t 32) (.t 39) (.c (.bool false)), none⟩] none) (
    .cond (.t 40) (
     .region [⟨some 41, .mov (.t 7), none⟩,
       ⟨some 42, .mov (.t 0), none⟩,
       ⟨some 43, .mov (.t 8), none⟩,
       ⟨some 44, .iaddr 7 [.int .i64, .int .i64, .int .i64, .int .i64, .int .i64, .int .i64, .str] (.t 42) (.t 43), none⟩,
       ⟨some 45, .load true 7 [.int .i64, .int .i64, .int .i64, .int .i64, .int .i64, .int .i64, .str] (.t 44), none⟩,
       ⟨some 46, .bslice 7 (.agg [.int .i64 0, .int .i64 0, .int .i64 0, .int .i64 0, .int .i64 0, .int .i64 0, .str []]) 1 [(0, (.t 45))], none⟩,
       ⟨some 47, .app 7 64 (.t 41) (.t 46), none⟩,
       ⟨some 7, .mov (.t 47), none⟩] none) (
     .skip)))) (
   .region [⟨some 14, .mov (.t 8), none⟩,
     ⟨some 15, .bin .add (.t 14) (.c (.int .i64 1)), none⟩,
     ⟨some 8, .mov (.t 15), none⟩] none)))))) (
 .seq (
 .region [⟨some 48, .mov (.t 7), none⟩,
   ⟨some 6, .mov (.t 48), none⟩] none) (
 .ret))))⟩
def K19 : List (List Nat) := [[1001900, 0, 1, 2, 7, 8]]
def Hn19 : List (Nat × Nat) := [(6, 7)]

/-- corebank/blocking.Denies -/
def F20 : Fun := ⟨4, 15, [(8, none)],
 .seq (
 .region [⟨some 7, .box 1 (.t 3), none⟩,
   ⟨some 8, .mov (.c (.bool false)), none⟩] none) (
 .seq (
 .region [⟨some 9, .mov (.t 0), none⟩,
   ⟨some 10, .mov (.t 1), none⟩,
   ⟨some 11, .mov (.t 2), none⟩,
   ⟨some 12, .call 18 [.t 9, .t 10, .t 11], none⟩,
   ⟨some 13, .mkf 35 [.t 7], none⟩,
   ⟨some 14, .call 34 [.t 12, .t 13], none⟩,
   ⟨some 8, .mov (.t 14), none⟩] none) (
 .ret))⟩
def K20 : List (List Nat) := []
def Hn20 : List (Nat × Nat) := []

/-- corebank/corebankref23.Denies -/
def F21 : Fun := ⟨4, 51, [(8, none)],
 .seq (
 .region [⟨some 8, .mov (.c (.bool false)), none⟩] none) (
 .seq (
 .region [⟨some 11, .mov (.t 0), none⟩,
   ⟨some 12, .mov (.t 1), none⟩,
   ⟨some 13, .mov (.t 2), none⟩,
   ⟨some 14, .call 19 [.t 11, .t 12, .t 13], none⟩,
   ⟨some 9, .mov (.t 14), none⟩] none) (
 .seq (
 .seq (
 .region [⟨some 10, .mov (.c (.int .i64 0)), none⟩] none) (
 .block 0 (
  .loop [1002100, 3, 9, 10] (
   .seq (
   .seq (
   .region [⟨some 15, .mov (.t 10), none⟩,
     ⟨some 16, .mov (.t 9), none⟩,
     ⟨some 17, .len .l (.t 16), none⟩,
     ⟨some 18, .bin .lss (.t 15) (.t 17), none⟩] none) (
   .cond (.t 18) (
    .skip) (
    .exit 0))) (
   .seq (
   .block 1 (
    .seq (
    .region [⟨some 21, .mov (.t 9), none⟩,
      ⟨some 22, .mov (.t 10), none⟩,
      ⟨some 23, .iaddr 7 [.int .i64, .int .i64, .int .i64, .int .i64, .int .i64, .int .i64, .str] (.t 21) (.t 22), none⟩,
      ⟨some 24, .faddr 2 (.t 23), none⟩,
      ⟨some 25, .load false 1 [.int .i64] (.t 24), none⟩,
      ⟨some 26, .bin .eql (.t 25) (.c (.int .i64 1)), none⟩,
      ⟨some 27, .mov (.t 26), none⟩,
      ⟨some 28, .mov (.t 9), some (27, false)⟩,
      ⟨some 29, .mov (.t 10), some (27, false)⟩,
      ⟨some 30, .iaddr 7 [.int .i64, .int .i64, .int .i64, .int .i64, .int .i64, .int .i64, .str] (.t 28) (.t 29), some (27, false)⟩,
      ⟨some 31, .faddr 2 (.t 30), some (27, false)⟩,
      ⟨some 32, .load false 1 [.int .i64] (.t 31), some (27, false)⟩,
      ⟨some 33, .bin .eql (.t 32) (.c (.int .i64 2)), some (27, false)⟩,
      ⟨some 34, .mov (.t 33), some (27, false)⟩,
      ⟨some 35, .mov (.t 3), some (34, true)⟩,
      ⟨some 36, .bin .gtr (.t 35) (.c (.int .i64 0)), some (34, true)⟩,
      ⟨some 37, .pick (.t 34) (.t 36) (.c (.bool false)), some (27, false)⟩,
      ⟨some 38, .pick (.t 27) (.c (.bool true)) (.t 37), none⟩,
      ⟨some 39, .mov (.t 38), none⟩,
      ⟨some 40, .mov (.t 9), some (39, false)⟩,
      ⟨some 41, .mov (.t 10), some (39, false)⟩,
      ⟨some 42, .iaddr 7 [.int .i64, .int .i64, .int .i64, .int .i64, .int .i64, .int .i64, .str] (.t 40) (.t 41), some (39, false)⟩,
      ⟨some 43, .faddr 2 (.t 42), some (39, false)⟩,
      ⟨some 44, .load false 1 [.int .i64] (.t 43), some (39, false)⟩,
      ⟨some 45, .bin .eql (.t 44) (.c (.int .i64 3)), some (39, false)⟩,
      ⟨some 46, .mov (.t 45), some (39, false)⟩,
      ⟨some 47, .mov (.t 3), some (46, true)⟩,
      ⟨some 48, .bin .lss (.t 47) (.c (.int .i64 0)), some (46, true)⟩,
      ⟨some 49, .pick (.t 46) (.t 48) (.c (.bool false)), some (39, false)⟩,
      ⟨some 50, .pick (.t 39) (.c (.bool true)) (.t 49), none⟩] none) (
    .cond (.t 50) (
     .seq (
     .region [⟨some 8, .mov (.c (.bool true)), none⟩] none) (
     .ret)) (
     .skip)))) (
   .region [⟨some 19, .mov (.t 10), none⟩,
     ⟨some 20, .bin .add (.t 19) (.c (.int .i64 1)), none⟩,
     ⟨some 10, .mov (.t 20), none⟩] none)))))) (
 .seq (
 .region [⟨some 8, .mov (.c (.bool false)), none⟩] none) (
 .ret))))⟩
def K21 : List (List Nat) := [[1002100, 3, 9, 10]]
def Hn21 : List (Nat × Nat) := []

/-- corebank/blocking.Reserved -/
def F22 : Fun := ⟨3, 34, [(6, none)],
 .seq (
 .region [⟨some 6, .mov (.c (.int .i64 0)), none⟩] none) (
 .seq (
 .region [⟨some 7, .mov (.c (.int .i64 0)), none⟩] none) (
 .seq (
 .seq (
 .region [⟨some 12, .mov (.t 0), none⟩,
   ⟨some 13, .mov (.t 1), none⟩,
   ⟨some 14, .mov (.t 2), none⟩,
   ⟨some 15, .call 18 [.t 12, .t 13, .t 14], none⟩,
   ⟨some 16, .len .l (.t 15), none⟩,
   ⟨some 17, .mov (.c (.int .i64 0)), none⟩] none) (
 .block 0 (
  .loop [1002200, 7, 15, 16, 17] (
   .seq (
   .region [⟨some 18, .bin .lss (.t 17) (.t 16), none⟩] none) (
   .seq (
   .cond (.t 18) (
    .skip) (
    .exit 0)) (
   .seq (
   .block 1 (
    .seq (
    .region [⟨some 19, .iaddr 7 [.int .i64, .int .i64, .int .i64, .int .i64, .int .i64, .int .i64, .str] (.t 15) (.t 17), none⟩,
      ⟨some 20, .load true 7 [.int .i64, .int .i64, .int .i64, .int .i64, .int .i64, .int .i64, .str] (.t 19), none⟩,
      ⟨some 9, .alloc (.agg [.int .i64 0, .int .i64 0, .int .i64 0, .int .i64 0, .int .i64 0, .int .i64 0, .str []]), none⟩,
      ⟨none, .store 7 (.t 9) (.t 20), none⟩] none) (
    .seq (
    .region [⟨some 22, .load true 7 [.int .i64, .int .i64, .int .i64, .int .i64, .int .i64, .int .i64, .str] (.t 9), none⟩,
      ⟨some 23, .call 37 [.t 22], none⟩,
      ⟨some 24, .tass 51 (.agg [.int .i64 0]) true (.t 23), none⟩,
      ⟨some 21, .mov (.t 24), none⟩,
      ⟨some 25, .ext (.t 21) 0, none⟩,
      ⟨some 26, .ext (.t 21) 1, none⟩,
      ⟨some 10, .alloc (.agg [.int .i64 0]), none⟩,
      ⟨none, .store 1 (.t 10) (.t 25), none⟩,
      ⟨some 11, .mov (.t 26), none⟩] none) (
    .seq (
    .region [⟨some 27, .mov (.t 11), none⟩] none) (
    .cond (.t 27) (
     .region [⟨some 28, .mov (.t 7), none⟩,
       ⟨some 29, .faddr 0 (.t 10), none⟩,
       ⟨some 30, .load false 1 [.int .i64] (.t 29), none⟩,
       ⟨some 31, .bin .add (.t 28) (.t 30), none⟩,
       ⟨some 7, .mov (.t 31), none⟩] none) (
     .skip)))))) (
   .region [⟨some 32, .bin .add (.t 17) (.c (.int .i64 1)), none⟩,
     ⟨some 17, .mov (.t 32), none⟩] none))))))) (
 .seq (
 .region [⟨some 33, .mov (.t 7), none⟩,
   ⟨some 6, .mov (.t 33), none⟩] none) (
 .ret))))⟩
def K22 : List (List Nat) := [[1002200, 7, 15, 16, 17]]
def Hn22 : List (Nat × Nat) := []

/-- corebank/corebankref23.Reserved -/
def F23 : Fun := ⟨3, 34, [(6, none)],
 .seq (
 .region [⟨some 6, .mov (.c (.int .i64 0)), none⟩] none) (
 .seq (
 .region [⟨some 10, .mov (.t 0), none⟩,
   ⟨some 11, .mov (.t 1), none⟩,
   ⟨some 12, .mov (.t 2), none⟩,
   ⟨some 13, .call 19 [.t 10, .t 11, .t 12], none⟩,
   ⟨some 7, .mov (.t 13), none⟩] none) (
 .seq (
 .region [⟨some 8, .mov (.c (.int .i64 0)), none⟩] none) (
 .seq (
 .seq (
 .region [⟨some 9, .mov (.c (.int .i64 0)), none⟩] none) (
 .block 0 (
  .loop [1002300, 7, 8, 9] (
   .seq (
   .seq (
   .region [⟨some 14, .mov (.t 9), none⟩,
     ⟨some 15, .mov (.t 7), none⟩,
     ⟨some 16, .len .l (.t 15), none⟩,
     ⟨some 17, .bin .lss (.t 14) (.t 16), none⟩] none) (
   .cond (.t 17) (
    .skip) (
    .exit 0))) (
   .seq (
   .block 1 (
    .seq (
    .region [⟨some 20, .mov (.t 7), none⟩,
      ⟨some 21, .mov (.t 9), none⟩,
      ⟨some 22, .iaddr 7 [.int .i64, .int .i64, .int .i64, .int .i64, .int .i64, .int .i64, .str] (.t 20) (.t 21), none⟩,
      ⟨some 23, .faddr 2 (.t 22), none⟩,
      ⟨some 24, .load false 1 [.int .i64] (.t 23), none⟩,
      ⟨some 25, .bin .eql (.t 24) (.c (.int .i64 4)), none⟩] none) (
    .cond (.t 25) (
     .region [⟨some 26, .mov (.t 8), none⟩,
       ⟨some 27, .mov (.t 7), none⟩,
       ⟨some 28, .mov (.t 9), none⟩,
       ⟨some 29, .iaddr 7 [.int .i64, .int .i64, .int .i64, .int .i64, .int .i64, .int .i64, .str] (.t 27) (.t 28), none⟩,
       ⟨some 30, .faddr 3 (.t 29), none⟩,
       ⟨some 31, .load false 1 [.int .i64] (.t 30), none⟩,
       ⟨some 32, .bin .add (.t 26) (.t 31), none⟩,
       ⟨some 8, .mov (.t 32), none⟩] none) (
     .skip)))) (
   .region [⟨some 18, .mov (.t 9), none⟩,
     ⟨some 19, .bin .add (.t 18) (.c (.int .i64 1)), none⟩,
     ⟨some 9, .mov (.t 19), none⟩] none)))))) (
 .seq (
 .region [⟨some 33, .mov (.t 8), none⟩,
   ⟨some 6, .mov (.t 33), none⟩] none) (
 .ret)))))⟩
def K23 : List (List Nat) := [[1002300, 7, 8, 9]]
def Hn23 : List (Nat × Nat) := []

/-- corebank/corebankref04.Valid -/
def F24 : Fun := ⟨1, 9, [(2, none)],
 .seq (
 .region [⟨some 2, .mov (.c (.bool false)), none⟩] none) (
 .seq (
 .region [⟨some 3, .mov (.t 0), none⟩,
   ⟨some 4, .bin .geq (.t 3) (.c (.int .i64 0)), none⟩,
   ⟨some 5, .mov (.t 4), none⟩,
   ⟨some 6, .mov (.t 0), some (5, true)⟩,
   ⟨some 7, .bin .leq (.t 6) (.c (.int .i64 73048)), some (5, true)⟩,
   ⟨some 8, .pick (.t 5) (.t 7) (.c (.bool false)), none⟩,
   ⟨some 2, .mov (.t 8), none⟩] none) (
 .ret))⟩
def K24 : List (List Nat) := []
def Hn24 : List (Nat × Nat) := []

/-- corebank/blocking.fields -/
def F25 : Fun := ⟨1, 54, [(2, none)],
 .seq (
 .region [⟨some 1, .box 7 (.t 0), none⟩,
   ⟨some 2, .mov (.c (.bool false)), none⟩] none) (
 .seq (
 .seq (
 .region [⟨some 3, .faddr 0 (.t 1), none⟩,
   ⟨some 4, .load false 1 [.int .i64] (.t 3), none⟩,
   ⟨some 5, .bin .lss (.t 4) (.c (.int .i64 1)), none⟩,
   ⟨some 6, .mov (.t 5), none⟩,
   ⟨some 7, .faddr 1 (.t 1), some (6, false)⟩,
   ⟨some 8, .load false 1 [.int .i64] (.t 7), some (6, false)⟩,
   ⟨some 9, .bin .lss (.t 8) (.c (.int .i64 1000)), some (6, false)⟩,
   ⟨some 10, .pick (.t 6) (.c (.bool true)) (.t 9), none⟩,
   ⟨some 11, .mov (.t 10), none⟩,
   ⟨some 12, .faddr 2 (.t 1), some (11, false)⟩,
   ⟨some 13, .load false 1 [.int .i64] (.t 12), some (11, false)⟩,
   ⟨some 14, .bin .lss (.t 13) (.c (.int .i64 1)), some (11, false)⟩,
   ⟨some 15, .pick (.t 11) (.c (.bool true)) (.t 14), none⟩,
   ⟨some 16, .mov (.t 15), none⟩,
   ⟨some 17, .faddr 2 (.t 1), some (16, false)⟩,
   ⟨some 18, .load false 1 [.int .i64] (.t 17), some (16, false)⟩,
   ⟨some 19, .bin .gtr (.t 18) (.c (.int .i64 4)), some (16, false)⟩,
   ⟨some 20, .pick (.t 16) (.c (.bool true)) (.t 19), none⟩,
   ⟨some 21, .mov (.t 20), none⟩,
   ⟨some 22, .faddr 4 (.t 1), some (21, false)⟩,
   ⟨some 23, .load false 1 [.int .i64] (.t 22), some (21, false)⟩,
   ⟨some 24, .call 32 [.t 23], some (21, false)⟩,
   ⟨some 25, .un .not (.t 24), some (21, false)⟩,
   ⟨some 26, .pick (.t 21) (.c (.bool true)) (.t 25), none⟩,
   ⟨some 27, .mov (.t 26), none⟩,
   ⟨some 28, .faddr 5 (.t 1), some (27, false)⟩,
   ⟨some 29, .load false 1 [.int .i64] (.t 28), some (27, false)⟩,
   ⟨some 30, .call 32 [.t 29], some (27, false)⟩,
   ⟨some 31, .un .not (.t 30), some (27, false)⟩,
   ⟨some 32, .pick (.t 27) (.c (.bool true)) (.t 31), none⟩,
   ⟨some 33, .mov (.t 32), none⟩,
   ⟨some 34, .faddr 4 (.t 1), some (33, false)⟩,
   ⟨some 35, .load false 1 [.int .i64] (.t 34), some (33, false)⟩,
   ⟨some 36, .faddr 5 (.t 1), some (33, false)⟩,
   ⟨some 37, .load false 1 [.int .i64] (.t 36), some (33, false)⟩,
   ⟨some 38, .bin .gtr (.t 35) (.t 37), some (33, false)⟩,
   ⟨some 39, .pick (.t 33) (.c (.bool true)) (.t 38), none⟩] none) (
 .cond (.t 39) (
  .seq (
  .region [⟨some 2, .mov (.c (.bool false)), none⟩] none) (
  .ret)) (
  .skip))) (
 .seq (
 .seq (
 .region [⟨some 40, .faddr 2 (.t 1), none⟩,
   ⟨some 41, .load false 1 [.int .i64] (.t 40), none⟩,
   ⟨some 42, .bin .neq (.t 41) (.c (.int .i64 4)), none⟩] none) (
 .cond (.t 42) (
  .seq (
  .region [⟨some 43, .faddr 3 (.t 1), none⟩,
    ⟨some 44, .load false 1 [.int .i64] (.t 43), none⟩,
    ⟨some 45, .bin .eql (.t 44) (.c (.int .i64 0)), none⟩,
    ⟨some 2, .mov (.t 45), none⟩] none) (
  .ret)) (
  .skip))) (
 .seq (
 .region [⟨some 46, .faddr 3 (.t 1), none⟩,
   ⟨some 47, .load false 1 [.int .i64] (.t 46), none⟩,
   ⟨some 48, .bin .geq (.t 47) (.c (.int .i64 1)), none⟩,
   ⟨some 49, .mov (.t 48), none⟩,
   ⟨some 50, .faddr 3 (.t 1), some (49, true)⟩,
   ⟨some 51, .load false 1 [.int .i64] (.t 50), some (49, true)⟩,
   ⟨some 52, .bin .leq (.t 51) (.c (.int .i64 1000000000000)), some (49, true)⟩,
   ⟨some 53, .pick (.t 49) (.t 52) (.c (.bool false)), none⟩,
   ⟨some 2, .mov (.t 53), none⟩] none) (
 .ret))))⟩
def K25 : List (List Nat) := []
def Hn25 : List (Nat × Nat) := []

/-- corebank/blocking.name -/
def F26 : Fun := ⟨1, 47, [(2, none)],
 .seq (
 .region [⟨some 2, .mov (.c (.bool false)), none⟩] none) (
 .seq (
 .seq (
 .region [⟨some 6, .mov (.t 0), none⟩,
   ⟨some 7, .len .s (.t 6), none⟩,
   ⟨some 8, .mov (.c (.int .i64 0)), none⟩] none) (
 .block 0 (
  .loop [1002600, 0, 7, 8] (
   .seq (
   .region [⟨some 9, .bin .lss (.t 8) (.t 7), none⟩] none) (
   .seq (
   .cond (.t 9) (
    .skip) (
    .exit 0)) (
   .seq (
   .block 1 (
    .seq (
    .region [⟨some 10, .mov (.t 8), none⟩,
      ⟨some 3, .mov (.t 10), none⟩] none) (
    .seq (
    .region [⟨some 11, .mov (.t 0), none⟩,
      ⟨some 12, .mov (.t 3), none⟩,
      ⟨some 13, .idxs (.t 11) (.t 12), none⟩,
      ⟨some 4, .mov (.t 13), none⟩] none) (
    .seq (
    .region [⟨some 14, .mov (.t 4), none⟩,
      ⟨some 15, .bin .geq (.t 14) (.c (.int .u8 97)), none⟩,
      ⟨some 16, .mov (.t 15), none⟩,
      ⟨some 17, .mov (.t 4), some (16, true)⟩,
      ⟨some 18, .bin .leq (.t 17) (.c (.int .u8 122)), some (16, true)⟩,
      ⟨some 19, .pick (.t 16) (.t 18) (.c (.bool false)), none⟩,
      ⟨some 5, .mov (.t 19), none⟩] none) (
    .seq (
    .region [⟨some 20, .mov (.t 5), none⟩,
      ⟨some 21, .un .not (.t 20), none⟩,
      ⟨some 22, .mov (.t 21), none⟩,
      ⟨some 23, .mov (.t 3), some (22, true)⟩,
      ⟨some 24, .bin .eql (.t 23) (.c (.int .i64 0)), some (22, true)⟩,
      ⟨some 25, .mov (.t 24), some (22, true)⟩,
      ⟨some 26, .mov (.t 4), some (25, false)⟩,
      ⟨some 27, .bin .neq (.t 26) (.c (.int .u8 95)), some (25, false)⟩,
      ⟨some 28, .mov (.t 27), some (25, false)⟩,
      ⟨some 29, .mov (.t 4), some (28, true)⟩,
      ⟨some 30, .bin .lss (.t 29) (.c (.int .u8 48)), some (28, true)⟩,
      ⟨some 31, .mov (.t 30), some (28, true)⟩,
      ⟨some 32, .mov (.t 4), some (31, false)⟩,
      ⟨some 33, .bin .gtr (.t 32) (.c (.int .u8 57)), some (31, false)⟩,
      ⟨some 34, .pick (.t 31) (.c (.bool true)) (.t 33), some (28, true)⟩,
      ⟨some 35, .pick (.t 28) (.t 34) (.c (.bool false)), some (25, false)⟩,
      ⟨some 36, .pick (.t 25) (.c (.bool true)) (.t 35), some (22, true)⟩,
      ⟨some 37, .pick (.t 22) (.t 36) (.c (.bool false)), none⟩] none) (
    .cond (.t 37) (
     .seq (
     .region [⟨some 2, .mov (.c (.bool false)), none⟩] none) (
     .ret)) (
     .skip))))))) (
   .region [⟨some 38, .bin .add (.t 8) (.c (.int .i64 1)), none⟩,
     ⟨some 8, .mov (.t 38), none⟩] none))))))) (
 .seq (
 .region [⟨some 39, .mov (.t 0), none⟩,
   ⟨some 40, .len .s (.t 39), none⟩,
   ⟨some 41, .bin .geq (.t 40) (.c (.int .i64 1)), none⟩,
   ⟨some 42, .mov (.t 41), none⟩,
   ⟨some 43, .mov (.t 0), some (42, true)⟩,
   ⟨some 44, .len .s (.t 43), some (42, true)⟩,
   ⟨some 45, .bin .leq (.t 44) (.c (.int .i64 16)), some (42, true)⟩,
   ⟨some 46, .pick (.t 42) (.t 45) (.c (.bool false)), none⟩,
   ⟨some 2, .mov (.t 46), none⟩] none) (
 .ret)))⟩
def K26 : List (List Nat) := [[1002600, 0, 7, 8]]
def Hn26 : List (Nat × Nat) := []

/-- corebank/corebankref23.good -/
def F27 : Fun := ⟨1, 59, [(2, none)],
 .seq (
 .region [⟨some 1, .box 7 (.t 0), none⟩,
   ⟨some 2, .mov (.c (.bool false)), none⟩] none) (
 .seq (
 .seq (
 .region [⟨some 3, .faddr 0 (.t 1), none⟩,
   ⟨some 4, .load false 1 [.int .i64] (.t 3), none⟩,
   ⟨some 5, .bin .lss (.t 4) (.c (.int .i64 1)), none⟩,
   ⟨some 6, .mov (.t 5), none⟩,
   ⟨some 7, .faddr 1 (.t 1), some (6, false)⟩,
   ⟨some 8, .load false 1 [.int .i64] (.t 7), some (6, false)⟩,
   ⟨some 9, .bin .lss (.t 8) (.c (.int .i64 1000)), some (6, false)⟩,
   ⟨some 10, .pick (.t 6) (.c (.bool true)) (.t 9), none⟩,
   ⟨some 11, .mov (.t 10), none⟩,
   ⟨some 12, .faddr 2 (.t 1), some (11, false)⟩,
   ⟨some 13, .load false 1 [.int .i64] (.t 12), some (11, false)⟩,
   ⟨some 14, .bin .lss (.t 13) (.c (.int .i64 1)), some (11, false)⟩,
   ⟨some 15, .pick (.t 11) (.c (.bool true)) (.t 14), none⟩,
   ⟨some 16, .mov (.t 15), none⟩,
   ⟨some 17, .faddr 2 (.t 1), some (16, false)⟩,
   ⟨some 18, .load false 1 [.int .i64] (.t 17), some (16, false)⟩,
   ⟨some 19, .bin .gtr (.t 18) (.c (.int .i64 4)), some (16, false)⟩,
   ⟨some 20, .pick (.t 16) (.c (.bool true)) (.t 19), none⟩] none) (
 .cond (.t 20) (
  .seq (
  .region [⟨some 2, .mov (.c (.bool false)), none⟩] none) (
  .ret)) (
  .skip))) (
 .seq (
 .seq (
 .region [⟨some 21, .faddr 2 (.t 1), none⟩,
   ⟨some 22, .load false 1 [.int .i64] (.t 21), none⟩,
   ⟨some 23, .bin .eql (.t 22) (.c (.int .i64 4)), none⟩,
   ⟨some 24, .mov (.t 23), none⟩,
   ⟨some 25, .faddr 3 (.t 1), some (24, true)⟩,
   ⟨some 26, .load false 1 [.int .i64] (.t 25), some (24, true)⟩,
   ⟨some 27, .bin .lss (.t 26) (.c (.int .i64 1)), some (24, true)⟩,
   ⟨some 28, .mov (.t 27), some (24, true)⟩,
   ⟨some 29, .faddr 3 (.t 1), some (28, false)⟩,
   ⟨some 30, .load false 1 [.int .i64] (.t 29), some (28, false)⟩,
   ⟨some 31, .bin .gtr (.t 30) (.c (.int .i64 1000000000000)), some (28, false)⟩,
   ⟨some 32, .pick (.t 28) (.c (.bool true)) (.t 31), some (24, true)⟩,
   ⟨some 33, .pick (.t 24) (.t 32) (.c (.bool false)), none⟩,
   ⟨some 34, .mov (.t 33), none⟩,
   ⟨some 35, .faddr 2 (.t 1), some (34, false)⟩,
   ⟨some 36, .load false 1 [.int .i64] (.t 35), some (34, false)⟩,
   ⟨some 37, .bin .neq (.t 36) (.c (.int .i64 4)), some (34, false)⟩,
   ⟨some 38, .mov (.t 37), some (34, false)⟩,
   ⟨some 39, .faddr 3 (.t 1), some (38, true)⟩,
   ⟨some 40, .load false 1 [.int .i64] (.t 39), some (38, true)⟩,
   ⟨some 41, .bin .neq (.t 40) (.c (.int .i64 0)), some (38, true)⟩,
   ⟨some 42, .pick (.t 38) (.t 41) (.c (.bool false)), some (34, false)⟩,
   ⟨some 43, .pick (.t 34) (.c (.bool true)) (.t 42), none⟩] none) (
 .cond (.t 43) (
  .seq (
  .region [⟨some 2, .mov (.c (.bool false)), none⟩] none) (
  .ret)) (
  .skip))) (
 .seq (
 .region [⟨some 44, .faddr 4 (.t 1), none⟩,
   ⟨some 45, .load false 1 [.int .i64] (.t 44), none⟩,
   ⟨some 46, .call 24 [.t 45], none⟩,
   ⟨some 47, .mov (.t 46), none⟩,
   ⟨some 48, .faddr 5 (.t 1), some (47, true)⟩,
   ⟨some 49, .load false 1 [.int .i64] (.t 48), some (47, true)⟩,
   ⟨some 50, .call 24 [.t 49], some (47, true)⟩,
   ⟨some 51, .pick (.t 47) (.t 50) (.c (.bool false)), none⟩,
   ⟨some 52, .mov (.t 51), none⟩,
   ⟨some 53, .faddr 4 (.t 1), some (52, true)⟩,
   ⟨some 54, .load false 1 [.int .i64] (.t 53), some (52, true)⟩,
   ⟨some 55, .faddr 5 (.t 1), some (52, true)⟩,
   ⟨some 56, .load false 1 [.int .i64] (.t 55), some (52, true)⟩,
   ⟨some 57, .bin .leq (.t 54) (.t 56), some (52, true)⟩,
   ⟨some 58, .pick (.t 52) (.t 57) (.c (.bool false)), none⟩,
   ⟨some 2, .mov (.t 58), none⟩] none) (
 .ret))))⟩
def K27 : List (List Nat) := []
def Hn27 : List (Nat × Nat) := []

/-- corebank/corebankref05.Name -/
def F28 : Fun := ⟨1, 56, [(2, none)],
 .seq (
 .region [⟨some 2, .mov (.c (.bool false)), none⟩] none) (
 .seq (
 .seq (
 .region [⟨some 4, .mov (.t 0), none⟩,
   ⟨some 5, .len .s (.t 4), none⟩,
   ⟨some 6, .bin .lss (.t 5) (.c (.int .i64 1)), none⟩,
   ⟨some 7, .mov (.t 6), none⟩,
   ⟨some 8, .mov (.t 0), some (7, false)⟩,
   ⟨some 9, .len .s (.t 8), some (7, false)⟩,
   ⟨some 10, .bin .gtr (.t 9) (.c (.int .i64 16)), some (7, false)⟩,
   ⟨some 11, .pick (.t 7) (.c (.bool true)) (.t 10), none⟩,
   ⟨some 12, .mov (.t 11), none⟩,
   ⟨some 13, .mov (.t 0), some (12, false)⟩,
   ⟨some 14, .idxs (.t 13) (.c (.int .i64 0)), some (12, false)⟩,
   ⟨some 15, .bin .lss (.t 14) (.c (.int .u8 97)), some (12, false)⟩,
   ⟨some 16, .pick (.t 12) (.c (.bool true)) (.t 15), none⟩,
   ⟨some 17, .mov (.t 16), none⟩,
   ⟨some 18, .mov (.t 0), some (17, false)⟩,
   ⟨some 19, .idxs (.t 18) (.c (.int .i64 0)), some (17, false)⟩,
   ⟨some 20, .bin .gtr (.t 19) (.c (.int .u8 122)), some (17, false)⟩,
   ⟨some 21, .pick (.t 17) (.c (.bool true)) (.t 20), none⟩] none) (
 .cond (.t 21) (
  .seq (
  .region [⟨some 2, .mov (.c (.bool false)), none⟩] none) (
  .ret)) (
  .skip))) (
 .seq (
 .seq (
 .region [⟨some 3, .mov (.c (.int .i64 0)), none⟩] none) (
 .block 0 (
  .loop [1002800, 0, 3] (
   .seq (
   .seq (
   .region [⟨some 22, .mov (.t 3), none⟩,
     ⟨some 23, .mov (.t 0), none⟩,
     ⟨some 24, .len .s (.t 23), none⟩,
     ⟨some 25, .bin .lss (.t 22) (.t 24), none⟩] none) (
   .cond (.t 25) (
    .skip) (
    .exit 0))) (
   .seq (
   .block 1 (
    .seq (
    .region [⟨some 28, .mov (.t 0), none⟩,
      ⟨some 29, .mov (.t 3), none⟩,
      ⟨some 30, .idxs (.t 28) (.t 29), none⟩,
      ⟨some 31, .bin .lss (.t 30) (.c (.int .u8 97)), none⟩,
      ⟨some 32, .mov (.t 31), none⟩,
      ⟨some 33, .mov (.t 0), some (32, false)⟩,
      ⟨some 34, .mov (.t 3), some (32, false)⟩,
      ⟨some 35, .idxs (.t 33) (.t 34), some (32, false)⟩,
      ⟨some 36, .bin .gtr (.t 35) (.c (.int .u8 122)), some (32, false)⟩,
      ⟨some 37, .pick (.t 32) (.c (.bool true)) (.t 36), none⟩,
      ⟨some 38, .mov (.t 37), none⟩,
      ⟨some 39, .mov (.t 0), some (38, true)⟩,
      ⟨some 40, .mov (.t 3), some (38, true)⟩,
      ⟨some 41, .idxs (.t 39) (.t 40), some (38, true)⟩,
      ⟨some 42, .bin .lss (.t 41) (.c (.int .u8 48)), some (38, true)⟩,
      ⟨some 43, .mov (.t 42), some (38, true)⟩,
      ⟨some 44, .mov (.t 0), some (43, false)⟩,
      ⟨some 45, .mov (.t 3), some (43, false)⟩,
      ⟨some 46, .idxs (.t 44) (.t 45), some (43, false)⟩,
      ⟨some 47, .bin .gtr (.t 46) (.c (.int .u8 57)), some (43, false)⟩,
      ⟨some 48, .pick (.t 43) (.c (.bool true)) (.t 47), some (38, true)⟩,
      ⟨some 49, .pick (.t 38) (.t 48) (.c (.bool false)), none⟩,
      ⟨some 50, .mov (.t 49), none⟩,
      ⟨some 51, .mov (.t 0), some (50, true)⟩,
      ⟨some 52, .mov (.t 3), some (50, true)⟩,
      ⟨some 53, .idxs (.t 51) (.t 52), some (50, true)⟩,
      ⟨some 54, .bin .neq (.t 53) (.c (.int .u8 95)), some (50, true)⟩,
      ⟨some 55, .pick (.t 50) (.t 54) (.c (.bool false)), none⟩] none) (
    .cond (.t 55) (
     .seq (
     .region [⟨some 2, .mov (.c (.bool false)), none⟩] none) (
     .ret)) (
     .skip)))) (
   .region [⟨some 26, .mov (.t 3), none⟩,
     ⟨some 27, .bin .add (.t 26) (.c (.int .i64 1)), none⟩,
     ⟨some 3, .mov (.t 27), none⟩] none)))))) (
 .seq (
 .region [⟨some 2, .mov (.c (.bool true)), none⟩] none) (
 .ret))))⟩
def K28 : List (List Nat) := [[1002800, 0, 3]]
def Hn28 : List (Nat × Nat) := []

/-- slices.Clone[[]corebank/api.Block,corebank/api.Block] -/
def F29 : Fun := ⟨1, 8, [(2, none)],
 .seq (
 .region [⟨some 2, .mov (.c (.nils 7)), none⟩] none) (
 .seq (
 .seq (
 .region [⟨some 3, .mov (.t 0), none⟩,
   ⟨some 4, .eqn .s false (.t 3) (.c (.nils 0)), none⟩] none) (
 .cond (.t 4) (
  .seq (
  .region [⟨some 2, .mov (.c (.nils 7)), none⟩] none) (
  .ret)) (
  .skip))) (
 .seq (
 .region [⟨some 5, .bslice 7 (.agg [.int .i64 0, .int .i64 0, .int .i64 0, .int .i64 0, .int .i64 0, .int .i64 0, .str []]) 0 [], none⟩,
   ⟨some 6, .mov (.t 0), none⟩,
   ⟨some 7, .app 7 64 (.t 5) (.t 6), none⟩,
   ⟨some 2, .mov (.t 7), none⟩] none) (
 .ret)))⟩
def K29 : List (List Nat) := []
def Hn29 : List (Nat × Nat) := [(2, 7)]

/-- corebank/blocking.Lift$1 -/
def F31 : Fun := ⟨1, 8, [(3, none)],
 .seq (
 .region [⟨some 2, .box 7 (.t 0), none⟩,
   ⟨some 3, .mov (.c (.bool false)), none⟩] none) (
 .seq (
 .region [⟨some 4, .faddr 0 (.t 2), none⟩,
   ⟨some 5, .load false 1 [.int .i64] (.t 4), none⟩,
   ⟨some 6, .load false 1 [.int .i64] (.t 1), none⟩,
   ⟨some 7, .bin .eql (.t 5) (.t 6), none⟩,
   ⟨some 3, .mov (.t 7), none⟩] none) (
 .ret))⟩
def K31 : List (List Nat) := []
def Hn31 : List (Nat × Nat) := []

/-- slices.IndexFunc[[]corebank/api.Block,corebank/api.Block] -/
def F30 : Fun := ⟨2, 19, [(4, none)],
 .seq (
 .region [⟨some 4, .mov (.c (.int .i64 0)), none⟩] none) (
 .seq (
 .seq (
 .region [⟨some 6, .mov (.t 0), none⟩,
   ⟨some 7, .len .l (.t 6), none⟩,
   ⟨some 8, .mov (.c (.int .i64 0)), none⟩] none) (
 .block 0 (
  .loop [1003000, 0, 1, 7, 8] (
   .seq (
   .region [⟨some 9, .bin .lss (.t 8) (.t 7), none⟩] none) (
   .seq (
   .cond (.t 9) (
    .skip) (
    .exit 0)) (
   .seq (
   .block 1 (
    .seq (
    .region [⟨some 10, .mov (.t 8), none⟩,
      ⟨some 5, .mov (.t 10), none⟩] none) (
    .seq (
    .region [⟨some 11, .mov (.t 1), none⟩,
      ⟨some 12, .mov (.t 0), none⟩,
      ⟨some 13, .mov (.t 5), none⟩,
      ⟨some 14, .iaddr 7 [.int .i64, .int .i64, .int .i64, .int .i64, .int .i64, .int .i64, .str] (.t 12) (.t 13), none⟩,
      ⟨some 15, .load true 7 [.int .i64, .int .i64, .int .i64, .int .i64, .int .i64, .int .i64, .str] (.t 14), none⟩,
      ⟨some 16, .callv (.t 11) [.t 15], none⟩] none) (
    .cond (.t 16) (
     .seq (
     .region [⟨some 17, .mov (.t 5), none⟩,
       ⟨some 4, .mov (.t 17), none⟩] none) (
     .ret)) (
     .skip))))) (
   .region [⟨some 18, .bin .add (.t 8) (.c (.int .i64 1)), none⟩,
     ⟨some 8, .mov (.t 18), none⟩] none))))))) (
 .seq (
 .region [⟨some 4, .mov (.c (.int .i64 (-1))), none⟩] none) (
 .ret)))⟩
def K30 : List (List Nat) := [[1003000, 0, 1, 7, 8]]
def Hn30 : List (Nat × Nat) := []

/-- corebank/blocking.day -/
def F32 : Fun := ⟨1, 9, [(2, none)],
 .seq (
 .region [⟨some 2, .mov (.c (.bool false)), none⟩] none) (
 .seq (
 .region [⟨some 3, .mov (.t 0), none⟩,
   ⟨some 4, .bin .geq (.t 3) (.c (.int .i64 0)), none⟩,
   ⟨some 5, .mov (.t 4), none⟩,
   ⟨some 6, .mov (.t 0), some (5, true)⟩,
   ⟨some 7, .bin .leq (.t 6) (.c (.int .i64 73048)), some (5, true)⟩,
   ⟨some 8, .pick (.t 5) (.t 7) (.c (.bool false)), none⟩,
   ⟨some 2, .mov (.t 8), none⟩] none) (
 .ret))⟩
def K32 : List (List Nat) := []
def Hn32 : List (Nat × Nat) := []

/-- slices.Delete[[]corebank/api.Block,corebank/api.Block] -/
def F33 : Fun := ⟨3, 33, [(6, none)],
 .seq (
 .region [⟨some 6, .mov (.c (.nils 7)), none⟩] none) (
 .seq (
 .region [⟨some 8, .mov (.t 0), none⟩,
   ⟨some 9, .mov (.t 1), none⟩,
   ⟨some 10, .mov (.t 2), none⟩,
   ⟨some 11, .mov (.t 0), none⟩,
   ⟨some 12, .len .l (.t 11), none⟩,
   ⟨some 13, .slc3 (.t 8) (.t 9) (.t 10) (.t 12), none⟩] none) (
 .seq (
 .seq (
 .region [⟨some 14, .mov (.t 1), none⟩,
   ⟨some 15, .mov (.t 2), none⟩,
   ⟨some 16, .bin .eql (.t 14) (.t 15), none⟩] none) (
 .cond (.t 16) (
  .seq (
  .region [⟨some 17, .mov (.t 0), none⟩,
    ⟨some 6, .mov (.t 17), none⟩] none) (
  .ret)) (
  .skip))) (
 .seq (
 .region [⟨some 18, .mov (.t 0), none⟩,
   ⟨some 19, .len .l (.t 18), none⟩,
   ⟨some 7, .mov (.t 19), none⟩] none) (
 .seq (
 .region [⟨some 20, .mov (.t 0), none⟩,
   ⟨some 21, .mov (.t 1), none⟩,
   ⟨some 22, .slc 7 (.t 20) none (some (.t 21)), none⟩,
   ⟨some 23, .mov (.t 0), none⟩,
   ⟨some 24, .mov (.t 2), none⟩,
   ⟨some 25, .slc 7 (.t 23) (some (.t 24)) none, none⟩,
   ⟨some 26, .app 7 64 (.t 22) (.t 25), none⟩,
   ⟨some 0, .mov (.t 26), none⟩] (some [[], [], [0, 1], [], [], [3, 4], [2, 0, 1, 5, 3, 4], [6, 2, 0, 1, 5, 3, 4]])) (
 .seq (
 .region [⟨some 27, .mov (.t 0), none⟩,
   ⟨some 28, .mov (.t 0), none⟩,
   ⟨some 29, .len .l (.t 28), none⟩,
   ⟨some 30, .mov (.t 7), none⟩,
   ⟨some 31, .slc 7 (.t 27) (some (.t 29)) (some (.t 30)), none⟩,
   ⟨none, .clr 7 (.agg [.int .i64 0, .int .i64 0, .int .i64 0, .int .i64 0, .int .i64 0, .int .i64 0, .str []]) (.t 31), none⟩] none) (
 .seq (
 .region [⟨some 32, .mov (.t 0), none⟩,
   ⟨some 6, .mov (.t 32), none⟩] none) (
 .ret)))))))⟩
def K33 : List (List Nat) := []
def Hn33 : List (Nat × Nat) := [(6, 7)]

/-- corebank/blocking.Denies$1 -/
def F35 : Fun := ⟨1, 7, [(3, none)],
 .seq (
 .region [⟨some 2, .box 7 (.t 0), none⟩,
   ⟨some 3, .mov (.c (.bool false)), none⟩] none) (
 .seq (
 .region [⟨some 4, .load true 7 [.int .i64, .int .i64, .int .i64, .int .i64, .int .i64, .int .i64, .str] (.t 2), none⟩,
   ⟨some 5, .load false 1 [.int .i64] (.t 1), none⟩,
   ⟨some 6, .call 36 [.t 4, .t 5], none⟩,
   ⟨some 3, .mov (.t 6), none⟩] none) (
 .ret))⟩
def K35 : List (List Nat) := []
def Hn35 : List (Nat × Nat) := []

/-- slices.ContainsFunc[[]corebank/api.Block,corebank/api.Block] -/
def F34 : Fun := ⟨2, 9, [(4, none)],
 .seq (
 .region [⟨some 4, .mov (.c (.bool false)), none⟩] none) (
 .seq (
 .region [⟨some 5, .mov (.t 0), none⟩,
   ⟨some 6, .mov (.t 1), none⟩,
   ⟨some 7, .call 30 [.t 5, .t 6], none⟩,
   ⟨some 8, .bin .geq (.t 7) (.c (.int .i64 0)), none⟩,
   ⟨some 4, .mov (.t 8), none⟩] none) (
 .ret))⟩
def K34 : List (List Nat) := []
def Hn34 : List (Nat × Nat) := []

/-- corebank/blocking.cover -/
def F37 : Fun := ⟨1, 25, [(2, none)],
 .seq (
 .region [⟨some 1, .box 7 (.t 0), none⟩,
   ⟨some 2, .mov (.c (.nili)), none⟩] none) (
 .seq (
 .seq (
 .region [⟨some 3, .faddr 2 (.t 1), none⟩,
   ⟨some 4, .load false 1 [.int .i64] (.t 3), none⟩] none) (
 .block 0 (
  .seq (
  .region [⟨some 6, .bin .eql (.t 4) (.c (.int .i64 1)), none⟩,
    ⟨some 5, .mov (.t 6), none⟩] none) (
  .cond (.t 5) (
   .seq (
   .region [⟨some 7, .build [] [], none⟩,
     ⟨some 8, .mki 55 (.t 7), none⟩,
     ⟨some 2, .mov (.t 8), none⟩] none) (
   .ret)) (
   .seq (
   .region [⟨some 10, .bin .eql (.t 4) (.c (.int .i64 2)), none⟩,
     ⟨some 9, .mov (.t 10), none⟩] none) (
   .cond (.t 9) (
    .seq (
    .region [⟨some 11, .build [] [], none⟩,
      ⟨some 12, .mki 56 (.t 11), none⟩,
      ⟨some 2, .mov (.t 12), none⟩] none) (
    .ret)) (
    .seq (
    .region [⟨some 14, .bin .eql (.t 4) (.c (.int .i64 3)), none⟩,
      ⟨some 13, .mov (.t 14), none⟩] none) (
    .cond (.t 13) (
     .seq (
     .region [⟨some 15, .build [] [], none⟩,
       ⟨some 16, .mki 57 (.t 15), none⟩,
       ⟨some 2, .mov (.t 16), none⟩] none) (
     .ret)) (
     .seq (
     .region [⟨some 18, .bin .eql (.t 4) (.c (.int .i64 4)), none⟩,
       ⟨some 17, .mov (.t 18), none⟩] none) (
     .cond (.t 17) (
      .seq (
      .region [⟨some 19, .faddr 3 (.t 1), none⟩,
        ⟨some 20, .load false 1 [.int .i64] (.t 19), none⟩,
        ⟨some 21, .build [.int .i64 0] [(0, 1, (.t 20))], none⟩,
        ⟨some 22, .mki 51 (.t 21), none⟩,
        ⟨some 2, .mov (.t 22), none⟩] none) (
      .ret)) (
      .skip))))))))))) (
 .seq (
 .region [⟨some 23, .build [] [], none⟩,
   ⟨some 24, .mki 58 (.t 23), none⟩,
   ⟨some 2, .mov (.t 24), none⟩] none) (
 .ret)))⟩
def K37 : List (List Nat) := []
def Hn37 : List (Nat × Nat) := []

/-- corebank/blocking.denies -/
def F36 : Fun := ⟨2, 20, [(4, none)],
 .seq (
 .region [⟨some 2, .box 7 (.t 0), none⟩,
   ⟨some 4, .mov (.c (.bool false)), none⟩] none) (
 .seq (
 .seq (
 .region [⟨some 5, .load true 7 [.int .i64, .int .i64, .int .i64, .int .i64, .int .i64, .int .i64, .str] (.t 2), none⟩,
   ⟨some 6, .call 37 [.t 5], none⟩] none) (
 .block 0 (
  .seq (
  .region [⟨some 7, .tass 55 (.agg []) true (.t 6), none⟩,
    ⟨some 8, .ext (.t 7) 1, none⟩,
    ⟨some 9, .ext (.t 7) 0, none⟩] none) (
  .cond (.t 8) (
   .seq (
   .region [⟨some 4, .mov (.c (.bool true)), none⟩] none) (
   .ret)) (
   .seq (
   .region [⟨some 10, .tass 56 (.agg []) true (.t 6), none⟩,
     ⟨some 11, .ext (.t 10) 1, none⟩,
     ⟨some 12, .ext (.t 10) 0, none⟩] none) (
   .cond (.t 11) (
    .seq (
    .region [⟨some 13, .mov (.t 1), none⟩,
      ⟨some 14, .bin .gtr (.t 13) (.c (.int .i64 0)), none⟩,
      ⟨some 4, .mov (.t 14), none⟩] none) (
    .ret)) (
    .seq (
    .region [⟨some 15, .tass 57 (.agg []) true (.t 6), none⟩,
      ⟨some 16, .ext (.t 15) 1, none⟩,
      ⟨some 17, .ext (.t 15) 0, none⟩] none) (
    .cond (.t 16) (
     .seq (
     .region [⟨some 18, .mov (.t 1), none⟩,
       ⟨some 19, .bin .lss (.t 18) (.c (.int .i64 0)), none⟩,
       ⟨some 4, .mov (.t 19), none⟩] none) (
     .ret)) (
     .skip))))))))) (
 .seq (
 .region [⟨some 4, .mov (.c (.bool false)), none⟩] none) (
 .ret)))⟩
def K36 : List (List Nat) := []
def Hn36 : List (Nat × Nat) := []

def hintF : List (Nat × Nat) → Nat → Nat
  | [], _ => 0
  | (i, n) :: l, d => if d = i then n else hintF l d

def tab : List (Nat × Fun) := [(3, F3), (4, F4), (5, F5), (6, F6), (7, F7), (8, F8), (9, F9), (10, F10), (11, F11), (12, F12), (13, F13), (14, F14), (15, F15), (16, F16), (17, F17), (18, F18), (19, F19), (20, F20), (21, F21), (22, F22), (23, F23), (24, F24), (25, F25), (26, F26), (27, F27), (28, F28), (31, F31), (30, F30), (32, F32), (33, F33), (35, F35), (34, F34), (37, F37), (36, F36)]

def lookF : List (Nat × Fun) → Nat → Option Fun
  | [], _ => none
  | (i, F) :: l, f => if f = i then some F else lookF l f

end Go.Proofs.H23

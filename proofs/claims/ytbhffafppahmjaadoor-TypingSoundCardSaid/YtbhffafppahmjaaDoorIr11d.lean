/- The intermediate code of the functions reached. Printed by a program of mine. -/
import Derived.Test.YtbhffafppahmjaaDoorE4
set_option linter.unusedVariables false
set_option linter.unusedSimpArgs false
set_option linter.unnecessarySimpa false
namespace Go.Proofs.H11d
open Go Go.Eng
abbrev zi (d : Nat) (o : IOp) : IOper := ⟨some d, o, none⟩
abbrev zj (d e : Nat) : IOper := ⟨some d, .mov (.t e), none⟩
def F3 : Fun := ⟨2, 36, [(4, none)],
 .seq (
 .region [zi 4 (.mov (.c (.bool false)))] none) (
 .seq (
 .seq (
 .region [zj 9 1,
 zi 10 (.len .l (.t 9)),
 zi 11 (.bin .gtr (.t 10) (.c (.int .i64 100)))] none) (
 .cond (.t 11) (
 .seq (
 .region [zi 12 (.call 5 []),
 zj 4 12] none) (
 .ret)) (
 .skip))) (
 .seq (
 .region [zj 14 0,
 zj 15 1,
 zi 16 (.call 6 [.t 14, .t 15]),
 zj 13 16,
 zi 17 (.ext (.t 13) 0),
 zi 18 (.ext (.t 13) 1),
 zj 5 17,
 zj 6 18] none) (
 .seq (
 .region [zj 20 0,
 zj 21 1,
 zi 22 (.call 7 [.t 20, .t 21]),
 zj 19 22,
 zi 23 (.ext (.t 19) 0),
 zi 24 (.ext (.t 19) 1),
 zj 7 23,
 zj 8 24] none) (
 .seq (
 .region [zj 25 5,
 zj 26 7,
 zi 27 (.bin .eql (.t 25) (.t 26)),
 zj 28 27,
 ⟨some 29, .mov (.t 6), some (28, true)⟩,
 ⟨some 30, .mov (.t 8), some (28, true)⟩,
 ⟨some 31, .eqs (false, [.b]) false (.t 29) (.t 30), some (28, true)⟩,
 zi 32 (.pick (.t 28) (.t 31) (.c (.bool false))),
 zj 33 32,
 ⟨some 34, .call 5 [], some (33, true)⟩,
 zi 35 (.pick (.t 33) (.t 34) (.c (.bool false))),
 zj 4 35] none) (
 .ret)))))⟩
def K3 : List (List Nat) := []
def Hn3 : List (Nat × Nat) := []
def F4 : Fun := ⟨3, 53, [(6, none)],
 .seq (
 .region [zi 3 (.box 4 (.t 0)),
 zi 6 (.mov (.c (.bool false)))] none) (
 .seq (
 .seq (
 .region [zi 11 (.load true 4 [.int .i64, .int .i64, .str, .slice 4] (.t 3)),
 zi 12 (.call 8 [.t 11, .c (.int .i64 200)]),
 zj 13 12,
 ⟨some 14, .mov (.t 1), some (13, false)⟩,
 ⟨some 15, .call 9 [.t 14], some (13, false)⟩,
 ⟨some 16, .un .not (.t 15), some (13, false)⟩,
 zi 17 (.pick (.t 13) (.c (.bool true)) (.t 16))] none) (
 .cond (.t 17) (
 .seq (
 .region [zi 18 (.call 5 []),
 zj 6 18] none) (
 .ret)) (
 .skip))) (
 .seq (
 .region [zi 20 (.load true 4 [.int .i64, .int .i64, .str, .slice 4] (.t 3)),
 zj 21 1,
 zi 22 (.call 10 [.t 20, .t 21]),
 zj 19 22,
 zi 23 (.ext (.t 19) 0),
 zi 24 (.ext (.t 19) 1),
 zj 7 23,
 zj 8 24] none) (
 .seq (
 .region [zi 26 (.load true 4 [.int .i64, .int .i64, .str, .slice 4] (.t 3)),
 zj 27 1,
 zj 28 2,
 zi 29 (.conv .i64 (.t 28)),
 zi 30 (.call 11 [.t 26, .t 27, .t 29]),
 zj 31 1,
 zi 32 (.call 10 [.t 30, .t 31]),
 zj 25 32,
 zi 33 (.ext (.t 25) 0),
 zi 34 (.ext (.t 25) 1),
 zj 9 33,
 zj 10 34] none) (
 .seq (
 .region [zj 35 8,
 zi 36 (.bin .neq (.t 35) (.c (.int .i64 0))),
 zj 37 36,
 ⟨some 38, .mov (.t 7), some (37, false)⟩,
 ⟨some 39, .call 12 [.t 38], some (37, false)⟩,
 ⟨some 40, .mov (.t 39), some (37, false)⟩,
 ⟨some 41, .mov (.t 9), some (40, true)⟩,
 ⟨some 42, .mov (.t 7), some (40, true)⟩,
 ⟨some 43, .bin .eql (.t 41) (.t 42), some (40, true)⟩,
 ⟨some 44, .pick (.t 40) (.t 43) (.c (.bool false)), some (37, false)⟩,
 ⟨some 45, .mov (.t 44), some (37, false)⟩,
 ⟨some 46, .mov (.t 10), some (45, true)⟩,
 ⟨some 47, .bin .eql (.t 46) (.c (.int .i64 0)), some (45, true)⟩,
 ⟨some 48, .pick (.t 45) (.t 47) (.c (.bool false)), some (37, false)⟩,
 zi 49 (.pick (.t 37) (.c (.bool true)) (.t 48)),
 zj 50 49,
 ⟨some 51, .call 5 [], some (50, true)⟩,
 zi 52 (.pick (.t 50) (.t 51) (.c (.bool false))),
 zj 6 52] none) (
 .ret)))))⟩
def K4 : List (List Nat) := []
def Hn4 : List (Nat × Nat) := []
def F5 : Fun := ⟨0, 105, [(0, none)],
 .seq (
 .region [zi 0 (.mov (.c (.bool false)))] none) (
 .seq (
 .region [zi 16 (.build [.int .i64 0, .int .i64 0, .str [], .nils 4] [(0, 1, (.c (.int .i64 1))), (1, 1, (.c (.int .i64 1)))]),
 zi 17 (.build [.int .i64 0, .int .i64 0, .str [], .nils 4] [(0, 1, (.c (.int .i64 2))), (1, 1, (.c (.int .i64 1)))]),
 zi 1 (.alloc (.agg [.int .i64 0, .int .i64 0, .str [], .nils 4])),
 zi 2 (.alloc (.agg [.int .i64 0, .int .i64 0, .str [], .nils 4])),
 ⟨none, .store 4 (.t 1) (.t 16), none⟩,
 ⟨none, .store 4 (.t 2) (.t 17), none⟩] none) (
 .seq (
 .region [zi 18 (.build [.int .i64 0, .int .i64 0, .str [], .nils 4] [(0, 1, (.c (.int .i64 4))), (2, 1, (.c (.str [120])))]),
 zi 3 (.alloc (.agg [.int .i64 0, .int .i64 0, .str [], .nils 4])),
 ⟨none, .store 4 (.t 3) (.t 18), none⟩] none) (
 .seq (
 .region [zi 20 (.bslice 1 (.int .i64 0) 2 [(0, (.c (.int .i64 2))), (1, (.c (.int .i64 3)))]),
 zi 21 (.call 6 [.c (.int .i64 7), .t 20]),
 zj 19 21,
 zi 22 (.ext (.t 19) 0),
 zi 23 (.ext (.t 19) 1),
 zj 4 22,
 zj 5 23] none) (
 .seq (
 .region [zi 25 (.bslice 1 (.int .i64 0) 2 [(0, (.c (.int .i64 2))), (1, (.c (.int .i64 2)))]),
 zi 26 (.call 6 [.c (.int .i64 7), .t 25]),
 zj 24 26,
 zi 27 (.ext (.t 24) 0),
 zi 28 (.ext (.t 24) 1),
 zj 6 27,
 zj 7 28] none) (
 .seq (
 .region [zi 30 (.bslice 1 (.int .i64 0) 2 [(0, (.c (.int .i64 4))), (1, (.c (.int .i64 4)))]),
 zi 31 (.call 6 [.c (.int .i64 6), .t 30]),
 zj 29 31,
 zi 32 (.ext (.t 29) 0),
 zi 33 (.ext (.t 29) 1),
 zj 8 32,
 zj 9 33] none) (
 .seq (
 .region [zi 35 (.load true 4 [.int .i64, .int .i64, .str, .slice 4] (.t 3)),
 zi 36 (.load true 4 [.int .i64, .int .i64, .str, .slice 4] (.t 2)),
 zi 37 (.bslice 4 (.agg [.int .i64 0, .int .i64 0, .str [], .nils 4]) 2 [(0, (.t 35)), (1, (.t 36))]),
 zi 38 (.build [.int .i64 0, .int .i64 0, .str [], .nils 4] [(0, 1, (.c (.int .i64 5))), (3, 1, (.t 37))]),
 zi 39 (.load true 4 [.int .i64, .int .i64, .str, .slice 4] (.t 1)),
 zi 40 (.bslice 4 (.agg [.int .i64 0, .int .i64 0, .str [], .nils 4]) 2 [(0, (.t 38)), (1, (.t 39))]),
 zi 41 (.build [.int .i64 0, .int .i64 0, .str [], .nils 4] [(0, 1, (.c (.int .i64 5))), (3, 1, (.t 40))]),
 zi 42 (.call 10 [.t 41, .c (.nils 2)]),
 zj 34 42,
 zi 43 (.ext (.t 34) 0),
 zi 44 (.ext (.t 34) 1),
 zj 10 43,
 zj 11 44] none) (
 .seq (
 .region [zi 46 (.load true 4 [.int .i64, .int .i64, .str, .slice 4] (.t 1)),
 zi 47 (.load true 4 [.int .i64, .int .i64, .str, .slice 4] (.t 2)),
 zi 48 (.bslice 4 (.agg [.int .i64 0, .int .i64 0, .str [], .nils 4]) 2 [(0, (.t 46)), (1, (.t 47))]),
 zi 49 (.build [.int .i64 0, .int .i64 0, .str [], .nils 4] [(0, 1, (.c (.int .i64 5))), (3, 1, (.t 48))]),
 zi 50 (.load true 4 [.int .i64, .int .i64, .str, .slice 4] (.t 3)),
 zi 51 (.bslice 4 (.agg [.int .i64 0, .int .i64 0, .str [], .nils 4]) 2 [(0, (.t 49)), (1, (.t 50))]),
 zi 52 (.build [.int .i64 0, .int .i64 0, .str [], .nils 4] [(0, 1, (.c (.int .i64 5))), (3, 1, (.t 51))]),
 zi 53 (.call 10 [.t 52, .c (.nils 2)]),
 zj 45 53,
 zi 54 (.ext (.t 45) 0),
 zi 55 (.ext (.t 45) 1),
 zj 12 54,
 zj 13 55] none) (
 .seq (
 .region [zi 57 (.load true 4 [.int .i64, .int .i64, .str, .slice 4] (.t 3)),
 zi 58 (.load true 4 [.int .i64, .int .i64, .str, .slice 4] (.t 1)),
 zi 59 (.bslice 4 (.agg [.int .i64 0, .int .i64 0, .str [], .nils 4]) 2 [(0, (.t 57)), (1, (.t 58))]),
 zi 60 (.build [.int .i64 0, .int .i64 0, .str [], .nils 4] [(0, 1, (.c (.int .i64 12))), (3, 1, (.t 59))]),
 zi 61 (.build [.str [], .int .i64 0] [(0, 1, (.c (.str [120]))), (1, 1, (.c (.int .i64 1)))]),
 zi 62 (.bslice 2 (.agg [.str [], .int .i64 0]) 1 [(0, (.t 61))]),
 zi 63 (.call 10 [.t 60, .t 62]),
 zj 56 63,
 zi 64 (.ext (.t 56) 0),
 zi 65 (.ext (.t 56) 1),
 zj 14 64,
 zj 15 65] none) (
 .seq (
 .region [zj 66 4,
 zi 67 (.bin .eql (.t 66) (.c (.int .i64 2))),
 zj 68 67,
 ⟨some 69, .mov (.t 5), some (68, true)⟩,
 zi 70 (.pick (.t 68) (.t 69) (.c (.bool false))),
 zj 71 70,
 ⟨some 72, .mov (.t 7), some (71, true)⟩,
 ⟨some 73, .un .not (.t 72), some (71, true)⟩,
 zi 74 (.pick (.t 71) (.t 73) (.c (.bool false))),
 zj 75 74,
 ⟨some 76, .mov (.t 8), some (75, true)⟩,
 ⟨some 77, .bin .eql (.t 76) (.c (.int .i64 1)), some (75, true)⟩,
 zi 78 (.pick (.t 75) (.t 77) (.c (.bool false))),
 zj 79 78,
 ⟨some 80, .mov (.t 9), some (79, true)⟩,
 zi 81 (.pick (.t 79) (.t 80) (.c (.bool false))),
 zj 82 81,
 ⟨some 83, .mov (.t 11), some (82, true)⟩,
 ⟨some 84, .bin .eql (.t 83) (.c (.int .i64 4)), some (82, true)⟩,
 zi 85 (.pick (.t 82) (.t 84) (.c (.bool false))),
 zj 86 85,
 ⟨some 87, .mov (.t 13), some (86, true)⟩,
 ⟨some 88, .bin .eql (.t 87) (.c (.int .i64 3)), some (86, true)⟩,
 zi 89 (.pick (.t 86) (.t 88) (.c (.bool false))),
 zj 90 89,
 ⟨some 91, .mov (.t 14), some (90, true)⟩,
 ⟨some 92, .bin .eql (.t 91) (.c (.int .i64 5)), some (90, true)⟩,
 zi 93 (.pick (.t 90) (.t 92) (.c (.bool false))),
 zj 94 93,
 ⟨some 95, .mov (.t 15), some (94, true)⟩,
 ⟨some 96, .bin .eql (.t 95) (.c (.int .i64 0)), some (94, true)⟩,
 zi 97 (.pick (.t 94) (.t 96) (.c (.bool false))),
 zj 98 97,
 ⟨some 99, .build [.str [], .int .i64 0] [(0, 1, (.c (.str [120]))), (1, 1, (.c (.int .i64 1)))], some (98, true)⟩,
 ⟨some 100, .build [.str [], .int .i64 0] [(0, 1, (.c (.str [120]))), (1, 1, (.c (.int .i64 1)))], some (98, true)⟩,
 ⟨some 101, .bslice 2 (.agg [.str [], .int .i64 0]) 2 [(0, (.t 99)), (1, (.t 100))], some (98, true)⟩,
 ⟨some 102, .call 13 [.t 101], some (98, true)⟩,
 ⟨some 103, .bin .eql (.t 102) (.c (.int .i64 12)), some (98, true)⟩,
 zi 104 (.pick (.t 98) (.t 103) (.c (.bool false))),
 zj 0 104] none) (
 .ret))))))))))⟩
def K5 : List (List Nat) := []
def Hn5 : List (Nat × Nat) := []
def F6 : Fun := ⟨2, 70, [(4, none), (5, none)],
 .seq (
 .region [zi 4 (.mov (.c (.int .i64 0))),
 zi 5 (.mov (.c (.bool false)))] none) (
 .seq (
 .seq (
 .region [zj 10 1,
 zi 11 (.len .l (.t 10)),
 zi 12 (.mov (.c (.int .i64 0)))] none) (
 .block 0 (
 .loop [1000600, 0, 1, 10, 11, 12, 2000000, 0, 1, 4, 5] (
 .seq (
 .region [zi 13 (.bin .lss (.t 12) (.t 11))] none) (
 .seq (
 .cond (.t 13) (
 .skip) (
 .exit 0)) (
 .seq (
 .block 1 (
 .seq (
 .region [zi 14 (.iaddr 1 [.int .i64] (.t 10) (.t 12)),
 zi 15 (.load false 1 [.int .i64] (.t 14)),
 zj 7 15] none) (
 .seq (
 .region [zj 16 7,
 zi 17 (.call 14 [.t 16]),
 zi 18 (.un .not (.t 17))] none) (
 .cond (.t 18) (
 .seq (
 .region [zi 4 (.mov (.c (.int .i64 0))),
 zi 5 (.mov (.c (.bool false)))] none) (
 .ret)) (
 .skip))))) (
 .region [zi 19 (.bin .add (.t 12) (.c (.int .i64 1))),
 zj 12 19] none))))))) (
 .seq (
 .region [zi 8 (.mov (.c (.int .i64 0))),
 zi 9 (.mov (.c (.bool false)))] none) (
 .seq (
 .seq (
 .region [zj 20 1,
 zi 21 (.len .l (.t 20))] none) (
 .block 2 (
 .seq (
 .region [zi 23 (.bin .eql (.t 21) (.c (.int .i64 1))),
 zj 22 23] none) (
 .cond (.t 22) (
 .region [zj 25 0,
 zj 26 1,
 zi 27 (.iaddr 1 [.int .i64] (.t 26) (.c (.int .i64 0))),
 zi 28 (.load false 1 [.int .i64] (.t 27)),
 zi 29 (.call 15 [.t 25, .t 28]),
 zj 24 29,
 zi 30 (.ext (.t 24) 0),
 zi 31 (.ext (.t 24) 1),
 zj 8 30,
 zj 9 31] none) (
 .seq (
 .region [zi 33 (.bin .eql (.t 21) (.c (.int .i64 2))),
 zj 32 33] none) (
 .cond (.t 32) (
 .region [zj 35 0,
 zj 36 1,
 zi 37 (.iaddr 1 [.int .i64] (.t 36) (.c (.int .i64 0))),
 zi 38 (.load false 1 [.int .i64] (.t 37)),
 zj 39 1,
 zi 40 (.iaddr 1 [.int .i64] (.t 39) (.c (.int .i64 1))),
 zi 41 (.load false 1 [.int .i64] (.t 40)),
 zi 42 (.call 16 [.t 35, .t 38, .t 41]),
 zj 34 42,
 zi 43 (.ext (.t 34) 0),
 zi 44 (.ext (.t 34) 1),
 zj 8 43,
 zj 9 44] (some [[], [], [1], [2, 1], [], [4], [5, 4], [0, 3, 2, 1, 6, 5, 4], [7, 0, 3, 2, 1, 6, 5, 4], [8, 7, 0, 3, 2, 1, 6, 5, 4], [8, 7, 0, 3, 2, 1, 6, 5, 4], [9, 8, 7, 0, 3, 2, 1, 6, 5, 4], [10, 11, 9, 8, 7, 0, 3, 2, 1, 6, 5, 4]])) (
 .seq (
 .region [zi 46 (.bin .eql (.t 21) (.c (.int .i64 3))),
 zj 45 46] none) (
 .cond (.t 45) (
 .region [zj 47 1,
 zi 48 (.iaddr 1 [.int .i64] (.t 47) (.c (.int .i64 1))),
 zi 49 (.load false 1 [.int .i64] (.t 48)),
 zj 50 0,
 zi 51 (.bin .eql (.t 50) (.c (.int .i64 19))),
 zj 52 51,
 ⟨some 53, .mov (.t 1), some (52, true)⟩,
 ⟨some 54, .iaddr 1 [.int .i64] (.t 53) (.c (.int .i64 0)), some (52, true)⟩,
 ⟨some 55, .load false 1 [.int .i64] (.t 54), some (52, true)⟩,
 ⟨some 56, .bin .eql (.t 55) (.c (.int .i64 5)), some (52, true)⟩,
 zi 57 (.pick (.t 52) (.t 56) (.c (.bool false))),
 zj 58 57,
 ⟨some 59, .mov (.t 1), some (58, true)⟩,
 ⟨some 60, .iaddr 1 [.int .i64] (.t 59) (.c (.int .i64 1)), some (58, true)⟩,
 ⟨some 61, .load false 1 [.int .i64] (.t 60), some (58, true)⟩,
 ⟨some 62, .mov (.t 1), some (58, true)⟩,
 ⟨some 63, .iaddr 1 [.int .i64] (.t 62) (.c (.int .i64 2)), some (58, true)⟩,
 ⟨some 64, .load false 1 [.int .i64] (.t 63), some (58, true)⟩,
 ⟨some 65, .bin .eql (.t 61) (.t 64), some (58, true)⟩,
 zi 66 (.pick (.t 58) (.t 65) (.c (.bool false))),
 zj 8 49,
 zj 9 66] (some [[], [0], [1, 0], [], [3], [4, 3], [5, 4, 3], [6, 5, 4, 3], [7, 6, 5, 4, 3], [8, 7, 6, 5, 4, 3], [9, 8, 7, 6, 5, 4, 3], [10, 9, 8, 7, 6, 5, 4, 3], [11, 10, 9, 8, 7, 6, 5, 4, 3], [12, 11, 10, 9, 8, 7, 6, 5, 4, 3], [13, 12, 11, 10, 9, 8, 7, 6, 5, 4, 3], [11, 10, 9, 8, 7, 6, 5, 4, 3], [15, 11, 10, 9, 8, 7, 6, 5, 4, 3], [16, 15, 11, 10, 9, 8, 7, 6, 5, 4, 3], [14, 13, 12, 17, 16, 15, 11, 10, 9, 8, 7, 6, 5, 4, 3], [18, 14, 13, 12, 17, 16, 15, 11, 10, 9, 8, 7, 6, 5, 4, 3], [11, 10, 9, 8, 7, 6, 5, 4, 3, 2, 1, 0], [19, 18, 14, 13, 12, 17, 16, 15, 20, 11, 10, 9, 8, 7, 6, 5, 4, 3, 2, 1, 0]])) (
 .skip))))))))) (
 .seq (
 .seq (
 .region [zj 67 9,
 zi 68 (.un .not (.t 67))] none) (
 .cond (.t 68) (
 .seq (
 .region [zi 4 (.mov (.c (.int .i64 0))),
 zi 5 (.mov (.c (.bool false)))] none) (
 .ret)) (
 .skip))) (
 .seq (
 .region [zj 69 8,
 zj 4 69,
 zi 5 (.mov (.c (.bool true)))] none) (
 .ret))))))⟩
def K6 : List (List Nat) := [[1000600, 0, 1, 10, 11, 12, 2000000, 0, 1, 4, 5]]
def Hn6 : List (Nat × Nat) := []
def F7 : Fun := ⟨2, 33, [(4, none), (5, none)],
 .seq (
 .region [zi 4 (.mov (.c (.int .i64 0))),
 zi 5 (.mov (.c (.bool false)))] none) (
 .seq (
 .seq (
 .region [zj 9 1,
 zi 10 (.len .l (.t 9)),
 zi 11 (.bin .gtr (.t 10) (.c (.int .i64 3)))] none) (
 .cond (.t 11) (
 .seq (
 .region [zi 4 (.mov (.c (.int .i64 0))),
 zi 5 (.mov (.c (.bool false)))] none) (
 .ret)) (
 .skip))) (
 .seq (
 .seq (
 .region [zi 6 (.mov (.c (.int .i64 0)))] none) (
 .block 0 (
 .loop [1000700, 0, 1, 6, 2000000, 0, 1, 4, 5] (
 .seq (
 .seq (
 .region [zj 12 6,
 zj 13 1,
 zi 14 (.len .l (.t 13)),
 zi 15 (.bin .lss (.t 12) (.t 14))] none) (
 .cond (.t 15) (
 .skip) (
 .exit 0))) (
 .seq (
 .block 1 (
 .seq (
 .region [zj 18 1,
 zj 19 6,
 zi 20 (.iaddr 1 [.int .i64] (.t 18) (.t 19)),
 zi 21 (.load false 1 [.int .i64] (.t 20)),
 zi 22 (.call 12 [.t 21]),
 zi 23 (.un .not (.t 22))] none) (
 .cond (.t 23) (
 .seq (
 .region [zi 4 (.mov (.c (.int .i64 0))),
 zi 5 (.mov (.c (.bool false)))] none) (
 .ret)) (
 .skip)))) (
 .region [zj 16 6,
 zi 17 (.bin .add (.t 16) (.c (.int .i64 1))),
 zj 6 17] none)))))) (
 .seq (
 .region [zj 25 0,
 zj 26 1,
 zi 27 (.call 17 [.t 25, .t 26]),
 zj 24 27,
 zi 28 (.ext (.t 24) 0),
 zi 29 (.ext (.t 24) 1),
 zj 7 28,
 zj 8 29] none) (
 .seq (
 .seq (
 .region [zj 30 8,
 zi 31 (.un .not (.t 30))] none) (
 .cond (.t 31) (
 .seq (
 .region [zi 4 (.mov (.c (.int .i64 0))),
 zi 5 (.mov (.c (.bool false)))] none) (
 .ret)) (
 .skip))) (
 .seq (
 .region [zj 32 7,
 zj 4 32,
 zi 5 (.mov (.c (.bool true)))] none) (
 .ret))))))⟩
def K7 : List (List Nat) := [[1000700, 0, 1, 6, 2000000, 0, 1, 4, 5]]
def Hn7 : List (Nat × Nat) := []
def F8 : Fun := ⟨2, 10, [(4, none)],
 .seq (
 .region [zi 2 (.box 4 (.t 0)),
 zi 4 (.mov (.c (.bool false)))] none) (
 .seq (
 .region [zi 5 (.load true 4 [.int .i64, .int .i64, .str, .slice 4] (.t 2)),
 zj 6 1,
 zi 7 (.call 18 [.t 5, .t 6]),
 zj 8 1,
 zi 9 (.bin .gtr (.t 7) (.t 8)),
 zj 4 9] none) (
 .ret))⟩
def K8 : List (List Nat) := []
def Hn8 : List (Nat × Nat) := []
def F9 : Fun := ⟨1, 24, [(2, none)],
 .seq (
 .region [zi 2 (.mov (.c (.bool false)))] none) (
 .seq (
 .seq (
 .region [zi 3 (.mov (.c (.int .i64 0)))] none) (
 .block 0 (
 .loop [1000900, 0, 3, 2000000, 0, 2] (
 .seq (
 .seq (
 .region [zj 4 3,
 zj 5 0,
 zi 6 (.len .l (.t 5)),
 zi 7 (.bin .lss (.t 4) (.t 6)),
 zj 8 7,
 ⟨some 9, .mov (.t 3), some (8, true)⟩,
 ⟨some 10, .bin .lss (.t 9) (.c (.int .i64 101)), some (8, true)⟩,
 zi 11 (.pick (.t 8) (.t 10) (.c (.bool false)))] none) (
 .cond (.t 11) (
 .skip) (
 .exit 0))) (
 .seq (
 .block 1 (
 .seq (
 .region [zj 14 0,
 zj 15 3,
 zi 16 (.iaddr 2 [.str, .int .i64] (.t 14) (.t 15)),
 zi 17 (.faddr 0 (.t 16)),
 zi 18 (.load false 1 [.str] (.t 17)),
 zi 19 (.len .s (.t 18)),
 zi 20 (.bin .gtr (.t 19) (.c (.int .i64 100)))] none) (
 .cond (.t 20) (
 .seq (
 .region [zi 2 (.mov (.c (.bool false)))] none) (
 .ret)) (
 .skip)))) (
 .region [zj 12 3,
 zi 13 (.bin .add (.t 12) (.c (.int .i64 1))),
 zj 3 13] none)))))) (
 .seq (
 .region [zj 21 0,
 zi 22 (.len .l (.t 21)),
 zi 23 (.bin .leq (.t 22) (.c (.int .i64 100))),
 zj 2 23] none) (
 .ret)))⟩
def K9 : List (List Nat) := [[1000900, 0, 3, 2000000, 0, 2]]
def Hn9 : List (Nat × Nat) := []
def F10 : Fun := ⟨2, 17, [(4, none), (5, none)],
 .seq (
 .region [zi 2 (.box 4 (.t 0)),
 zi 4 (.mov (.c (.int .i64 0))),
 zi 5 (.mov (.c (.int .i64 0)))] none) (
 .seq (
 .seq (
 .region [zi 7 (.load true 4 [.int .i64, .int .i64, .str, .slice 4] (.t 2)),
 zi 8 (.call 19 [.t 7]),
 zj 6 8] none) (
 .seq (
 .region [zj 9 6,
 zi 10 (.bin .neq (.t 9) (.c (.int .i64 0)))] none) (
 .cond (.t 10) (
 .seq (
 .region [zj 11 6,
 zi 4 (.mov (.c (.int .i64 0))),
 zj 5 11] none) (
 .ret)) (
 .skip)))) (
 .seq (
 .region [zi 12 (.load true 4 [.int .i64, .int .i64, .str, .slice 4] (.t 2)),
 zj 13 1,
 zi 14 (.call 20 [.t 12, .t 13]),
 zi 15 (.ext (.t 14) 0),
 zi 16 (.ext (.t 14) 1),
 zj 4 15,
 zj 5 16] none) (
 .ret)))⟩
def K10 : List (List Nat) := []
def Hn10 : List (Nat × Nat) := []
def F11 : Fun := ⟨3, 74, [(6, some (true, 4))],
 .seq (
 .region [zi 3 (.box 4 (.t 0)),
 zi 6 (.alloc (.agg [.int .i64 0, .int .i64 0, .str [], .nils 4]))] none) (
 .seq (
 .seq (
 .region [zi 10 (.faddr 0 (.t 3)),
 zi 11 (.load false 1 [.int .i64] (.t 10)),
 zi 12 (.bin .neq (.t 11) (.c (.int .i64 4)))] none) (
 .cond (.t 12) (
 .seq (
 .region [zi 13 (.faddr 0 (.t 3)),
 zi 14 (.load false 1 [.int .i64] (.t 13)),
 zi 15 (.faddr 1 (.t 3)),
 zi 16 (.load false 1 [.int .i64] (.t 15)),
 zi 17 (.faddr 2 (.t 3)),
 zi 18 (.load false 1 [.str] (.t 17)),
 zi 19 (.build [.int .i64 0, .int .i64 0, .str [], .nils 4] [(0, 1, (.t 14)), (1, 1, (.t 16)), (2, 1, (.t 18))]),
 zi 7 (.alloc (.agg [.int .i64 0, .int .i64 0, .str [], .nils 4])),
 ⟨none, .store 4 (.t 7) (.t 19), none⟩] none) (
 .seq (
 .seq (
 .region [zi 8 (.mov (.c (.int .i64 0)))] none) (
 .block 0 (
 .loop [1001100, 1, 2, 3, 6, 7, 8, 2000000, 6, 7] (
 .seq (
 .seq (
 .region [zj 20 8,
 zi 21 (.faddr 3 (.t 3)),
 zi 22 (.load false 1 [.slice 4] (.t 21)),
 zi 23 (.len .l (.t 22)),
 zi 24 (.bin .lss (.t 20) (.t 23))] none) (
 .cond (.t 24) (
 .skip) (
 .exit 0))) (
 .seq (
 .block 1 (
 .region [zi 27 (.faddr 3 (.t 7)),
 zi 28 (.load false 1 [.slice 4] (.t 27)),
 zi 29 (.faddr 3 (.t 3)),
 zi 30 (.load false 1 [.slice 4] (.t 29)),
 zj 31 8,
 zi 32 (.iaddr 4 [.int .i64, .int .i64, .str, .slice 4] (.t 30) (.t 31)),
 zi 33 (.load true 4 [.int .i64, .int .i64, .str, .slice 4] (.t 32)),
 zj 34 1,
 zj 35 2,
 zi 36 (.call 11 [.t 33, .t 34, .t 35]),
 zi 37 (.bslice 4 (.agg [.int .i64 0, .int .i64 0, .str [], .nils 4]) 1 [(0, (.t 36))]),
 zi 38 (.app 4 56 (.t 28) (.t 37)),
 zi 39 (.faddr 3 (.t 7)),
 ⟨none, .store 1 (.t 39) (.t 38), none⟩] (some [[], [0], [], [2], [], [3, 2, 4], [5, 3, 2, 4], [], [], [6, 5, 3, 2, 4, 7, 8], [9, 6, 5, 3, 2, 4, 7, 8], [1, 0, 10, 9, 6, 5, 3, 2, 4, 7, 8], [11, 1, 0, 10, 9, 6, 5, 3, 2, 4, 7, 8], [12, 11, 1, 0, 10, 9, 6, 5, 3, 2, 4, 7, 8]]))) (
 .region [zj 25 8,
 zi 26 (.bin .add (.t 25) (.c (.int .i64 1))),
 zj 8 26] none)))))) (
 .seq (
 .region [zi 40 (.load true 4 [.int .i64, .int .i64, .str, .slice 4] (.t 7)),
 ⟨none, .store 4 (.t 6) (.t 40), none⟩] none) (
 .ret)))) (
 .skip))) (
 .seq (
 .seq (
 .region [zi 9 (.mov (.c (.int .i64 0)))] none) (
 .block 2 (
 .loop [1001101, 1, 2, 3, 6, 9, 2000000, 3, 6] (
 .seq (
 .seq (
 .region [zj 41 9,
 zj 42 1,
 zi 43 (.len .l (.t 42)),
 zi 44 (.bin .lss (.t 41) (.t 43))] none) (
 .cond (.t 44) (
 .skip) (
 .exit 2))) (
 .seq (
 .block 3 (
 .seq (
 .seq (
 .region [zj 47 1,
 zj 48 9,
 zi 49 (.iaddr 2 [.str, .int .i64] (.t 47) (.t 48)),
 zi 50 (.faddr 0 (.t 49)),
 zi 51 (.load false 1 [.str] (.t 50)),
 zi 52 (.faddr 2 (.t 3)),
 zi 53 (.load false 1 [.str] (.t 52)),
 zi 54 (.bin .neq (.t 51) (.t 53))] (some [[], [], [0, 1], [2, 0, 1], [3, 2, 0, 1], [], [5], [4, 3, 2, 0, 1, 6, 5]])) (
 .cond (.t 54) (
 .exit 3) (
 .skip))) (
 .seq (
 .seq (
 .region [zj 55 1,
 zj 56 9,
 zi 57 (.iaddr 2 [.str, .int .i64] (.t 55) (.t 56)),
 zi 58 (.faddr 1 (.t 57)),
 zi 59 (.load false 1 [.int .i64] (.t 58))] none) (
 .block 4 (
 .seq (
 .region [zi 61 (.bin .eql (.t 59) (.c (.int .i64 1))),
 zj 60 61] none) (
 .cond (.t 60) (
 .seq (
 .region [zj 62 2,
 zi 63 (.build [.int .i64 0, .int .i64 0, .str [], .nils 4] [(0, 1, (.c (.int .i64 1))), (1, 1, (.t 62))]),
 ⟨none, .store 4 (.t 6) (.t 63), none⟩] none) (
 .ret)) (
 .seq (
 .region [zi 65 (.bin .eql (.t 59) (.c (.int .i64 2))),
 zj 64 65] none) (
 .cond (.t 64) (
 .seq (
 .region [zj 66 2,
 zi 67 (.build [.int .i64 0, .int .i64 0, .str [], .nils 4] [(0, 1, (.c (.int .i64 2))), (1, 1, (.t 66))]),
 ⟨none, .store 4 (.t 6) (.t 67), none⟩] none) (
 .ret)) (
 .seq (
 .region [zi 69 (.bin .eql (.t 59) (.c (.int .i64 3))),
 zj 68 69] none) (
 .cond (.t 68) (
 .seq (
 .region [zj 70 2,
 zi 71 (.build [.int .i64 0, .int .i64 0, .str [], .nils 4] [(0, 1, (.c (.int .i64 3))), (1, 1, (.t 70))]),
 ⟨none, .store 4 (.t 6) (.t 71), none⟩] none) (
 .ret)) (
 .skip))))))))) (
 .seq (
 .region [zi 72 (.load true 4 [.int .i64, .int .i64, .str, .slice 4] (.t 3)),
 ⟨none, .store 4 (.t 6) (.t 72), none⟩] none) (
 .ret))))) (
 .region [zj 45 9,
 zi 46 (.bin .add (.t 45) (.c (.int .i64 1))),
 zj 9 46] none)))))) (
 .seq (
 .region [zi 73 (.load true 4 [.int .i64, .int .i64, .str, .slice 4] (.t 3)),
 ⟨none, .store 4 (.t 6) (.t 73), none⟩] none) (
 .ret))))⟩
def K11 : List (List Nat) := [[1001100, 1, 2, 3, 6, 7, 8, 2000000, 6, 7], [1001101, 1, 2, 3, 6, 9, 2000000, 3, 6]]
def Hn11 : List (Nat × Nat) := []
def F12 : Fun := ⟨1, 9, [(2, none)],
 .seq (
 .region [zi 2 (.mov (.c (.bool false)))] none) (
 .seq (
 .region [zj 3 0,
 zi 4 (.bin .geq (.t 3) (.c (.int .i64 1))),
 zj 5 4,
 ⟨some 6, .mov (.t 0), some (5, true)⟩,
 ⟨some 7, .bin .leq (.t 6) (.c (.int .i64 5)), some (5, true)⟩,
 zi 8 (.pick (.t 5) (.t 7) (.c (.bool false))),
 zj 2 8] none) (
 .ret))⟩
def K12 : List (List Nat) := []
def Hn12 : List (Nat × Nat) := []
def F13 : Fun := ⟨1, 41, [(2, none)],
 .seq (
 .region [zi 2 (.mov (.c (.int .i64 0)))] none) (
 .seq (
 .seq (
 .region [zj 7 0,
 zi 8 (.len .l (.t 7)),
 zi 9 (.bin .gtr (.t 8) (.c (.int .i64 64)))] none) (
 .cond (.t 9) (
 .seq (
 .region [zi 2 (.mov (.c (.int .i64 5)))] none) (
 .ret)) (
 .skip))) (
 .seq (
 .seq (
 .region [zj 10 0,
 zi 11 (.len .l (.t 10)),
 zi 12 (.mov (.c (.int .i64 0)))] none) (
 .block 0 (
 .loop [1001300, 0, 10, 11, 12, 2000000, 2] (
 .seq (
 .region [zi 13 (.bin .lss (.t 12) (.t 11))] none) (
 .seq (
 .cond (.t 13) (
 .skip) (
 .exit 0)) (
 .seq (
 .block 1 (
 .seq (
 .region [zj 14 12,
 zi 15 (.iaddr 2 [.str, .int .i64] (.t 10) (.t 12)),
 zi 16 (.load true 2 [.str, .int .i64] (.t 15)),
 zi 4 (.alloc (.agg [.str [], .int .i64 0])),
 zj 3 14,
 ⟨none, .store 2 (.t 4) (.t 16), none⟩] none) (
 .seq (
 .seq (
 .region [zi 17 (.faddr 0 (.t 4)),
 zi 18 (.load false 1 [.str] (.t 17)),
 zi 19 (.build [.int .i64 0, .int .i64 0, .str [], .nils 4] [(0, 1, (.c (.int .i64 4))), (2, 1, (.t 18))]),
 zi 20 (.call 19 [.t 19]),
 zi 21 (.bin .neq (.t 20) (.c (.int .i64 0)))] none) (
 .cond (.t 21) (
 .seq (
 .region [zi 2 (.mov (.c (.int .i64 4)))] none) (
 .ret)) (
 .skip))) (
 .seq (
 .seq (
 .region [zj 22 0,
 zj 23 3,
 zi 24 (.slc 2 (.t 22) none (some (.t 23))),
 zi 25 (.len .l (.t 24)),
 zi 26 (.mov (.c (.int .i64 0)))] none) (
 .block 2 (
 .loop [1001301, 0, 4, 10, 11, 12, 24, 25, 26, 2000000, 0, 2, 4, 10, 11, 12] (
 .seq (
 .region [zi 27 (.bin .lss (.t 26) (.t 25))] none) (
 .seq (
 .cond (.t 27) (
 .skip) (
 .exit 2)) (
 .seq (
 .block 3 (
 .seq (
 .region [zi 28 (.iaddr 2 [.str, .int .i64] (.t 24) (.t 26)),
 zi 29 (.load true 2 [.str, .int .i64] (.t 28)),
 zi 6 (.alloc (.agg [.str [], .int .i64 0])),
 ⟨none, .store 2 (.t 6) (.t 29), none⟩] none) (
 .seq (
 .region [zi 30 (.faddr 0 (.t 6)),
 zi 31 (.load false 1 [.str] (.t 30)),
 zi 32 (.faddr 0 (.t 4)),
 zi 33 (.load false 1 [.str] (.t 32)),
 zi 34 (.bin .eql (.t 31) (.t 33))] none) (
 .cond (.t 34) (
 .seq (
 .region [zi 2 (.mov (.c (.int .i64 12)))] none) (
 .ret)) (
 .skip))))) (
 .region [zi 35 (.bin .add (.t 26) (.c (.int .i64 1))),
 zj 26 35] none))))))) (
 .seq (
 .region [zi 36 (.faddr 1 (.t 4)),
 zi 37 (.load false 1 [.int .i64] (.t 36)),
 zi 38 (.call 14 [.t 37]),
 zi 39 (.un .not (.t 38))] none) (
 .cond (.t 39) (
 .seq (
 .region [zi 2 (.mov (.c (.int .i64 3)))] none) (
 .ret)) (
 .skip))))))) (
 .region [zi 40 (.bin .add (.t 12) (.c (.int .i64 1))),
 zj 12 40] none))))))) (
 .seq (
 .region [zi 2 (.mov (.c (.int .i64 0)))] none) (
 .ret))))⟩
def K13 : List (List Nat) := [[1001300, 0, 10, 11, 12, 2000000, 2], [1001301, 0, 4, 10, 11, 12, 24, 25, 26, 2000000, 0, 2, 4, 10, 11, 12]]
def Hn13 : List (Nat × Nat) := []
def F14 : Fun := ⟨1, 9, [(2, none)],
 .seq (
 .region [zi 2 (.mov (.c (.bool false)))] none) (
 .seq (
 .region [zj 3 0,
 zi 4 (.bin .geq (.t 3) (.c (.int .i64 1))),
 zj 5 4,
 ⟨some 6, .mov (.t 0), some (5, true)⟩,
 ⟨some 7, .bin .leq (.t 6) (.c (.int .i64 5)), some (5, true)⟩,
 zi 8 (.pick (.t 5) (.t 7) (.c (.bool false))),
 zj 2 8] none) (
 .ret))⟩
def K14 : List (List Nat) := []
def Hn14 : List (Nat × Nat) := []
def F15 : Fun := ⟨2, 24, [(4, none), (5, none)],
 .seq (
 .region [zi 4 (.mov (.c (.int .i64 0))),
 zi 5 (.mov (.c (.bool false)))] none) (
 .seq (
 .seq (
 .region [zj 6 0] none) (
 .block 0 (
 .seq (
 .region [zi 8 (.bin .eql (.t 6) (.c (.int .i64 16))),
 zj 7 8] none) (
 .cond (.t 7) (
 .seq (
 .region [zj 9 1,
 zi 10 (.bin .eql (.t 9) (.c (.int .i64 5))),
 zi 4 (.mov (.c (.int .i64 5))),
 zj 5 10] none) (
 .ret)) (
 .seq (
 .region [zi 12 (.bin .eql (.t 6) (.c (.int .i64 9))),
 zj 11 12] none) (
 .cond (.t 11) (
 .seq (
 .region [zj 13 1,
 zj 14 1,
 zi 15 (.bin .eql (.t 14) (.c (.int .i64 1))),
 zj 16 15,
 ⟨some 17, .mov (.t 1), some (16, false)⟩,
 ⟨some 18, .bin .eql (.t 17) (.c (.int .i64 2)), some (16, false)⟩,
 zi 19 (.pick (.t 16) (.c (.bool true)) (.t 18)),
 zj 20 19,
 ⟨some 21, .mov (.t 1), some (20, false)⟩,
 ⟨some 22, .bin .eql (.t 21) (.c (.int .i64 3)), some (20, false)⟩,
 zi 23 (.pick (.t 20) (.c (.bool true)) (.t 22)),
 zj 4 13,
 zj 5 23] none) (
 .ret)) (
 .skip))))))) (
 .seq (
 .region [zi 4 (.mov (.c (.int .i64 0))),
 zi 5 (.mov (.c (.bool false)))] none) (
 .ret)))⟩
def K15 : List (List Nat) := []
def Hn15 : List (Nat × Nat) := []
def F16 : Fun := ⟨3, 56, [(6, none), (7, none)],
 .seq (
 .region [zi 6 (.mov (.c (.int .i64 0))),
 zi 7 (.mov (.c (.bool false)))] none) (
 .seq (
 .seq (
 .region [zj 9 0] none) (
 .block 0 (
 .seq (
 .seq (
 .region [zi 11 (.bin .eql (.t 9) (.c (.int .i64 10))),
 zj 10 11] none) (
 .cond (.t 10) (
 .skip) (
 .region [zi 12 (.bin .eql (.t 9) (.c (.int .i64 11))),
 zj 10 12] none))) (
 .cond (.t 10) (
 .seq (
 .region [zj 13 1,
 zj 14 2,
 zi 15 (.bin .eql (.t 13) (.t 14)),
 zi 6 (.mov (.c (.int .i64 5))),
 zj 7 15] none) (
 .ret)) (
 .seq (
 .seq (
 .region [zi 17 (.bin .eql (.t 9) (.c (.int .i64 12))),
 zj 16 17] none) (
 .cond (.t 16) (
 .skip) (
 .region [zi 18 (.bin .eql (.t 9) (.c (.int .i64 13))),
 zj 16 18] none))) (
 .cond (.t 16) (
 .seq (
 .region [zj 19 1,
 zj 20 2,
 zi 21 (.bin .eql (.t 19) (.t 20)),
 zj 22 21,
 ⟨some 23, .mov (.t 1), some (22, true)⟩,
 ⟨some 24, .bin .neq (.t 23) (.c (.int .i64 5)), some (22, true)⟩,
 zi 25 (.pick (.t 22) (.t 24) (.c (.bool false))),
 zi 6 (.mov (.c (.int .i64 5))),
 zj 7 25] none) (
 .ret)) (
 .seq (
 .seq (
 .region [zi 27 (.bin .eql (.t 9) (.c (.int .i64 14))),
 zj 26 27] none) (
 .cond (.t 26) (
 .skip) (
 .region [zi 28 (.bin .eql (.t 9) (.c (.int .i64 15))),
 zj 26 28] none))) (
 .cond (.t 26) (
 .seq (
 .region [zj 29 1,
 zj 30 2,
 zi 31 (.bin .eql (.t 29) (.t 30)),
 zj 32 31,
 ⟨some 33, .mov (.t 1), some (32, true)⟩,
 ⟨some 34, .bin .eql (.t 33) (.c (.int .i64 5)), some (32, true)⟩,
 zi 35 (.pick (.t 32) (.t 34) (.c (.bool false))),
 zi 6 (.mov (.c (.int .i64 5))),
 zj 7 35] none) (
 .ret)) (
 .seq (
 .seq (
 .region [zi 37 (.bin .eql (.t 9) (.c (.int .i64 17))),
 zj 36 37] none) (
 .cond (.t 36) (
 .skip) (
 .region [zi 38 (.bin .eql (.t 9) (.c (.int .i64 18))),
 zj 36 38] none))) (
 .cond (.t 36) (
 .seq (
 .region [zj 39 1,
 zj 40 1,
 zj 41 2,
 zi 42 (.bin .eql (.t 40) (.t 41)),
 zj 43 42,
 ⟨some 44, .mov (.t 1), some (43, true)⟩,
 ⟨some 45, .bin .neq (.t 44) (.c (.int .i64 5)), some (43, true)⟩,
 zi 46 (.pick (.t 43) (.t 45) (.c (.bool false))),
 zj 6 39,
 zj 7 46] none) (
 .ret)) (
 .skip))))))))))) (
 .seq (
 .region [zi 47 (.call 21 []),
 zj 48 0,
 zj 49 1,
 zj 50 2,
 zi 51 (.build [.int .i64 0, .int .i64 0, .int .i64 0] [(0, 1, (.t 48)), (1, 1, (.t 49)), (2, 1, (.t 50))]),
 zi 52 (.look (true, [.i, .i, .i]) (.int .i64 0) false (.t 47) (.t 51)),
 zj 8 52] none) (
 .seq (
 .region [zj 53 8,
 zj 54 8,
 zi 55 (.bin .neq (.t 54) (.c (.int .i64 0))),
 zj 6 53,
 zj 7 55] none) (
 .ret))))⟩
def K16 : List (List Nat) := []
def Hn16 : List (Nat × Nat) := []
def F17 : Fun := ⟨2, 67, [(4, none), (5, none)],
 .seq (
 .region [zi 4 (.mov (.c (.int .i64 0))),
 zi 5 (.mov (.c (.bool false)))] none) (
 .seq (
 .seq (
 .region [zj 6 0,
 zi 7 (.bin .eql (.t 6) (.c (.int .i64 9))),
 zj 8 7,
 ⟨some 9, .mov (.t 1), some (8, true)⟩,
 ⟨some 10, .len .l (.t 9), some (8, true)⟩,
 ⟨some 11, .bin .eql (.t 10) (.c (.int .i64 1)), some (8, true)⟩,
 zi 12 (.pick (.t 8) (.t 11) (.c (.bool false)))] none) (
 .cond (.t 12) (
 .seq (
 .region [zj 13 1,
 zi 14 (.iaddr 1 [.int .i64] (.t 13) (.c (.int .i64 0))),
 zi 15 (.load false 1 [.int .i64] (.t 14)),
 zj 16 1,
 zi 17 (.iaddr 1 [.int .i64] (.t 16) (.c (.int .i64 0))),
 zi 18 (.load false 1 [.int .i64] (.t 17)),
 zi 19 (.call 22 [.t 18]),
 zj 4 15,
 zj 5 19] (some [[], [0], [1, 0], [], [3], [4, 3], [5, 4, 3], [6, 5, 4, 3, 2, 1, 0], [7, 6, 5, 4, 3, 2, 1, 0]])) (
 .ret)) (
 .skip))) (
 .seq (
 .seq (
 .region [zj 20 0,
 zi 21 (.bin .eql (.t 20) (.c (.int .i64 16))),
 zj 22 21,
 ⟨some 23, .mov (.t 1), some (22, true)⟩,
 ⟨some 24, .len .l (.t 23), some (22, true)⟩,
 ⟨some 25, .bin .eql (.t 24) (.c (.int .i64 1)), some (22, true)⟩,
 zi 26 (.pick (.t 22) (.t 25) (.c (.bool false)))] none) (
 .cond (.t 26) (
 .seq (
 .region [zj 27 1,
 zi 28 (.iaddr 1 [.int .i64] (.t 27) (.c (.int .i64 0))),
 zi 29 (.load false 1 [.int .i64] (.t 28)),
 zi 30 (.bin .eql (.t 29) (.c (.int .i64 5))),
 zi 4 (.mov (.c (.int .i64 5))),
 zj 5 30] (some [[], [0], [1, 0], [2, 1, 0], [], [3, 2, 1, 0, 4]])) (
 .ret)) (
 .skip))) (
 .seq (
 .seq (
 .region [zj 31 0,
 zi 32 (.bin .eql (.t 31) (.c (.int .i64 19))),
 zj 33 32,
 ⟨some 34, .mov (.t 1), some (33, true)⟩,
 ⟨some 35, .len .l (.t 34), some (33, true)⟩,
 ⟨some 36, .bin .eql (.t 35) (.c (.int .i64 3)), some (33, true)⟩,
 zi 37 (.pick (.t 33) (.t 36) (.c (.bool false)))] none) (
 .cond (.t 37) (
 .seq (
 .region [zj 38 1,
 zi 39 (.iaddr 1 [.int .i64] (.t 38) (.c (.int .i64 1))),
 zi 40 (.load false 1 [.int .i64] (.t 39)),
 zj 41 1,
 zi 42 (.iaddr 1 [.int .i64] (.t 41) (.c (.int .i64 0))),
 zi 43 (.load false 1 [.int .i64] (.t 42)),
 zi 44 (.bin .eql (.t 43) (.c (.int .i64 5))),
 zj 45 44,
 ⟨some 46, .mov (.t 1), some (45, true)⟩,
 ⟨some 47, .iaddr 1 [.int .i64] (.t 46) (.c (.int .i64 1)), some (45, true)⟩,
 ⟨some 48, .load false 1 [.int .i64] (.t 47), some (45, true)⟩,
 ⟨some 49, .mov (.t 1), some (45, true)⟩,
 ⟨some 50, .iaddr 1 [.int .i64] (.t 49) (.c (.int .i64 2)), some (45, true)⟩,
 ⟨some 51, .load false 1 [.int .i64] (.t 50), some (45, true)⟩,
 ⟨some 52, .bin .eql (.t 48) (.t 51), some (45, true)⟩,
 zi 53 (.pick (.t 45) (.t 52) (.c (.bool false))),
 zj 4 40,
 zj 5 53] (some [[], [0], [1, 0], [], [3], [4, 3], [5, 4, 3], [6, 5, 4, 3], [7, 6, 5, 4, 3], [8, 7, 6, 5, 4, 3], [9, 8, 7, 6, 5, 4, 3], [7, 6, 5, 4, 3], [11, 7, 6, 5, 4, 3], [12, 11, 7, 6, 5, 4, 3], [10, 9, 8, 13, 12, 11, 7, 6, 5, 4, 3], [14, 10, 9, 8, 13, 12, 11, 7, 6, 5, 4, 3], [7, 6, 5, 4, 3, 2, 1, 0], [15, 14, 10, 9, 8, 13, 12, 11, 16, 7, 6, 5, 4, 3, 2, 1, 0]])) (
 .ret)) (
 .skip))) (
 .seq (
 .seq (
 .region [zj 54 1,
 zi 55 (.len .l (.t 54)),
 zi 56 (.bin .eql (.t 55) (.c (.int .i64 2)))] none) (
 .cond (.t 56) (
 .seq (
 .region [zj 57 0,
 zj 58 1,
 zi 59 (.iaddr 1 [.int .i64] (.t 58) (.c (.int .i64 0))),
 zi 60 (.load false 1 [.int .i64] (.t 59)),
 zj 61 1,
 zi 62 (.iaddr 1 [.int .i64] (.t 61) (.c (.int .i64 1))),
 zi 63 (.load false 1 [.int .i64] (.t 62)),
 zi 64 (.call 23 [.t 57, .t 60, .t 63]),
 zi 65 (.ext (.t 64) 0),
 zi 66 (.ext (.t 64) 1),
 zj 4 65,
 zj 5 66] (some [[], [], [1], [2, 1], [], [4], [5, 4], [0, 3, 2, 1, 6, 5, 4], [7, 0, 3, 2, 1, 6, 5, 4], [7, 0, 3, 2, 1, 6, 5, 4], [8, 9, 7, 0, 3, 2, 1, 6, 5, 4], [10, 8, 9, 7, 0, 3, 2, 1, 6, 5, 4]])) (
 .ret)) (
 .skip))) (
 .seq (
 .region [zi 4 (.mov (.c (.int .i64 0))),
 zi 5 (.mov (.c (.bool false)))] none) (
 .ret))))))⟩
def K17 : List (List Nat) := []
def Hn17 : List (Nat × Nat) := []
def F18 : Fun := ⟨2, 31, [(4, none)],
 .seq (
 .region [zi 2 (.box 4 (.t 0)),
 zi 4 (.mov (.c (.int .i64 0)))] none) (
 .seq (
 .region [zi 5 (.mov (.c (.int .i64 1)))] none) (
 .seq (
 .seq (
 .region [zi 6 (.mov (.c (.int .i64 0)))] none) (
 .block 0 (
 .loop [1001800, 1, 2, 5, 6, 2000000, 5] (
 .seq (
 .seq (
 .region [zj 7 6,
 zi 8 (.faddr 3 (.t 2)),
 zi 9 (.load false 1 [.slice 4] (.t 8)),
 zi 10 (.len .l (.t 9)),
 zi 11 (.bin .lss (.t 7) (.t 10)),
 zj 12 11,
 ⟨some 13, .mov (.t 5), some (12, true)⟩,
 ⟨some 14, .mov (.t 1), some (12, true)⟩,
 ⟨some 15, .bin .leq (.t 13) (.t 14), some (12, true)⟩,
 zi 16 (.pick (.t 12) (.t 15) (.c (.bool false)))] none) (
 .cond (.t 16) (
 .skip) (
 .exit 0))) (
 .seq (
 .block 1 (
 .region [zj 19 5,
 zi 20 (.faddr 3 (.t 2)),
 zi 21 (.load false 1 [.slice 4] (.t 20)),
 zj 22 6,
 zi 23 (.iaddr 4 [.int .i64, .int .i64, .str, .slice 4] (.t 21) (.t 22)),
 zi 24 (.load true 4 [.int .i64, .int .i64, .str, .slice 4] (.t 23)),
 zj 25 1,
 zj 26 5,
 zi 27 (.bin .sub (.t 25) (.t 26)),
 zi 28 (.call 18 [.t 24, .t 27]),
 zi 29 (.bin .add (.t 19) (.t 28)),
 zj 5 29] none)) (
 .region [zj 17 6,
 zi 18 (.bin .add (.t 17) (.c (.int .i64 1))),
 zj 6 18] none)))))) (
 .seq (
 .region [zj 30 5,
 zj 4 30] none) (
 .ret))))⟩
def K18 : List (List Nat) := [[1001800, 1, 2, 5, 6, 2000000, 5]]
def Hn18 : List (Nat × Nat) := []
def F19 : Fun := ⟨1, 20, [(2, none)],
 .seq (
 .region [zi 1 (.box 4 (.t 0)),
 zi 2 (.mov (.c (.int .i64 0)))] none) (
 .seq (
 .block 0 (
 .seq (
 .region [zi 4 (.load true 4 [.int .i64, .int .i64, .str, .slice 4] (.t 1)),
 zi 5 (.call 24 [.t 4]),
 zi 6 (.bin .gtr (.t 5) (.c (.int .i64 64))),
 zj 7 6,
 ⟨some 8, .load true 4 [.int .i64, .int .i64, .str, .slice 4] (.t 1), some (7, false)⟩,
 ⟨some 9, .call 25 [.t 8], some (7, false)⟩,
 ⟨some 10, .bin .gtr (.t 9) (.c (.int .i64 8)), some (7, false)⟩,
 zi 11 (.pick (.t 7) (.c (.bool true)) (.t 10)),
 zj 3 11] none) (
 .cond (.t 3) (
 .seq (
 .region [zi 2 (.mov (.c (.int .i64 5)))] none) (
 .ret)) (
 .seq (
 .region [zi 13 (.load true 4 [.int .i64, .int .i64, .str, .slice 4] (.t 1)),
 zi 14 (.call 26 [.t 13, .f 27]),
 zi 15 (.un .not (.t 14)),
 zj 12 15] none) (
 .cond (.t 12) (
 .seq (
 .region [zi 2 (.mov (.c (.int .i64 1)))] none) (
 .ret)) (
 .seq (
 .region [zi 17 (.load true 4 [.int .i64, .int .i64, .str, .slice 4] (.t 1)),
 zi 18 (.call 26 [.t 17, .f 28]),
 zi 19 (.un .not (.t 18)),
 zj 16 19] none) (
 .cond (.t 16) (
 .seq (
 .region [zi 2 (.mov (.c (.int .i64 4)))] none) (
 .ret)) (
 .skip)))))))) (
 .seq (
 .region [zi 2 (.mov (.c (.int .i64 0)))] none) (
 .ret)))⟩
def K19 : List (List Nat) := []
def Hn19 : List (Nat × Nat) := []
def F20 : Fun := ⟨2, 60, [(4, none), (5, none)],
 .seq (
 .region [zi 2 (.box 4 (.t 0)),
 zi 4 (.mov (.c (.int .i64 0))),
 zi 5 (.mov (.c (.int .i64 0)))] none) (
 .seq (
 .seq (
 .region [zi 13 (.faddr 0 (.t 2)),
 zi 14 (.load false 1 [.int .i64] (.t 13))] none) (
 .block 0 (
 .seq (
 .region [zi 16 (.bin .eql (.t 14) (.c (.int .i64 1))),
 zj 15 16] none) (
 .cond (.t 15) (
 .seq (
 .region [zi 4 (.mov (.c (.int .i64 1))),
 zi 5 (.mov (.c (.int .i64 0)))] none) (
 .ret)) (
 .seq (
 .region [zi 18 (.bin .eql (.t 14) (.c (.int .i64 2))),
 zj 17 18] none) (
 .cond (.t 17) (
 .seq (
 .region [zi 4 (.mov (.c (.int .i64 2))),
 zi 5 (.mov (.c (.int .i64 0)))] none) (
 .ret)) (
 .seq (
 .region [zi 20 (.bin .eql (.t 14) (.c (.int .i64 3))),
 zj 19 20] none) (
 .cond (.t 19) (
 .seq (
 .region [zi 4 (.mov (.c (.int .i64 3))),
 zi 5 (.mov (.c (.int .i64 0)))] none) (
 .ret)) (
 .seq (
 .region [zi 22 (.bin .eql (.t 14) (.c (.int .i64 4))),
 zj 21 22] none) (
 .cond (.t 21) (
 .seq (
 .region [zi 23 (.faddr 2 (.t 2)),
 zi 24 (.load false 1 [.str] (.t 23)),
 zj 25 1,
 zi 26 (.call 29 [.t 24, .t 25]),
 zi 27 (.ext (.t 26) 0),
 zi 28 (.ext (.t 26) 1),
 zj 4 27,
 zj 5 28] none) (
 .ret)) (
 .skip))))))))))) (
 .seq (
 .region [zi 6 (.mov (.c (.nils 1)))] none) (
 .seq (
 .seq (
 .region [zi 29 (.faddr 3 (.t 2)),
 zi 30 (.load false 1 [.slice 4] (.t 29)),
 zi 31 (.len .l (.t 30)),
 zi 32 (.mov (.c (.int .i64 0)))] none) (
 .block 1 (
 .loop [1002000, 1, 2, 6, 30, 31, 32, 2000000, 2, 4, 5, 6] (
 .seq (
 .region [zi 33 (.bin .lss (.t 32) (.t 31))] none) (
 .seq (
 .cond (.t 33) (
 .skip) (
 .exit 1)) (
 .seq (
 .block 2 (
 .seq (
 .region [zi 34 (.iaddr 4 [.int .i64, .int .i64, .str, .slice 4] (.t 30) (.t 32)),
 zi 35 (.load true 4 [.int .i64, .int .i64, .str, .slice 4] (.t 34)),
 zi 8 (.alloc (.agg [.int .i64 0, .int .i64 0, .str [], .nils 4])),
 ⟨none, .store 4 (.t 8) (.t 35), none⟩] none) (
 .seq (
 .region [zi 37 (.load true 4 [.int .i64, .int .i64, .str, .slice 4] (.t 8)),
 zj 38 1,
 zi 39 (.call 20 [.t 37, .t 38]),
 zj 36 39,
 zi 40 (.ext (.t 36) 0),
 zi 41 (.ext (.t 36) 1),
 zj 9 40,
 zj 10 41] none) (
 .seq (
 .seq (
 .region [zj 42 10,
 zi 43 (.bin .neq (.t 42) (.c (.int .i64 0)))] none) (
 .cond (.t 43) (
 .seq (
 .region [zj 44 10,
 zi 4 (.mov (.c (.int .i64 0))),
 zj 5 44] none) (
 .ret)) (
 .skip))) (
 .region [zj 45 6,
 zj 46 9,
 zi 47 (.bslice 1 (.int .i64 0) 1 [(0, (.t 46))]),
 zi 48 (.app 1 8 (.t 45) (.t 47)),
 zj 6 48] none))))) (
 .region [zi 49 (.bin .add (.t 32) (.c (.int .i64 1))),
 zj 32 49] none))))))) (
 .seq (
 .region [zi 51 (.faddr 0 (.t 2)),
 zi 52 (.load false 1 [.int .i64] (.t 51)),
 zj 53 6,
 zi 54 (.call 6 [.t 52, .t 53]),
 zj 50 54,
 zi 55 (.ext (.t 50) 0),
 zi 56 (.ext (.t 50) 1),
 zj 11 55,
 zj 12 56] none) (
 .seq (
 .seq (
 .region [zj 57 12,
 zi 58 (.un .not (.t 57))] none) (
 .cond (.t 58) (
 .seq (
 .region [zi 4 (.mov (.c (.int .i64 0))),
 zi 5 (.mov (.c (.int .i64 3)))] none) (
 .ret)) (
 .skip))) (
 .seq (
 .region [zj 59 11,
 zj 4 59,
 zi 5 (.mov (.c (.int .i64 0)))] none) (
 .ret)))))))⟩
def K20 : List (List Nat) := [[1002000, 1, 2, 6, 30, 31, 32, 2000000, 2, 4, 5, 6]]
def Hn20 : List (Nat × Nat) := [(6, 1)]
def F21 : Fun := ⟨0, 49, [(0, none)],
 .seq (
 .region [zi 0 (.mov (.c (.nilm)))] none) (
 .seq (
 .region [zi 6 (.mkm),
 zi 7 (.build [.int .i64 0, .int .i64 0, .int .i64 0] [(0, 1, (.c (.int .i64 5))), (1, 1, (.c (.int .i64 4))), (2, 1, (.c (.int .i64 1)))]),
 ⟨none, .mupd (true, [.i, .i, .i]) (.t 6) (.t 7) (.c (.int .i64 4)), none⟩,
 zi 8 (.build [.int .i64 0, .int .i64 0, .int .i64 0] [(0, 1, (.c (.int .i64 6))), (1, 1, (.c (.int .i64 4))), (2, 1, (.c (.int .i64 1)))]),
 ⟨none, .mupd (true, [.i, .i, .i]) (.t 6) (.t 8) (.c (.int .i64 4)), none⟩,
 zi 9 (.build [.int .i64 0, .int .i64 0, .int .i64 0] [(0, 1, (.c (.int .i64 6))), (1, 1, (.c (.int .i64 4))), (2, 1, (.c (.int .i64 4)))]),
 ⟨none, .mupd (true, [.i, .i, .i]) (.t 6) (.t 9) (.c (.int .i64 1)), none⟩,
 zi 10 (.build [.int .i64 0, .int .i64 0, .int .i64 0] [(0, 1, (.c (.int .i64 7))), (1, 1, (.c (.int .i64 1))), (2, 1, (.c (.int .i64 1)))]),
 ⟨none, .mupd (true, [.i, .i, .i]) (.t 6) (.t 10) (.c (.int .i64 1)), none⟩,
 zi 11 (.build [.int .i64 0, .int .i64 0, .int .i64 0] [(0, 1, (.c (.int .i64 7))), (1, 1, (.c (.int .i64 2))), (2, 1, (.c (.int .i64 3)))]),
 ⟨none, .mupd (true, [.i, .i, .i]) (.t 6) (.t 11) (.c (.int .i64 2)), none⟩,
 zi 12 (.build [.int .i64 0, .int .i64 0, .int .i64 0] [(0, 1, (.c (.int .i64 7))), (1, 1, (.c (.int .i64 3))), (2, 1, (.c (.int .i64 2)))]),
 ⟨none, .mupd (true, [.i, .i, .i]) (.t 6) (.t 12) (.c (.int .i64 2)), none⟩,
 zi 13 (.build [.int .i64 0, .int .i64 0, .int .i64 0] [(0, 1, (.c (.int .i64 8))), (1, 1, (.c (.int .i64 1))), (2, 1, (.c (.int .i64 1)))]),
 ⟨none, .mupd (true, [.i, .i, .i]) (.t 6) (.t 13) (.c (.int .i64 1)), none⟩,
 zi 14 (.build [.int .i64 0, .int .i64 0, .int .i64 0] [(0, 1, (.c (.int .i64 8))), (1, 1, (.c (.int .i64 2))), (2, 1, (.c (.int .i64 2)))]),
 ⟨none, .mupd (true, [.i, .i, .i]) (.t 6) (.t 14) (.c (.int .i64 1)), none⟩,
 zj 15 6,
 zj 1 15] (some [[], [], [0, 1], [], [0, 3], [], [0, 5], [], [0, 7], [], [0, 9], [], [0, 11], [], [0, 13], [], [0, 15], [2, 1, 4, 3, 6, 5, 8, 7, 10, 9, 12, 11, 14, 13, 16, 0, 15], [17, 2, 1, 4, 3, 6, 5, 8, 7, 10, 9, 12, 11, 14, 13, 16, 0, 15]])) (
 .seq (
 .seq (
 .region [zi 16 (.build [.int .i64 0, .int .i64 0] [(0, 1, (.c (.int .i64 2))), (1, 1, (.c (.int .i64 3)))]),
 zi 17 (.mov (.c (.int .i64 0)))] none) (
 .block 0 (
 .loop [1002100, 1, 16, 17, 2000000, 1] (
 .seq (
 .region [zi 18 (.bin .lss (.t 17) (.c (.int .i64 2)))] none) (
 .seq (
 .cond (.t 18) (
 .skip) (
 .exit 0)) (
 .seq (
 .block 1 (
 .seq (
 .region [zi 19 (.idxa false 2 1 (.t 16) (.t 17)),
 zj 3 19] none) (
 .seq (
 .region [zj 20 1,
 zj 21 3,
 zi 22 (.build [.int .i64 0, .int .i64 0, .int .i64 0] [(0, 1, (.c (.int .i64 7))), (1, 1, (.c (.int .i64 1))), (2, 1, (.t 21))]),
 zj 23 3,
 ⟨none, .mupd (true, [.i, .i, .i]) (.t 20) (.t 22) (.t 23), none⟩] none) (
 .seq (
 .region [zj 24 1,
 zj 25 3,
 zi 26 (.build [.int .i64 0, .int .i64 0, .int .i64 0] [(0, 1, (.c (.int .i64 7))), (1, 1, (.t 25)), (2, 1, (.c (.int .i64 1)))]),
 zj 27 3,
 ⟨none, .mupd (true, [.i, .i, .i]) (.t 24) (.t 26) (.t 27), none⟩] none) (
 .region [zj 28 1,
 zj 29 3,
 zi 30 (.build [.int .i64 0, .int .i64 0, .int .i64 0] [(0, 1, (.c (.int .i64 8))), (1, 1, (.t 29)), (2, 1, (.c (.int .i64 1)))]),
 zj 31 3,
 ⟨none, .mupd (true, [.i, .i, .i]) (.t 28) (.t 30) (.t 31), none⟩] none))))) (
 .region [zi 32 (.bin .add (.t 17) (.c (.int .i64 1))),
 zj 17 32] none))))))) (
 .seq (
 .seq (
 .region [zi 33 (.build [.int .i64 0, .int .i64 0, .int .i64 0] [(0, 1, (.c (.int .i64 1))), (1, 1, (.c (.int .i64 2))), (2, 1, (.c (.int .i64 3)))]),
 zi 34 (.mov (.c (.int .i64 0)))] none) (
 .block 2 (
 .loop [1002101, 1, 33, 34, 2000000, 1] (
 .seq (
 .region [zi 35 (.bin .lss (.t 34) (.c (.int .i64 3)))] none) (
 .seq (
 .cond (.t 35) (
 .skip) (
 .exit 2)) (
 .seq (
 .block 3 (
 .seq (
 .region [zi 36 (.idxa false 3 1 (.t 33) (.t 34)),
 zj 5 36] none) (
 .seq (
 .region [zj 37 1,
 zj 38 5,
 zj 39 5,
 zi 40 (.build [.int .i64 0, .int .i64 0, .int .i64 0] [(0, 1, (.c (.int .i64 5))), (1, 1, (.t 38)), (2, 1, (.t 39))]),
 zj 41 5,
 ⟨none, .mupd (true, [.i, .i, .i]) (.t 37) (.t 40) (.t 41), none⟩] none) (
 .region [zj 42 1,
 zj 43 5,
 zj 44 5,
 zi 45 (.build [.int .i64 0, .int .i64 0, .int .i64 0] [(0, 1, (.c (.int .i64 6))), (1, 1, (.t 43)), (2, 1, (.t 44))]),
 zj 46 5,
 ⟨none, .mupd (true, [.i, .i, .i]) (.t 42) (.t 45) (.t 46), none⟩] none)))) (
 .region [zi 47 (.bin .add (.t 34) (.c (.int .i64 1))),
 zj 34 47] none))))))) (
 .seq (
 .region [zj 48 1,
 zj 0 48] none) (
 .ret)))))⟩
def K21 : List (List Nat) := [[1002100, 1, 16, 17, 2000000, 1], [1002101, 1, 33, 34, 2000000, 1]]
def Hn21 : List (Nat × Nat) := []
def F22 : Fun := ⟨1, 13, [(2, none)],
 .seq (
 .region [zi 2 (.mov (.c (.bool false)))] none) (
 .seq (
 .region [zj 3 0,
 zi 4 (.bin .eql (.t 3) (.c (.int .i64 1))),
 zj 5 4,
 ⟨some 6, .mov (.t 0), some (5, false)⟩,
 ⟨some 7, .bin .eql (.t 6) (.c (.int .i64 2)), some (5, false)⟩,
 zi 8 (.pick (.t 5) (.c (.bool true)) (.t 7)),
 zj 9 8,
 ⟨some 10, .mov (.t 0), some (9, false)⟩,
 ⟨some 11, .bin .eql (.t 10) (.c (.int .i64 3)), some (9, false)⟩,
 zi 12 (.pick (.t 9) (.c (.bool true)) (.t 11)),
 zj 2 12] none) (
 .ret))⟩
def K22 : List (List Nat) := []
def Hn22 : List (Nat × Nat) := []
def F23 : Fun := ⟨3, 103, [(6, none), (7, none)],
 .seq (
 .region [zi 6 (.mov (.c (.int .i64 0))),
 zi 7 (.mov (.c (.bool false)))] none) (
 .seq (
 .seq (
 .region [zj 8 0] none) (
 .block 0 (
 .seq (
 .region [zi 10 (.bin .eql (.t 8) (.c (.int .i64 5))),
 zj 9 10] none) (
 .cond (.t 9) (
 .seq (
 .seq (
 .region [zj 11 1,
 zi 12 (.bin .eql (.t 11) (.c (.int .i64 4)))] none) (
 .cond (.t 12) (
 .seq (
 .region [zj 13 1,
 zj 14 2,
 zi 15 (.bin .eql (.t 14) (.c (.int .i64 1))),
 zj 6 13,
 zj 7 15] none) (
 .ret)) (
 .skip))) (
 .seq (
 .region [zj 16 1,
 zj 17 1,
 zj 18 2,
 zi 19 (.bin .eql (.t 17) (.t 18)),
 zj 20 19,
 ⟨some 21, .mov (.t 1), some (20, true)⟩,
 ⟨some 22, .call 22 [.t 21], some (20, true)⟩,
 zi 23 (.pick (.t 20) (.t 22) (.c (.bool false))),
 zj 6 16,
 zj 7 23] none) (
 .ret))) (
 .seq (
 .region [zi 25 (.bin .eql (.t 8) (.c (.int .i64 6))),
 zj 24 25] none) (
 .cond (.t 24) (
 .seq (
 .seq (
 .region [zj 26 1,
 zi 27 (.bin .eql (.t 26) (.c (.int .i64 4))),
 zj 28 27,
 ⟨some 29, .mov (.t 2), some (28, true)⟩,
 ⟨some 30, .bin .eql (.t 29) (.c (.int .i64 4)), some (28, true)⟩,
 zi 31 (.pick (.t 28) (.t 30) (.c (.bool false)))] none) (
 .cond (.t 31) (
 .seq (
 .region [zi 6 (.mov (.c (.int .i64 1))),
 zi 7 (.mov (.c (.bool true)))] none) (
 .ret)) (
 .skip))) (
 .seq (
 .seq (
 .region [zj 32 1,
 zi 33 (.bin .eql (.t 32) (.c (.int .i64 4)))] none) (
 .cond (.t 33) (
 .seq (
 .region [zj 34 1,
 zj 35 2,
 zi 36 (.bin .eql (.t 35) (.c (.int .i64 1))),
 zj 6 34,
 zj 7 36] none) (
 .ret)) (
 .skip))) (
 .seq (
 .region [zj 37 1,
 zj 38 1,
 zj 39 2,
 zi 40 (.bin .eql (.t 38) (.t 39)),
 zj 41 40,
 ⟨some 42, .mov (.t 1), some (41, true)⟩,
 ⟨some 43, .call 22 [.t 42], some (41, true)⟩,
 zi 44 (.pick (.t 41) (.t 43) (.c (.bool false))),
 zj 6 37,
 zj 7 44] none) (
 .ret)))) (
 .seq (
 .region [zi 46 (.bin .eql (.t 8) (.c (.int .i64 7))),
 zj 45 46] none) (
 .cond (.t 45) (
 .seq (
 .region [zj 47 1,
 zj 48 2,
 zi 49 (.call 30 [.t 47, .t 48]),
 zi 50 (.ext (.t 49) 0),
 zi 51 (.ext (.t 49) 1),
 zj 6 50,
 zj 7 51] none) (
 .ret)) (
 .seq (
 .region [zi 53 (.bin .eql (.t 8) (.c (.int .i64 8))),
 zj 52 53] none) (
 .cond (.t 52) (
 .seq (
 .seq (
 .region [zj 54 1,
 zi 55 (.bin .eql (.t 54) (.c (.int .i64 2))),
 zj 56 55,
 ⟨some 57, .mov (.t 2), some (56, true)⟩,
 ⟨some 58, .bin .eql (.t 57) (.c (.int .i64 2)), some (56, true)⟩,
 zi 59 (.pick (.t 56) (.t 58) (.c (.bool false)))] none) (
 .cond (.t 59) (
 .seq (
 .region [zi 6 (.mov (.c (.int .i64 1))),
 zi 7 (.mov (.c (.bool true)))] none) (
 .ret)) (
 .skip))) (
 .seq (
 .region [zj 60 1,
 zj 61 1,
 zi 62 (.call 22 [.t 61]),
 zj 63 62,
 ⟨some 64, .mov (.t 2), some (63, true)⟩,
 ⟨some 65, .bin .eql (.t 64) (.c (.int .i64 1)), some (63, true)⟩,
 zi 66 (.pick (.t 63) (.t 65) (.c (.bool false))),
 zj 6 60,
 zj 7 66] none) (
 .ret))) (
 .seq (
 .seq (
 .region [zi 68 (.bin .eql (.t 8) (.c (.int .i64 10))),
 zj 67 68] none) (
 .cond (.t 67) (
 .skip) (
 .region [zi 69 (.bin .eql (.t 8) (.c (.int .i64 11))),
 zj 67 69] none))) (
 .cond (.t 67) (
 .seq (
 .region [zj 70 1,
 zj 71 2,
 zi 72 (.bin .eql (.t 70) (.t 71)),
 zi 6 (.mov (.c (.int .i64 5))),
 zj 7 72] none) (
 .ret)) (
 .seq (
 .seq (
 .region [zi 74 (.bin .eql (.t 8) (.c (.int .i64 12))),
 zj 73 74] none) (
 .cond (.t 73) (
 .skip) (
 .region [zi 75 (.bin .eql (.t 8) (.c (.int .i64 13))),
 zj 73 75] none))) (
 .cond (.t 73) (
 .seq (
 .region [zj 76 1,
 zj 77 2,
 zi 78 (.bin .eql (.t 76) (.t 77)),
 zj 79 78,
 ⟨some 80, .mov (.t 1), some (79, true)⟩,
 ⟨some 81, .bin .neq (.t 80) (.c (.int .i64 5)), some (79, true)⟩,
 zi 82 (.pick (.t 79) (.t 81) (.c (.bool false))),
 zi 6 (.mov (.c (.int .i64 5))),
 zj 7 82] none) (
 .ret)) (
 .seq (
 .seq (
 .region [zi 84 (.bin .eql (.t 8) (.c (.int .i64 14))),
 zj 83 84] none) (
 .cond (.t 83) (
 .skip) (
 .region [zi 85 (.bin .eql (.t 8) (.c (.int .i64 15))),
 zj 83 85] none))) (
 .cond (.t 83) (
 .seq (
 .region [zj 86 1,
 zi 87 (.bin .eql (.t 86) (.c (.int .i64 5))),
 zj 88 87,
 ⟨some 89, .mov (.t 2), some (88, true)⟩,
 ⟨some 90, .bin .eql (.t 89) (.c (.int .i64 5)), some (88, true)⟩,
 zi 91 (.pick (.t 88) (.t 90) (.c (.bool false))),
 zi 6 (.mov (.c (.int .i64 5))),
 zj 7 91] none) (
 .ret)) (
 .seq (
 .seq (
 .region [zi 93 (.bin .eql (.t 8) (.c (.int .i64 17))),
 zj 92 93] none) (
 .cond (.t 92) (
 .skip) (
 .region [zi 94 (.bin .eql (.t 8) (.c (.int .i64 18))),
 zj 92 94] none))) (
 .cond (.t 92) (
 .seq (
 .region [zj 95 1,
 zj 96 1,
 zj 97 2,
 zi 98 (.bin .eql (.t 96) (.t 97)),
 zj 99 98,
 ⟨some 100, .mov (.t 1), some (99, true)⟩,
 ⟨some 101, .bin .neq (.t 100) (.c (.int .i64 5)), some (99, true)⟩,
 zi 102 (.pick (.t 99) (.t 101) (.c (.bool false))),
 zj 6 95,
 zj 7 102] none) (
 .ret)) (
 .skip))))))))))))))))))) (
 .seq (
 .region [zi 6 (.mov (.c (.int .i64 0))),
 zi 7 (.mov (.c (.bool false)))] none) (
 .ret)))⟩
def K23 : List (List Nat) := []
def Hn23 : List (Nat × Nat) := []
def F24 : Fun := ⟨1, 19, [(2, none)],
 .seq (
 .region [zi 1 (.box 4 (.t 0)),
 zi 2 (.mov (.c (.int .i64 0)))] none) (
 .seq (
 .region [zi 3 (.mov (.c (.int .i64 1)))] none) (
 .seq (
 .seq (
 .region [zi 6 (.faddr 3 (.t 1)),
 zi 7 (.load false 1 [.slice 4] (.t 6)),
 zi 8 (.len .l (.t 7)),
 zi 9 (.mov (.c (.int .i64 0)))] none) (
 .block 0 (
 .loop [1002400, 3, 7, 8, 9, 2000000, 3] (
 .seq (
 .region [zi 10 (.bin .lss (.t 9) (.t 8))] none) (
 .seq (
 .cond (.t 10) (
 .skip) (
 .exit 0)) (
 .seq (
 .block 1 (
 .seq (
 .region [zi 11 (.iaddr 4 [.int .i64, .int .i64, .str, .slice 4] (.t 7) (.t 9)),
 zi 12 (.load true 4 [.int .i64, .int .i64, .str, .slice 4] (.t 11)),
 zi 5 (.alloc (.agg [.int .i64 0, .int .i64 0, .str [], .nils 4])),
 ⟨none, .store 4 (.t 5) (.t 12), none⟩] none) (
 .region [zj 13 3,
 zi 14 (.load true 4 [.int .i64, .int .i64, .str, .slice 4] (.t 5)),
 zi 15 (.call 24 [.t 14]),
 zi 16 (.bin .add (.t 13) (.t 15)),
 zj 3 16] none))) (
 .region [zi 17 (.bin .add (.t 9) (.c (.int .i64 1))),
 zj 9 17] none))))))) (
 .seq (
 .region [zj 18 3,
 zj 2 18] none) (
 .ret))))⟩
def K24 : List (List Nat) := [[1002400, 3, 7, 8, 9, 2000000, 3]]
def Hn24 : List (Nat × Nat) := []
def F25 : Fun := ⟨1, 20, [(2, none)],
 .seq (
 .region [zi 1 (.box 4 (.t 0)),
 zi 2 (.mov (.c (.int .i64 0)))] none) (
 .seq (
 .region [zi 3 (.mov (.c (.int .i64 0)))] none) (
 .seq (
 .seq (
 .region [zi 6 (.faddr 3 (.t 1)),
 zi 7 (.load false 1 [.slice 4] (.t 6)),
 zi 8 (.len .l (.t 7)),
 zi 9 (.mov (.c (.int .i64 0)))] none) (
 .block 0 (
 .loop [1002500, 3, 7, 8, 9, 2000000, 3] (
 .seq (
 .region [zi 10 (.bin .lss (.t 9) (.t 8))] none) (
 .seq (
 .cond (.t 10) (
 .skip) (
 .exit 0)) (
 .seq (
 .block 1 (
 .seq (
 .region [zi 11 (.iaddr 4 [.int .i64, .int .i64, .str, .slice 4] (.t 7) (.t 9)),
 zi 12 (.load true 4 [.int .i64, .int .i64, .str, .slice 4] (.t 11)),
 zi 5 (.alloc (.agg [.int .i64 0, .int .i64 0, .str [], .nils 4])),
 ⟨none, .store 4 (.t 5) (.t 12), none⟩] none) (
 .region [zj 13 3,
 zi 14 (.load true 4 [.int .i64, .int .i64, .str, .slice 4] (.t 5)),
 zi 15 (.call 25 [.t 14]),
 zi 16 (.mx [.t 13, .t 15]),
 zj 3 16] none))) (
 .region [zi 17 (.bin .add (.t 9) (.c (.int .i64 1))),
 zj 9 17] none))))))) (
 .seq (
 .region [zj 18 3,
 zi 19 (.bin .add (.t 18) (.c (.int .i64 1))),
 zj 2 19] none) (
 .ret))))⟩
def K25 : List (List Nat) := [[1002500, 3, 7, 8, 9, 2000000, 3]]
def Hn25 : List (Nat × Nat) := []
def F26 : Fun := ⟨2, 15, [(4, none)],
 .seq (
 .region [zi 2 (.box 4 (.t 0)),
 zi 3 (.box 1 (.t 1)),
 zi 4 (.mov (.c (.bool false)))] none) (
 .seq (
 .region [zi 5 (.load false 1 [] (.t 3)),
 zi 6 (.load true 4 [.int .i64, .int .i64, .str, .slice 4] (.t 2)),
 zi 7 (.callv (.t 5) [.t 6]),
 zj 8 7,
 ⟨some 9, .faddr 3 (.t 2), some (8, true)⟩,
 ⟨some 10, .load false 1 [.slice 4] (.t 9), some (8, true)⟩,
 ⟨some 11, .mkf 32 [.t 3], some (8, true)⟩,
 ⟨some 12, .call 31 [.t 10, .t 11], some (8, true)⟩,
 ⟨some 13, .un .not (.t 12), some (8, true)⟩,
 zi 14 (.pick (.t 8) (.t 13) (.c (.bool false))),
 zj 4 14] none) (
 .ret))⟩
def K26 : List (List Nat) := []
def Hn26 : List (Nat × Nat) := []
def F27 : Fun := ⟨1, 40, [(2, none)],
 .seq (
 .region [zi 1 (.box 4 (.t 0)),
 zi 2 (.mov (.c (.bool false)))] none) (
 .seq (
 .region [zi 3 (.mov (.c (.int .i64 0)))] none) (
 .seq (
 .seq (
 .region [zi 4 (.faddr 0 (.t 1)),
 zi 5 (.load false 1 [.int .i64] (.t 4))] none) (
 .block 0 (
 .seq (
 .region [zi 7 (.bin .eql (.t 5) (.c (.int .i64 1))),
 zj 6 7] none) (
 .cond (.t 6) (
 .region [zi 3 (.mov (.c (.int .i64 9223372036854775807)))] none) (
 .seq (
 .region [zi 9 (.bin .eql (.t 5) (.c (.int .i64 2))),
 zj 8 9] none) (
 .cond (.t 8) (
 .region [zi 3 (.mov (.c (.int .i64 1000000000000)))] none) (
 .seq (
 .region [zi 11 (.bin .eql (.t 5) (.c (.int .i64 3))),
 zj 10 11] none) (
 .cond (.t 10) (
 .region [zi 3 (.mov (.c (.int .i64 1000000)))] none) (
 .skip))))))))) (
 .seq (
 .region [zi 12 (.faddr 0 (.t 1)),
 zi 13 (.load false 1 [.int .i64] (.t 12)),
 zi 14 (.call 33 [.t 13]),
 zi 15 (.faddr 3 (.t 1)),
 zi 16 (.load false 1 [.slice 4] (.t 15)),
 zi 17 (.len .l (.t 16)),
 zi 18 (.bin .eql (.t 14) (.t 17)),
 zj 19 18,
 ⟨some 20, .faddr 1 (.t 1), some (19, true)⟩,
 ⟨some 21, .load false 1 [.int .i64] (.t 20), some (19, true)⟩,
 ⟨some 22, .bin .geq (.t 21) (.c (.int .i64 0)), some (19, true)⟩,
 zi 23 (.pick (.t 19) (.t 22) (.c (.bool false))),
 zj 24 23,
 ⟨some 25, .faddr 1 (.t 1), some (24, true)⟩,
 ⟨some 26, .load false 1 [.int .i64] (.t 25), some (24, true)⟩,
 ⟨some 27, .mov (.t 3), some (24, true)⟩,
 ⟨some 28, .bin .leq (.t 26) (.t 27), some (24, true)⟩,
 zi 29 (.pick (.t 24) (.t 28) (.c (.bool false))),
 zj 30 29,
 ⟨some 31, .faddr 2 (.t 1), some (30, true)⟩,
 ⟨some 32, .load false 1 [.str] (.t 31), some (30, true)⟩,
 ⟨some 33, .bin .eql (.t 32) (.c (.str [])), some (30, true)⟩,
 ⟨some 34, .mov (.t 33), some (30, true)⟩,
 ⟨some 35, .faddr 0 (.t 1), some (34, false)⟩,
 ⟨some 36, .load false 1 [.int .i64] (.t 35), some (34, false)⟩,
 ⟨some 37, .bin .eql (.t 36) (.c (.int .i64 4)), some (34, false)⟩,
 ⟨some 38, .pick (.t 34) (.c (.bool true)) (.t 37), some (30, true)⟩,
 zi 39 (.pick (.t 30) (.t 38) (.c (.bool false))),
 zj 2 39] (some [[], [0], [1, 0], [], [3], [4, 3], [2, 1, 0, 5, 4, 3], [6, 5, 4, 3, 2, 1, 0], [7, 6, 5, 4, 3, 2, 1, 0], [8, 7, 6, 5, 4, 3, 2, 1, 0], [9, 8, 7, 6, 5, 4, 3, 2, 1, 0], [10, 9, 8, 7, 6, 5, 4, 3, 2, 1, 0], [11, 10, 9, 8, 7, 6, 5, 4, 3, 2, 1, 0], [12, 11, 10, 9, 8, 7, 6, 5, 4, 3, 2, 1, 0], [13, 12, 11, 10, 9, 8, 7, 6, 5, 4, 3, 2, 1, 0], [12, 11, 10, 9, 8, 7, 6, 5, 4, 3, 2, 1, 0], [14, 13, 15, 12, 11, 10, 9, 8, 7, 6, 5, 4, 3, 2, 1, 0], [16, 14, 13, 15, 12, 11, 10, 9, 8, 7, 6, 5, 4, 3, 2, 1, 0], [17, 16, 14, 13, 15, 12, 11, 10, 9, 8, 7, 6, 5, 4, 3, 2, 1, 0], [18, 17, 16, 14, 13, 15, 12, 11, 10, 9, 8, 7, 6, 5, 4, 3, 2, 1, 0], [19, 18, 17, 16, 14, 13, 15, 12, 11, 10, 9, 8, 7, 6, 5, 4, 3, 2, 1, 0], [20, 19, 18, 17, 16, 14, 13, 15, 12, 11, 10, 9, 8, 7, 6, 5, 4, 3, 2, 1, 0], [21, 20, 19, 18, 17, 16, 14, 13, 15, 12, 11, 10, 9, 8, 7, 6, 5, 4, 3, 2, 1, 0], [22, 21, 20, 19, 18, 17, 16, 14, 13, 15, 12, 11, 10, 9, 8, 7, 6, 5, 4, 3, 2, 1, 0], [23, 22, 21, 20, 19, 18, 17, 16, 14, 13, 15, 12, 11, 10, 9, 8, 7, 6, 5, 4, 3, 2, 1, 0], [24, 23, 22, 21, 20, 19, 18, 17, 16, 14, 13, 15, 12, 11, 10, 9, 8, 7, 6, 5, 4, 3, 2, 1, 0], [25, 24, 23, 22, 21, 20, 19, 18, 17, 16, 14, 13, 15, 12, 11, 10, 9, 8, 7, 6, 5, 4, 3, 2, 1, 0], [26, 25, 24, 23, 22, 21, 20, 19, 18, 17, 16, 14, 13, 15, 12, 11, 10, 9, 8, 7, 6, 5, 4, 3, 2, 1, 0], [27, 26, 25, 24, 23, 22, 21, 20, 19, 18, 17, 16, 14, 13, 15, 12, 11, 10, 9, 8, 7, 6, 5, 4, 3, 2, 1, 0]])) (
 .ret))))⟩
def K27 : List (List Nat) := []
def Hn27 : List (Nat × Nat) := []
def F28 : Fun := ⟨1, 11, [(2, none)],
 .seq (
 .region [zi 1 (.box 4 (.t 0)),
 zi 2 (.mov (.c (.bool false)))] none) (
 .seq (
 .region [zi 3 (.faddr 0 (.t 1)),
 zi 4 (.load false 1 [.int .i64] (.t 3)),
 zi 5 (.bin .neq (.t 4) (.c (.int .i64 4))),
 zj 6 5,
 ⟨some 7, .faddr 2 (.t 1), some (6, false)⟩,
 ⟨some 8, .load false 1 [.str] (.t 7), some (6, false)⟩,
 ⟨some 9, .call 34 [.t 8], some (6, false)⟩,
 zi 10 (.pick (.t 6) (.c (.bool true)) (.t 9)),
 zj 2 10] none) (
 .ret))⟩
def K28 : List (List Nat) := []
def Hn28 : List (Nat × Nat) := []
def F29 : Fun := ⟨2, 25, [(4, none), (5, none)],
 .seq (
 .region [zi 4 (.mov (.c (.int .i64 0))),
 zi 5 (.mov (.c (.int .i64 0)))] none) (
 .seq (
 .seq (
 .region [zj 8 1,
 zi 9 (.len .l (.t 8)),
 zi 10 (.mov (.c (.int .i64 0)))] none) (
 .block 0 (
 .loop [1002900, 0, 8, 9, 10, 2000000, 4, 5] (
 .seq (
 .region [zi 11 (.bin .lss (.t 10) (.t 9))] none) (
 .seq (
 .cond (.t 11) (
 .skip) (
 .exit 0)) (
 .seq (
 .block 1 (
 .seq (
 .region [zi 12 (.iaddr 2 [.str, .int .i64] (.t 8) (.t 10)),
 zi 13 (.load true 2 [.str, .int .i64] (.t 12)),
 zi 7 (.alloc (.agg [.str [], .int .i64 0])),
 ⟨none, .store 2 (.t 7) (.t 13), none⟩] none) (
 .seq (
 .region [zi 14 (.faddr 0 (.t 7)),
 zi 15 (.load false 1 [.str] (.t 14)),
 zj 16 0,
 zi 17 (.bin .eql (.t 15) (.t 16))] none) (
 .cond (.t 17) (
 .seq (
 .seq (
 .region [zi 18 (.faddr 1 (.t 7)),
 zi 19 (.load false 1 [.int .i64] (.t 18)),
 zi 20 (.call 14 [.t 19]),
 zi 21 (.un .not (.t 20))] none) (
 .cond (.t 21) (
 .seq (
 .region [zi 4 (.mov (.c (.int .i64 0))),
 zi 5 (.mov (.c (.int .i64 3)))] none) (
 .ret)) (
 .skip))) (
 .seq (
 .region [zi 22 (.faddr 1 (.t 7)),
 zi 23 (.load false 1 [.int .i64] (.t 22)),
 zj 4 23,
 zi 5 (.mov (.c (.int .i64 0)))] none) (
 .ret))) (
 .skip))))) (
 .region [zi 24 (.bin .add (.t 10) (.c (.int .i64 1))),
 zj 10 24] none))))))) (
 .seq (
 .region [zi 4 (.mov (.c (.int .i64 0))),
 zi 5 (.mov (.c (.int .i64 4)))] none) (
 .ret)))⟩
def K29 : List (List Nat) := [[1002900, 0, 8, 9, 10, 2000000, 4, 5]]
def Hn29 : List (Nat × Nat) := []
def F30 : Fun := ⟨2, 23, [(4, none), (5, none)],
 .seq (
 .region [zi 4 (.mov (.c (.int .i64 0))),
 zi 5 (.mov (.c (.bool false)))] none) (
 .seq (
 .seq (
 .region [zj 6 0,
 zi 7 (.call 22 [.t 6]),
 zi 8 (.un .not (.t 7)),
 zj 9 8,
 ⟨some 10, .mov (.t 1), some (9, false)⟩,
 ⟨some 11, .call 22 [.t 10], some (9, false)⟩,
 ⟨some 12, .un .not (.t 11), some (9, false)⟩,
 zi 13 (.pick (.t 9) (.c (.bool true)) (.t 12))] none) (
 .cond (.t 13) (
 .seq (
 .region [zi 4 (.mov (.c (.int .i64 0))),
 zi 5 (.mov (.c (.bool false)))] none) (
 .ret)) (
 .skip))) (
 .seq (
 .seq (
 .region [zj 14 0,
 zi 15 (.bin .eql (.t 14) (.c (.int .i64 1)))] none) (
 .cond (.t 15) (
 .seq (
 .region [zj 16 1,
 zj 4 16,
 zi 5 (.mov (.c (.bool true)))] none) (
 .ret)) (
 .skip))) (
 .seq (
 .seq (
 .region [zj 17 1,
 zi 18 (.bin .eql (.t 17) (.c (.int .i64 1)))] none) (
 .cond (.t 18) (
 .seq (
 .region [zj 19 0,
 zj 4 19,
 zi 5 (.mov (.c (.bool true)))] none) (
 .ret)) (
 .skip))) (
 .seq (
 .region [zj 20 0,
 zj 21 1,
 zi 22 (.bin .neq (.t 20) (.t 21)),
 zi 4 (.mov (.c (.int .i64 2))),
 zj 5 22] none) (
 .ret)))))⟩
def K30 : List (List Nat) := []
def Hn30 : List (Nat × Nat) := []
def F32 : Fun := ⟨1, 8, [(3, none)],
 .seq (
 .region [zi 2 (.box 4 (.t 0)),
 zi 3 (.mov (.c (.bool false)))] none) (
 .seq (
 .region [zi 4 (.load true 4 [.int .i64, .int .i64, .str, .slice 4] (.t 2)),
 zi 5 (.load false 1 [] (.t 1)),
 zi 6 (.call 26 [.t 4, .t 5]),
 zi 7 (.un .not (.t 6)),
 zj 3 7] none) (
 .ret))⟩
def K32 : List (List Nat) := []
def Hn32 : List (Nat × Nat) := []
def F31 : Fun := ⟨2, 9, [(4, none)],
 .seq (
 .region [zi 4 (.mov (.c (.bool false)))] none) (
 .seq (
 .region [zj 5 0,
 zj 6 1,
 zi 7 (.call 35 [.t 5, .t 6]),
 zi 8 (.bin .geq (.t 7) (.c (.int .i64 0))),
 zj 4 8] none) (
 .ret))⟩
def K31 : List (List Nat) := []
def Hn31 : List (Nat × Nat) := []
def F33 : Fun := ⟨1, 20, [(2, none)],
 .seq (
 .region [zi 2 (.mov (.c (.int .i64 0)))] none) (
 .seq (
 .seq (
 .region [zj 3 0] none) (
 .block 0 (
 .seq (
 .seq (
 .region [zi 5 (.bin .eql (.t 3) (.c (.int .i64 1))),
 zj 4 5] none) (
 .cond (.t 4) (
 .skip) (
 .seq (
 .region [zi 6 (.bin .eql (.t 3) (.c (.int .i64 2))),
 zj 4 6] none) (
 .cond (.t 4) (
 .skip) (
 .seq (
 .region [zi 7 (.bin .eql (.t 3) (.c (.int .i64 3))),
 zj 4 7] none) (
 .cond (.t 4) (
 .skip) (
 .region [zi 8 (.bin .eql (.t 3) (.c (.int .i64 4))),
 zj 4 8] none))))))) (
 .cond (.t 4) (
 .seq (
 .region [zi 2 (.mov (.c (.int .i64 0)))] none) (
 .ret)) (
 .seq (
 .seq (
 .region [zi 10 (.bin .eql (.t 3) (.c (.int .i64 9))),
 zj 9 10] none) (
 .cond (.t 9) (
 .skip) (
 .region [zi 11 (.bin .eql (.t 3) (.c (.int .i64 16))),
 zj 9 11] none))) (
 .cond (.t 9) (
 .seq (
 .region [zi 2 (.mov (.c (.int .i64 1)))] none) (
 .ret)) (
 .seq (
 .region [zi 13 (.bin .eql (.t 3) (.c (.int .i64 19))),
 zj 12 13] none) (
 .cond (.t 12) (
 .seq (
 .region [zi 2 (.mov (.c (.int .i64 3)))] none) (
 .ret)) (
 .skip))))))))) (
 .seq (
 .seq (
 .region [zj 14 0,
 zi 15 (.bin .geq (.t 14) (.c (.int .i64 5))),
 zj 16 15,
 ⟨some 17, .mov (.t 0), some (16, true)⟩,
 ⟨some 18, .bin .leq (.t 17) (.c (.int .i64 18)), some (16, true)⟩,
 zi 19 (.pick (.t 16) (.t 18) (.c (.bool false)))] none) (
 .cond (.t 19) (
 .seq (
 .region [zi 2 (.mov (.c (.int .i64 2)))] none) (
 .ret)) (
 .skip))) (
 .seq (
 .region [zi 2 (.mov (.c (.int .i64 (-1))))] none) (
 .ret))))⟩
def K33 : List (List Nat) := []
def Hn33 : List (Nat × Nat) := []
def F34 : Fun := ⟨1, 34, [(2, none)],
 .seq (
 .region [zi 2 (.mov (.c (.bool false)))] none) (
 .seq (
 .region [zj 7 0,
 zi 8 (.call 36 [.t 7]),
 zj 6 8,
 zi 9 (.ext (.t 6) 0),
 zi 10 (.ext (.t 6) 1),
 zi 11 (.ext (.t 6) 2),
 zj 3 9,
 zj 4 10,
 zj 5 11] none) (
 .seq (
 .region [zj 12 5,
 zi 13 (.bin .eql (.t 12) (.c (.int .i64 0))),
 zj 14 13,
 ⟨some 15, .mov (.t 3), some (14, true)⟩,
 ⟨some 16, .len .l (.t 15), some (14, true)⟩,
 ⟨some 17, .bin .eql (.t 16) (.c (.int .i64 1)), some (14, true)⟩,
 zi 18 (.pick (.t 14) (.t 17) (.c (.bool false))),
 zj 19 18,
 ⟨some 20, .mov (.t 3), some (19, true)⟩,
 ⟨some 21, .iaddr 3 [.int .i64, .int .i64, .str] (.t 20) (.c (.int .i64 0)), some (19, true)⟩,
 ⟨some 22, .faddr 0 (.t 21), some (19, true)⟩,
 ⟨some 23, .load false 1 [.int .i64] (.t 22), some (19, true)⟩,
 ⟨some 24, .bin .eql (.t 23) (.c (.int .i64 1)), some (19, true)⟩,
 zi 25 (.pick (.t 19) (.t 24) (.c (.bool false))),
 zj 26 25,
 ⟨some 27, .mov (.t 3), some (26, true)⟩,
 ⟨some 28, .iaddr 3 [.int .i64, .int .i64, .str] (.t 27) (.c (.int .i64 0)), some (26, true)⟩,
 ⟨some 29, .faddr 2 (.t 28), some (26, true)⟩,
 ⟨some 30, .load false 1 [.str] (.t 29), some (26, true)⟩,
 ⟨some 31, .mov (.t 0), some (26, true)⟩,
 ⟨some 32, .bin .eql (.t 30) (.t 31), some (26, true)⟩,
 zi 33 (.pick (.t 26) (.t 32) (.c (.bool false))),
 zj 2 33] none) (
 .ret)))⟩
def K34 : List (List Nat) := []
def Hn34 : List (Nat × Nat) := []
def F35 : Fun := ⟨2, 19, [(4, none)],
 .seq (
 .region [zi 4 (.mov (.c (.int .i64 0)))] none) (
 .seq (
 .seq (
 .region [zj 6 0,
 zi 7 (.len .l (.t 6)),
 zi 8 (.mov (.c (.int .i64 0)))] none) (
 .block 0 (
 .loop [1003500, 0, 1, 7, 8, 2000000, 4] (
 .seq (
 .region [zi 9 (.bin .lss (.t 8) (.t 7))] none) (
 .seq (
 .cond (.t 9) (
 .skip) (
 .exit 0)) (
 .seq (
 .block 1 (
 .seq (
 .region [zj 10 8,
 zj 5 10] none) (
 .seq (
 .region [zj 11 1,
 zj 12 0,
 zj 13 5,
 zi 14 (.iaddr 4 [.int .i64, .int .i64, .str, .slice 4] (.t 12) (.t 13)),
 zi 15 (.load true 4 [.int .i64, .int .i64, .str, .slice 4] (.t 14)),
 zi 16 (.callv (.t 11) [.t 15])] none) (
 .cond (.t 16) (
 .seq (
 .region [zj 17 5,
 zj 4 17] none) (
 .ret)) (
 .skip))))) (
 .region [zi 18 (.bin .add (.t 8) (.c (.int .i64 1))),
 zj 8 18] none))))))) (
 .seq (
 .region [zi 4 (.mov (.c (.int .i64 (-1))))] none) (
 .ret)))⟩
def K35 : List (List Nat) := [[1003500, 0, 1, 7, 8, 2000000, 4]]
def Hn35 : List (Nat × Nat) := []
def F36 : Fun := ⟨1, 47, [(2, none), (3, none), (4, none)],
 .seq (
 .region [zi 2 (.mov (.c (.nils 3))),
 zi 3 (.mov (.c (.int .i64 0))),
 zi 4 (.mov (.c (.int .i64 0)))] none) (
 .seq (
 .seq (
 .region [zj 10 0,
 zi 11 (.len .s (.t 10)),
 zi 12 (.bin .gtr (.t 11) (.c (.int .i64 2048)))] none) (
 .cond (.t 12) (
 .seq (
 .region [zi 2 (.mov (.c (.nils 3))),
 zi 3 (.mov (.c (.int .i64 0))),
 zi 4 (.mov (.c (.int .i64 5)))] none) (
 .ret)) (
 .skip))) (
 .seq (
 .region [zi 5 (.mov (.c (.nils 3)))] none) (
 .seq (
 .region [zi 6 (.mov (.c (.int .i64 1)))] none) (
 .block 0 (
 .loop [1003600, 0, 5, 6, 2000000, 2, 3, 4] (
 .block 1 (
 .seq (
 .region [zj 13 0,
 zi 14 (.call 37 [.t 13]),
 zj 7 14] none) (
 .seq (
 .region [zj 15 6,
 zj 16 0,
 zj 17 7,
 zi 18 (.slcs (.t 16) none (some (.t 17))),
 zi 19 (.call 38 [.t 18, .c (.str [10])]),
 zi 20 (.bin .add (.t 15) (.t 19)),
 zj 6 20] none) (
 .seq (
 .region [zj 21 0,
 zj 22 7,
 zi 23 (.slcs (.t 21) (some (.t 22)) none),
 zj 0 23] none) (
 .seq (
 .seq (
 .region [zj 24 0,
 zi 25 (.bin .eql (.t 24) (.c (.str [])))] none) (
 .cond (.t 25) (
 .seq (
 .region [zj 26 5,
 zj 2 26,
 zi 3 (.mov (.c (.int .i64 0))),
 zi 4 (.mov (.c (.int .i64 0)))] none) (
 .ret)) (
 .skip))) (
 .seq (
 .region [zj 28 0,
 zi 29 (.call 39 [.t 28]),
 zj 27 29,
 zi 30 (.ext (.t 27) 0),
 zi 31 (.ext (.t 27) 1),
 zi 8 (.alloc (.agg [.int .i64 0, .int .i64 0, .str []])),
 ⟨none, .store 3 (.t 8) (.t 30), none⟩,
 zj 9 31] none) (
 .seq (
 .seq (
 .region [zj 32 9,
 zi 33 (.bin .neq (.t 32) (.c (.int .i64 0)))] none) (
 .cond (.t 33) (
 .seq (
 .region [zj 34 6,
 zj 35 9,
 zi 2 (.mov (.c (.nils 3))),
 zj 3 34,
 zj 4 35] none) (
 .ret)) (
 .skip))) (
 .seq (
 .region [zj 36 6,
 zi 37 (.faddr 1 (.t 8)),
 ⟨none, .store 1 (.t 37) (.t 36), none⟩] none) (
 .seq (
 .region [zj 38 5,
 zi 39 (.load true 3 [.int .i64, .int .i64, .str] (.t 8)),
 zi 40 (.bslice 3 (.agg [.int .i64 0, .int .i64 0, .str []]) 1 [(0, (.t 39))]),
 zi 41 (.app 3 32 (.t 38) (.t 40)),
 zj 5 41] none) (
 .region [zj 42 0,
 zi 43 (.faddr 2 (.t 8)),
 zi 44 (.load false 1 [.str] (.t 43)),
 zi 45 (.len .s (.t 44)),
 zi 46 (.slcs (.t 42) (some (.t 45)) none),
 zj 0 46] none)))))))))))))))⟩
def K36 : List (List Nat) := [[1003600, 0, 5, 6, 2000000, 2, 3, 4]]
def Hn36 : List (Nat × Nat) := [(2, 3), (5, 3)]
def F37 : Fun := ⟨1, 28, [(2, none)],
 .seq (
 .region [zi 2 (.mov (.c (.int .i64 0)))] none) (
 .seq (
 .region [zi 3 (.mov (.c (.int .i64 0)))] none) (
 .seq (
 .block 0 (
 .loop [1003700, 0, 3, 2000000, 2, 3] (
 .seq (
 .seq (
 .region [zj 4 3,
 zj 5 0,
 zi 6 (.len .s (.t 5)),
 zi 7 (.bin .lss (.t 4) (.t 6))] none) (
 .cond (.t 7) (
 .skip) (
 .exit 0))) (
 .block 1 (
 .seq (
 .region [zj 8 0,
 zj 9 3,
 zi 10 (.idxs (.t 8) (.t 9))] none) (
 .block 2 (
 .seq (
 .seq (
 .region [zi 13 (.bin .eql (.t 10) (.c (.int .u8 32))),
 zj 12 13] none) (
 .cond (.t 12) (
 .skip) (
 .seq (
 .region [zi 14 (.bin .eql (.t 10) (.c (.int .u8 9))),
 zj 12 14] none) (
 .cond (.t 12) (
 .skip) (
 .region [zi 15 (.bin .eql (.t 10) (.c (.int .u8 10))),
 zj 12 15] none))))) (
 .cond (.t 12) (
 .region [zj 16 3,
 zi 17 (.bin .add (.t 16) (.c (.int .i64 1))),
 zj 3 17] none) (
 .seq (
 .region [zi 19 (.bin .eql (.t 10) (.c (.int .u8 35))),
 zj 18 19] none) (
 .cond (.t 18) (
 .region [zj 20 3,
 zj 21 0,
 zj 22 3,
 zi 23 (.slcs (.t 21) (some (.t 22)) none),
 zi 24 (.call 40 [.t 23, .f 41]),
 zi 25 (.len .s (.t 24)),
 zi 26 (.bin .add (.t 20) (.t 25)),
 zj 3 26] none) (
 .seq (
 .region [zj 11 3,
 zj 2 11] none) (
 .ret)))))))))))) (
 .seq (
 .region [zj 27 3,
 zj 2 27] none) (
 .ret))))⟩
def K37 : List (List Nat) := [[1003700, 0, 3, 2000000, 2, 3]]
def Hn37 : List (Nat × Nat) := []
def F39 : Fun := ⟨1, 47, [(2, some (true, 3)), (3, none)],
 .seq (
 .region [zi 2 (.alloc (.agg [.int .i64 0, .int .i64 0, .str []])),
 zi 3 (.mov (.c (.int .i64 0)))] none) (
 .seq (
 .seq (
 .region [zj 8 0,
 zi 9 (.idxs (.t 8) (.c (.int .i64 0))),
 zi 10 (.conv .i32 (.t 9)),
 zj 4 10] none) (
 .block 0 (
 .seq (
 .region [zj 12 4,
 zi 13 (.call 45 [.t 12]),
 zj 11 13] none) (
 .cond (.t 11) (
 .seq (
 .region [zj 14 0,
 zi 15 (.call 40 [.t 14, .f 46]),
 zj 5 15] none) (
 .seq (
 .seq (
 .region [zj 16 5,
 zi 17 (.call 47 [.t 16])] none) (
 .cond (.t 17) (
 .seq (
 .region [zj 18 5,
 zi 19 (.build [.int .i64 0, .int .i64 0, .str []] [(0, 1, (.c (.int .i64 5))), (2, 1, (.t 18))]),
 ⟨none, .store 3 (.t 2) (.t 19), none⟩,
 zi 3 (.mov (.c (.int .i64 0)))] none) (
 .ret)) (
 .skip))) (
 .seq (
 .seq (
 .region [zj 20 5,
 zi 21 (.len .s (.t 20)),
 zi 22 (.bin .gtr (.t 21) (.c (.int .i64 16)))] none) (
 .cond (.t 22) (
 .seq (
 .region [zi 23 (.build [.int .i64 0, .int .i64 0, .str []] []),
 ⟨none, .store 3 (.t 2) (.t 23), none⟩,
 zi 3 (.mov (.c (.int .i64 4)))] none) (
 .ret)) (
 .skip))) (
 .seq (
 .region [zj 24 5,
 zi 25 (.build [.int .i64 0, .int .i64 0, .str []] [(0, 1, (.c (.int .i64 1))), (2, 1, (.t 24))]),
 ⟨none, .store 3 (.t 2) (.t 25), none⟩,
 zi 3 (.mov (.c (.int .i64 0)))] none) (
 .ret))))) (
 .seq (
 .region [zj 27 4,
 zi 28 (.call 48 [.t 27]),
 zj 26 28] none) (
 .cond (.t 26) (
 .seq (
 .region [zj 29 0,
 zi 30 (.call 40 [.t 29, .f 50]),
 zi 31 (.call 49 [.t 30]),
 zi 32 (.ext (.t 31) 0),
 zi 33 (.ext (.t 31) 1),
 ⟨none, .store 3 (.t 2) (.t 32), none⟩,
 zj 3 33] none) (
 .ret)) (
 .skip))))))) (
 .seq (
 .seq (
 .region [zi 34 (.call 51 []),
 zi 35 (.len .l (.t 34)),
 zi 36 (.mov (.c (.int .i64 0)))] none) (
 .block 1 (
 .loop [1003900, 0, 2, 34, 35, 36, 2000000, 2, 3] (
 .seq (
 .region [zi 37 (.bin .lss (.t 36) (.t 35))] none) (
 .seq (
 .cond (.t 37) (
 .skip) (
 .exit 1)) (
 .seq (
 .block 2 (
 .seq (
 .region [zi 38 (.iaddr 1 [.str] (.t 34) (.t 36)),
 zi 39 (.load false 1 [.str] (.t 38)),
 zj 7 39] none) (
 .seq (
 .region [zj 40 0,
 zj 41 7,
 zi 42 (.call 52 [.t 40, .t 41])] none) (
 .cond (.t 42) (
 .seq (
 .region [zj 43 7,
 zi 44 (.build [.int .i64 0, .int .i64 0, .str []] [(0, 1, (.c (.int .i64 4))), (2, 1, (.t 43))]),
 ⟨none, .store 3 (.t 2) (.t 44), none⟩,
 zi 3 (.mov (.c (.int .i64 0)))] none) (
 .ret)) (
 .skip))))) (
 .region [zi 45 (.bin .add (.t 36) (.c (.int .i64 1))),
 zj 36 45] none))))))) (
 .seq (
 .region [zi 46 (.build [.int .i64 0, .int .i64 0, .str []] []),
 ⟨none, .store 3 (.t 2) (.t 46), none⟩,
 zi 3 (.mov (.c (.int .i64 2)))] none) (
 .ret))))⟩
def K39 : List (List Nat) := [[1003900, 0, 2, 34, 35, 36, 2000000, 2, 3]]
def Hn39 : List (Nat × Nat) := []
def F40 : Fun := ⟨2, 23, [(4, none)],
 .seq (
 .region [zi 4 (.mov (.c (.str [])))] none) (
 .seq (
 .region [zi 5 (.mov (.c (.int .i64 0)))] none) (
 .seq (
 .block 0 (
 .loop [1004000, 0, 1, 5, 2000000, 0, 5] (
 .seq (
 .seq (
 .region [zj 6 5,
 zj 7 0,
 zi 8 (.len .s (.t 7)),
 zi 9 (.bin .lss (.t 6) (.t 8)),
 zj 10 9,
 ⟨some 11, .mov (.t 1), some (10, true)⟩,
 ⟨some 12, .mov (.t 0), some (10, true)⟩,
 ⟨some 13, .mov (.t 5), some (10, true)⟩,
 ⟨some 14, .idxs (.t 12) (.t 13), some (10, true)⟩,
 ⟨some 15, .conv .i32 (.t 14), some (10, true)⟩,
 ⟨some 16, .callv (.t 11) [.t 15], some (10, true)⟩,
 zi 17 (.pick (.t 10) (.t 16) (.c (.bool false)))] none) (
 .cond (.t 17) (
 .skip) (
 .exit 0))) (
 .block 1 (
 .region [zj 18 5,
 zi 19 (.bin .add (.t 18) (.c (.int .i64 1))),
 zj 5 19] none))))) (
 .seq (
 .region [zj 20 0,
 zj 21 5,
 zi 22 (.slcs (.t 20) none (some (.t 21))),
 zj 4 22] none) (
 .ret))))⟩
def K40 : List (List Nat) := [[1004000, 0, 1, 5, 2000000, 0, 5]]
def Hn40 : List (Nat × Nat) := []
def F41 : Fun := ⟨1, 5, [(2, none)],
 .seq (
 .region [zi 2 (.mov (.c (.bool false)))] none) (
 .seq (
 .region [zj 3 0,
 zi 4 (.bin .neq (.t 3) (.c (.int .i32 10))),
 zj 2 4] none) (
 .ret))⟩
def K41 : List (List Nat) := []
def Hn41 : List (Nat × Nat) := []
def F45 : Fun := ⟨1, 9, [(2, none)],
 .seq (
 .region [zi 2 (.mov (.c (.bool false)))] none) (
 .seq (
 .region [zj 3 0,
 zi 4 (.bin .geq (.t 3) (.c (.int .i32 97))),
 zj 5 4,
 ⟨some 6, .mov (.t 0), some (5, true)⟩,
 ⟨some 7, .bin .leq (.t 6) (.c (.int .i32 122)), some (5, true)⟩,
 zi 8 (.pick (.t 5) (.t 7) (.c (.bool false))),
 zj 2 8] none) (
 .ret))⟩
def K45 : List (List Nat) := []
def Hn45 : List (Nat × Nat) := []
def F46 : Fun := ⟨1, 13, [(2, none)],
 .seq (
 .region [zi 2 (.mov (.c (.bool false)))] none) (
 .seq (
 .region [zj 3 0,
 zi 4 (.call 45 [.t 3]),
 zj 5 4,
 ⟨some 6, .mov (.t 0), some (5, false)⟩,
 ⟨some 7, .call 48 [.t 6], some (5, false)⟩,
 zi 8 (.pick (.t 5) (.c (.bool true)) (.t 7)),
 zj 9 8,
 ⟨some 10, .mov (.t 0), some (9, false)⟩,
 ⟨some 11, .bin .eql (.t 10) (.c (.int .i32 95)), some (9, false)⟩,
 zi 12 (.pick (.t 9) (.c (.bool true)) (.t 11)),
 zj 2 12] none) (
 .ret))⟩
def K46 : List (List Nat) := []
def Hn46 : List (Nat × Nat) := []
def F47 : Fun := ⟨1, 6, [(2, none)],
 .seq (
 .region [zi 2 (.mov (.c (.bool false)))] none) (
 .seq (
 .region [zi 3 (.call 55 []),
 zj 4 0,
 zi 5 (.call 54 [.t 3, .t 4]),
 zj 2 5] none) (
 .ret))⟩
def K47 : List (List Nat) := []
def Hn47 : List (Nat × Nat) := []
def F48 : Fun := ⟨1, 9, [(2, none)],
 .seq (
 .region [zi 2 (.mov (.c (.bool false)))] none) (
 .seq (
 .region [zj 3 0,
 zi 4 (.bin .geq (.t 3) (.c (.int .i32 48))),
 zj 5 4,
 ⟨some 6, .mov (.t 0), some (5, true)⟩,
 ⟨some 7, .bin .leq (.t 6) (.c (.int .i32 57)), some (5, true)⟩,
 zi 8 (.pick (.t 5) (.t 7) (.c (.bool false))),
 zj 2 8] none) (
 .ret))⟩
def K48 : List (List Nat) := []
def Hn48 : List (Nat × Nat) := []
def F50 : Fun := ⟨1, 13, [(2, none)],
 .seq (
 .region [zi 2 (.mov (.c (.bool false)))] none) (
 .seq (
 .region [zj 3 0,
 zi 4 (.call 46 [.t 3]),
 zj 5 4,
 ⟨some 6, .mov (.t 0), some (5, false)⟩,
 ⟨some 7, .bin .eql (.t 6) (.c (.int .i32 46)), some (5, false)⟩,
 zi 8 (.pick (.t 5) (.c (.bool true)) (.t 7)),
 zj 9 8,
 ⟨some 10, .mov (.t 0), some (9, false)⟩,
 ⟨some 11, .bin .eql (.t 10) (.c (.int .i32 37)), some (9, false)⟩,
 zi 12 (.pick (.t 9) (.c (.bool true)) (.t 11)),
 zj 2 12] none) (
 .ret))⟩
def K50 : List (List Nat) := []
def Hn50 : List (Nat × Nat) := []
def F49 : Fun := ⟨1, 34, [(2, some (true, 3)), (3, none)],
 .seq (
 .region [zi 2 (.alloc (.agg [.int .i64 0, .int .i64 0, .str []])),
 zi 3 (.mov (.c (.int .i64 0)))] none) (
 .seq (
 .seq (
 .region [zj 8 0,
 zi 9 (.call 56 [.t 8])] none) (
 .cond (.t 9) (
 .seq (
 .seq (
 .region [zj 11 0,
 zi 12 (.call 57 [.t 11, .c (.int .i64 10), .c (.int .i64 64)]),
 zj 10 12,
 zi 13 (.ext (.t 10) 0),
 zi 14 (.ext (.t 10) 1),
 zj 4 13,
 zj 5 14] none) (
 .seq (
 .region [zj 15 5,
 zi 16 (.eqn .i true (.t 15) (.c (.nili)))] none) (
 .cond (.t 16) (
 .seq (
 .region [zi 17 (.build [.int .i64 0, .int .i64 0, .str []] []),
 ⟨none, .store 3 (.t 2) (.t 17), none⟩,
 zi 3 (.mov (.c (.int .i64 6)))] none) (
 .ret)) (
 .skip)))) (
 .seq (
 .region [zj 18 0,
 zi 19 (.build [.int .i64 0, .int .i64 0, .str []] [(0, 1, (.c (.int .i64 2))), (2, 1, (.t 18))]),
 ⟨none, .store 3 (.t 2) (.t 19), none⟩,
 zi 3 (.mov (.c (.int .i64 0)))] none) (
 .ret))) (
 .skip))) (
 .seq (
 .seq (
 .region [zj 21 0,
 zi 22 (.call 58 [.t 21]),
 zj 20 22,
 zi 23 (.ext (.t 20) 0),
 zi 24 (.ext (.t 20) 1),
 zj 6 23,
 zj 7 24] none) (
 .seq (
 .region [zj 25 7] none) (
 .block 0 (
 .seq (
 .region [zi 27 (.bin .eql (.t 25) (.c (.int .i64 0))),
 zj 26 27] none) (
 .cond (.t 26) (
 .seq (
 .region [zj 28 0,
 zi 29 (.build [.int .i64 0, .int .i64 0, .str []] [(0, 1, (.c (.int .i64 3))), (2, 1, (.t 28))]),
 ⟨none, .store 3 (.t 2) (.t 29), none⟩,
 zi 3 (.mov (.c (.int .i64 0)))] none) (
 .ret)) (
 .seq (
 .region [zi 31 (.bin .eql (.t 25) (.c (.int .i64 1))),
 zj 30 31] none) (
 .cond (.t 30) (
 .seq (
 .region [zi 32 (.build [.int .i64 0, .int .i64 0, .str []] []),
 ⟨none, .store 3 (.t 2) (.t 32), none⟩,
 zi 3 (.mov (.c (.int .i64 6)))] none) (
 .ret)) (
 .skip)))))))) (
 .seq (
 .region [zi 33 (.build [.int .i64 0, .int .i64 0, .str []] []),
 ⟨none, .store 3 (.t 2) (.t 33), none⟩,
 zi 3 (.mov (.c (.int .i64 2)))] none) (
 .ret))))⟩
def K49 : List (List Nat) := []
def Hn49 : List (Nat × Nat) := []
def F51 : Fun := ⟨0, 2, [(0, none)],
 .seq (
 .region [zi 0 (.mov (.c (.nils 1)))] none) (
 .seq (
 .region [zi 1 (.call 59 [.c (.str [61, 61, 32, 33, 61, 32, 60, 61, 32, 123, 32, 125, 32, 40, 32, 41, 32, 44, 32, 59, 32, 58, 32, 36, 32, 43, 32, 45, 32, 42, 32, 47, 32, 60])]),
 zj 0 1] none) (
 .ret))⟩
def K51 : List (List Nat) := []
def Hn51 : List (Nat × Nat) := [(0, 1)]
def F52 : Fun := ⟨2, 8, [(4, none)],
 .seq (
 .region [zi 4 (.mov (.c (.bool false)))] none) (
 .seq (
 .region [zj 5 0,
 zj 6 1,
 zi 7 (.call 60 [.t 5, .t 6]),
 zj 4 7] none) (
 .ret))⟩
def K52 : List (List Nat) := []
def Hn52 : List (Nat × Nat) := []
def F55 : Fun := ⟨0, 2, [(0, none)],
 .seq (
 .region [zi 0 (.mov (.c (.nils 1)))] none) (
 .seq (
 .region [zi 1 (.call 59 [.c (.str [112, 114, 111, 100, 117, 99, 116, 32, 99, 117, 114, 114, 101, 110, 99, 121, 32, 99, 97, 108, 101, 110, 100, 97, 114, 32, 102, 114, 111, 109, 32, 101, 118, 101, 114, 121, 32, 111, 118, 101, 114, 100, 114, 97, 102, 116, 32, 116, 97, 120, 32, 99, 114, 101, 100, 105, 116, 32, 100, 101, 98, 105, 116, 32, 109, 97, 114, 103, 105, 110, 97, 108, 32, 119, 104, 111, 108, 101, 32, 97, 99, 116, 51, 54, 48, 32, 97, 99, 116, 51, 54, 53, 32, 97, 99, 116, 117, 97, 108, 32, 116, 104, 105, 114, 116, 121, 32, 100, 111, 119, 110, 32, 117, 112, 32, 102, 108, 111, 111, 114, 32, 99, 101, 105, 108, 32, 104, 97, 108, 102, 95, 117, 112, 32, 104, 97, 108, 102, 95, 101, 118, 101, 110, 32, 107, 101, 101, 112, 32, 100, 114, 111, 112, 32, 102, 101, 101, 32, 108, 105, 109, 105, 116, 32, 119, 104, 101, 110, 32, 97, 109, 111, 117, 110, 116, 95, 111, 102, 32, 115, 105, 110, 103, 108, 101, 32, 100, 97, 105, 108, 121, 32, 109, 111, 110, 116, 104, 108, 121, 32, 109, 111, 110, 116, 104, 32, 114, 101, 116, 117, 114, 110, 32, 99, 108, 111, 115, 101, 32, 101, 118, 101, 110, 116, 32, 105, 102, 32, 116, 104, 101, 110, 32, 101, 108, 115, 101, 32, 97, 110, 100, 32, 111, 114, 32, 110, 111, 116, 32, 109, 105, 110, 32, 109, 97, 120])]),
 zj 0 1] none) (
 .ret))⟩
def K55 : List (List Nat) := []
def Hn55 : List (Nat × Nat) := [(0, 1)]
def F54 : Fun := ⟨2, 9, [(4, none)],
 .seq (
 .region [zi 4 (.mov (.c (.bool false)))] none) (
 .seq (
 .region [zj 5 0,
 zj 6 1,
 zi 7 (.call 65 [.t 5, .t 6]),
 zi 8 (.bin .geq (.t 7) (.c (.int .i64 0))),
 zj 4 8] none) (
 .ret))⟩
def K54 : List (List Nat) := []
def Hn54 : List (Nat × Nat) := []
def F56 : Fun := ⟨1, 21, [(2, none)],
 .seq (
 .region [zi 2 (.mov (.c (.bool false)))] none) (
 .seq (
 .region [zj 3 0,
 zi 4 (.bin .neq (.t 3) (.c (.str []))),
 zj 5 4,
 ⟨some 6, .mov (.t 0), some (5, true)⟩,
 ⟨some 7, .call 40 [.t 6, .f 48], some (5, true)⟩,
 ⟨some 8, .mov (.t 0), some (5, true)⟩,
 ⟨some 9, .bin .eql (.t 7) (.t 8), some (5, true)⟩,
 zi 10 (.pick (.t 5) (.t 9) (.c (.bool false))),
 zj 11 10,
 ⟨some 12, .mov (.t 0), some (11, true)⟩,
 ⟨some 13, .len .s (.t 12), some (11, true)⟩,
 ⟨some 14, .bin .eql (.t 13) (.c (.int .i64 1)), some (11, true)⟩,
 ⟨some 15, .mov (.t 14), some (11, true)⟩,
 ⟨some 16, .mov (.t 0), some (15, false)⟩,
 ⟨some 17, .idxs (.t 16) (.c (.int .i64 0)), some (15, false)⟩,
 ⟨some 18, .bin .neq (.t 17) (.c (.int .u8 48)), some (15, false)⟩,
 ⟨some 19, .pick (.t 15) (.c (.bool true)) (.t 18), some (11, true)⟩,
 zi 20 (.pick (.t 11) (.t 19) (.c (.bool false))),
 zj 2 20] none) (
 .ret))⟩
def K56 : List (List Nat) := []
def Hn56 : List (Nat × Nat) := []
def F58 : Fun := ⟨1, 73, [(2, none), (3, none)],
 .seq (
 .region [zi 2 (.mov (.c (.int .i64 0))),
 zi 3 (.mov (.c (.int .i64 0)))] none) (
 .seq (
 .region [zj 12 0,
 zi 13 (.call 68 [.t 12, .c (.str [37])]),
 zj 11 13,
 zi 14 (.ext (.t 11) 0),
 zi 15 (.ext (.t 11) 1),
 zj 4 14,
 zj 5 15] none) (
 .seq (
 .region [zj 17 4,
 zi 18 (.call 69 [.t 17, .c (.str [46])]),
 zj 16 18,
 zi 19 (.ext (.t 16) 0),
 zi 20 (.ext (.t 16) 1),
 zi 21 (.ext (.t 16) 2),
 zj 6 19,
 zj 7 20,
 zj 8 21] none) (
 .seq (
 .seq (
 .region [zj 22 5,
 zi 23 (.un .not (.t 22)),
 zj 24 23,
 ⟨some 25, .mov (.t 6), some (24, false)⟩,
 ⟨some 26, .call 56 [.t 25], some (24, false)⟩,
 ⟨some 27, .un .not (.t 26), some (24, false)⟩,
 zi 28 (.pick (.t 24) (.c (.bool true)) (.t 27)),
 zj 29 28,
 ⟨some 30, .mov (.t 8), some (29, false)⟩,
 ⟨some 31, .mov (.t 30), some (29, false)⟩,
 ⟨some 32, .mov (.t 7), some (31, true)⟩,
 ⟨some 33, .bin .eql (.t 32) (.c (.str [])), some (31, true)⟩,
 ⟨some 34, .mov (.t 33), some (31, true)⟩,
 ⟨some 35, .mov (.t 7), some (34, false)⟩,
 ⟨some 36, .len .s (.t 35), some (34, false)⟩,
 ⟨some 37, .bin .gtr (.t 36) (.c (.int .i64 4)), some (34, false)⟩,
 ⟨some 38, .pick (.t 34) (.c (.bool true)) (.t 37), some (31, true)⟩,
 ⟨some 39, .mov (.t 38), some (31, true)⟩,
 ⟨some 40, .mov (.t 7), some (39, false)⟩,
 ⟨some 41, .call 40 [.t 40, .f 48], some (39, false)⟩,
 ⟨some 42, .mov (.t 7), some (39, false)⟩,
 ⟨some 43, .bin .neq (.t 41) (.t 42), some (39, false)⟩,
 ⟨some 44, .pick (.t 39) (.c (.bool true)) (.t 43), some (31, true)⟩,
 ⟨some 45, .mov (.t 44), some (31, true)⟩,
 ⟨some 46, .mov (.t 7), some (45, false)⟩,
 ⟨some 47, .mov (.t 7), some (45, false)⟩,
 ⟨some 48, .len .s (.t 47), some (45, false)⟩,
 ⟨some 49, .bin .sub (.t 48) (.c (.int .i64 1)), some (45, false)⟩,
 ⟨some 50, .idxs (.t 46) (.t 49), some (45, false)⟩,
 ⟨some 51, .bin .eql (.t 50) (.c (.int .u8 48)), some (45, false)⟩,
 ⟨some 52, .pick (.t 45) (.c (.bool true)) (.t 51), some (31, true)⟩,
 ⟨some 53, .pick (.t 31) (.t 52) (.c (.bool false)), some (29, false)⟩,
 zi 54 (.pick (.t 29) (.c (.bool true)) (.t 53))] none) (
 .cond (.t 54) (
 .seq (
 .region [zi 2 (.mov (.c (.int .i64 0))),
 zi 3 (.mov (.c (.int .i64 2)))] none) (
 .ret)) (
 .skip))) (
 .seq (
 .seq (
 .region [zj 55 6,
 zi 56 (.len .s (.t 55)),
 zi 57 (.bin .gtr (.t 56) (.c (.int .i64 3)))] none) (
 .cond (.t 57) (
 .seq (
 .region [zi 2 (.mov (.c (.int .i64 0))),
 zi 3 (.mov (.c (.int .i64 1)))] none) (
 .ret)) (
 .skip))) (
 .seq (
 .block 0 (
 .loop [1005800, 6, 7, 2000000, 6, 7] (
 .seq (
 .seq (
 .region [zj 58 7,
 zi 59 (.len .s (.t 58)),
 zi 60 (.bin .lss (.t 59) (.c (.int .i64 4)))] none) (
 .cond (.t 60) (
 .skip) (
 .exit 0))) (
 .block 1 (
 .region [zj 61 7,
 zi 62 (.bin .add (.t 61) (.c (.str [48]))),
 zj 7 62] none))))) (
 .seq (
 .region [zj 64 6,
 zj 65 7,
 zi 66 (.bin .add (.t 64) (.t 65)),
 zi 67 (.call 70 [.t 66]),
 zj 63 67,
 zi 68 (.ext (.t 63) 0),
 zi 69 (.ext (.t 63) 1),
 zj 9 68,
 zj 10 69] none) (
 .seq (
 .seq (
 .region [zj 70 9,
 zi 71 (.bin .gtr (.t 70) (.c (.int .i64 1000000)))] none) (
 .cond (.t 71) (
 .seq (
 .region [zi 2 (.mov (.c (.int .i64 0))),
 zi 3 (.mov (.c (.int .i64 1)))] none) (
 .ret)) (
 .skip))) (
 .seq (
 .region [zj 72 9,
 zj 2 72,
 zi 3 (.mov (.c (.int .i64 0)))] none) (
 .ret)))))))))⟩
def K58 : List (List Nat) := [[1005800, 6, 7, 2000000, 6, 7]]
def Hn58 : List (Nat × Nat) := []
def F60 : Fun := ⟨2, 18, [(4, none)],
 .seq (
 .region [zi 4 (.mov (.c (.bool false)))] none) (
 .seq (
 .region [zj 5 0,
 zi 6 (.len .s (.t 5)),
 zj 7 1,
 zi 8 (.len .s (.t 7)),
 zi 9 (.bin .geq (.t 6) (.t 8)),
 zj 10 9,
 ⟨some 11, .mov (.t 0), some (10, true)⟩,
 ⟨some 12, .mov (.t 1), some (10, true)⟩,
 ⟨some 13, .len .s (.t 12), some (10, true)⟩,
 ⟨some 14, .slcs (.t 11) none (some (.t 13)), some (10, true)⟩,
 ⟨some 15, .mov (.t 1), some (10, true)⟩,
 ⟨some 16, .bin .eql (.t 14) (.t 15), some (10, true)⟩,
 zi 17 (.pick (.t 10) (.t 16) (.c (.bool false))),
 zj 4 17] none) (
 .ret))⟩
def K60 : List (List Nat) := []
def Hn60 : List (Nat × Nat) := []
def F65 : Fun := ⟨2, 19, [(4, none)],
 .seq (
 .region [zi 4 (.mov (.c (.int .i64 0)))] none) (
 .seq (
 .seq (
 .region [zj 6 0,
 zi 7 (.len .l (.t 6)),
 zi 8 (.mov (.c (.int .i64 0)))] none) (
 .block 0 (
 .loop [1006500, 0, 1, 7, 8, 2000000, 4] (
 .seq (
 .region [zi 9 (.bin .lss (.t 8) (.t 7))] none) (
 .seq (
 .cond (.t 9) (
 .skip) (
 .exit 0)) (
 .seq (
 .block 1 (
 .seq (
 .region [zj 10 8,
 zj 5 10] none) (
 .seq (
 .region [zj 11 1,
 zj 12 0,
 zj 13 5,
 zi 14 (.iaddr 1 [.str] (.t 12) (.t 13)),
 zi 15 (.load false 1 [.str] (.t 14)),
 zi 16 (.bin .eql (.t 11) (.t 15))] none) (
 .cond (.t 16) (
 .seq (
 .region [zj 17 5,
 zj 4 17] none) (
 .ret)) (
 .skip))))) (
 .region [zi 18 (.bin .add (.t 8) (.c (.int .i64 1))),
 zj 8 18] none))))))) (
 .seq (
 .region [zi 4 (.mov (.c (.int .i64 (-1))))] none) (
 .ret)))⟩
def K65 : List (List Nat) := [[1006500, 0, 1, 7, 8, 2000000, 4]]
def Hn65 : List (Nat × Nat) := []
def F68 : Fun := ⟨2, 11, [(4, none), (5, none)],
 .seq (
 .region [zi 4 (.mov (.c (.str []))),
 zi 5 (.mov (.c (.bool false)))] none) (
 .seq (
 .region [zj 6 0,
 zj 7 1,
 zi 8 (.call 80 [.t 6, .t 7]),
 zi 9 (.ext (.t 8) 0),
 zi 10 (.ext (.t 8) 1),
 zj 4 9,
 zj 5 10] none) (
 .ret))⟩
def K68 : List (List Nat) := []
def Hn68 : List (Nat × Nat) := []
def F69 : Fun := ⟨2, 13, [(4, none), (5, none), (6, none)],
 .seq (
 .region [zi 4 (.mov (.c (.str []))),
 zi 5 (.mov (.c (.str []))),
 zi 6 (.mov (.c (.bool false)))] none) (
 .seq (
 .region [zj 7 0,
 zj 8 1,
 zi 9 (.call 81 [.t 7, .t 8]),
 zi 10 (.ext (.t 9) 0),
 zi 11 (.ext (.t 9) 1),
 zi 12 (.ext (.t 9) 2),
 zj 4 10,
 zj 5 11,
 zj 6 12] none) (
 .ret))⟩
def K69 : List (List Nat) := []
def Hn69 : List (Nat × Nat) := []
def F80 : Fun := ⟨2, 18, [(4, none), (5, none)],
 .seq (
 .region [zi 4 (.mov (.c (.str []))),
 zi 5 (.mov (.c (.bool false)))] none) (
 .seq (
 .seq (
 .region [zj 6 0,
 zj 7 1,
 zi 8 (.call 89 [.t 6, .t 7]),
 zi 9 (.un .not (.t 8))] none) (
 .cond (.t 9) (
 .seq (
 .region [zj 10 0,
 zj 4 10,
 zi 5 (.mov (.c (.bool false)))] none) (
 .ret)) (
 .skip))) (
 .seq (
 .region [zj 11 0,
 zj 12 0,
 zi 13 (.len .s (.t 12)),
 zj 14 1,
 zi 15 (.len .s (.t 14)),
 zi 16 (.bin .sub (.t 13) (.t 15)),
 zi 17 (.slcs (.t 11) none (some (.t 16))),
 zj 4 17,
 zi 5 (.mov (.c (.bool true)))] none) (
 .ret)))⟩
def K80 : List (List Nat) := []
def Hn80 : List (Nat × Nat) := []
def F81 : Fun := ⟨2, 23, [(4, none), (5, none), (6, none)],
 .seq (
 .region [zi 4 (.mov (.c (.str []))),
 zi 5 (.mov (.c (.str []))),
 zi 6 (.mov (.c (.bool false)))] none) (
 .seq (
 .seq (
 .region [zj 8 0,
 zj 9 1,
 zi 10 (.call 53 [.t 8, .t 9]),
 zj 7 10] none) (
 .seq (
 .region [zj 11 7,
 zi 12 (.bin .geq (.t 11) (.c (.int .i64 0)))] none) (
 .cond (.t 12) (
 .seq (
 .region [zj 13 0,
 zj 14 7,
 zi 15 (.slcs (.t 13) none (some (.t 14))),
 zj 16 0,
 zj 17 7,
 zj 18 1,
 zi 19 (.len .s (.t 18)),
 zi 20 (.bin .add (.t 17) (.t 19)),
 zi 21 (.slcs (.t 16) (some (.t 20)) none),
 zj 4 15,
 zj 5 21,
 zi 6 (.mov (.c (.bool true)))] (some [[], [], [0, 1], [], [], [], [5], [4, 6, 5], [3, 7, 4, 6, 5], [2, 0, 1], [8, 3, 7, 4, 6, 5, 9, 2, 0, 1], [10, 8, 3, 7, 4, 6, 5, 9, 2, 0, 1]])) (
 .ret)) (
 .skip)))) (
 .seq (
 .region [zj 22 0,
 zj 4 22,
 zi 5 (.mov (.c (.str []))),
 zi 6 (.mov (.c (.bool false)))] none) (
 .ret)))⟩
def K81 : List (List Nat) := []
def Hn81 : List (Nat × Nat) := []
def F89 : Fun := ⟨2, 21, [(4, none)],
 .seq (
 .region [zi 4 (.mov (.c (.bool false)))] none) (
 .seq (
 .region [zj 5 0,
 zi 6 (.len .s (.t 5)),
 zj 7 1,
 zi 8 (.len .s (.t 7)),
 zi 9 (.bin .geq (.t 6) (.t 8)),
 zj 10 9,
 ⟨some 11, .mov (.t 0), some (10, true)⟩,
 ⟨some 12, .mov (.t 0), some (10, true)⟩,
 ⟨some 13, .len .s (.t 12), some (10, true)⟩,
 ⟨some 14, .mov (.t 1), some (10, true)⟩,
 ⟨some 15, .len .s (.t 14), some (10, true)⟩,
 ⟨some 16, .bin .sub (.t 13) (.t 15), some (10, true)⟩,
 ⟨some 17, .slcs (.t 11) (some (.t 16)) none, some (10, true)⟩,
 ⟨some 18, .mov (.t 1), some (10, true)⟩,
 ⟨some 19, .bin .eql (.t 17) (.t 18), some (10, true)⟩,
 zi 20 (.pick (.t 10) (.t 19) (.c (.bool false))),
 zj 4 20] none) (
 .ret))⟩
def K89 : List (List Nat) := []
def Hn89 : List (Nat × Nat) := []
def F53 : Fun := ⟨2, 143, [(4, none)],
 .seq (
 .region [zi 4 (.mov (.c (.int .i64 0)))] none) (
 .seq (
 .region [zj 14 1,
 zi 15 (.len .s (.t 14)),
 zj 5 15] none) (
 .seq (
 .block 0 (
 .seq (
 .region [zj 17 5,
 zi 18 (.bin .eql (.t 17) (.c (.int .i64 0))),
 zj 19 18,
 ⟨some 20, .mov (.t 1), some (19, false)⟩,
 ⟨some 21, .mov (.t 0), some (19, false)⟩,
 ⟨some 22, .bin .eql (.t 20) (.t 21), some (19, false)⟩,
 zi 23 (.pick (.t 19) (.c (.bool true)) (.t 22)),
 zj 16 23] none) (
 .cond (.t 16) (
 .seq (
 .region [zi 4 (.mov (.c (.int .i64 0)))] none) (
 .ret)) (
 .seq (
 .region [zj 25 5,
 zi 26 (.bin .eql (.t 25) (.c (.int .i64 1))),
 zj 24 26] none) (
 .cond (.t 24) (
 .seq (
 .region [zj 27 0,
 zj 28 1,
 zi 29 (.idxs (.t 28) (.c (.int .i64 0))),
 zi 30 (.call 61 [.t 27, .t 29]),
 zj 4 30] none) (
 .ret)) (
 .seq (
 .region [zj 32 5,
 zj 33 0,
 zi 34 (.len .s (.t 33)),
 zi 35 (.bin .geq (.t 32) (.t 34)),
 zj 31 35] none) (
 .cond (.t 31) (
 .seq (
 .region [zi 4 (.mov (.c (.int .i64 (-1))))] none) (
 .ret)) (
 .seq (
 .region [zj 37 5,
 zi 38 (.pan (.c (.junk))),
 zi 39 (.bin .leq (.t 37) (.t 38)),
 zj 40 39,
 ⟨some 41, .mov (.t 0), some (40, true)⟩,
 ⟨some 42, .len .s (.t 41), some (40, true)⟩,
 ⟨some 43, .bin .leq (.t 42) (.c (.int .i64 64)), some (40, true)⟩,
 zi 44 (.pick (.t 40) (.t 43) (.c (.bool false))),
 zj 36 44] none) (
 .cond (.t 36) (
 .seq (
 .region [zj 45 0,
 zj 46 1,
 zi 47 (.call 62 [.t 45, .t 46]),
 zj 4 47] none) (
 .ret)) (
 .skip)))))))))) (
 .seq (
 .region [zj 48 1,
 zi 49 (.idxs (.t 48) (.c (.int .i64 0))),
 zj 6 49] none) (
 .seq (
 .region [zj 50 1,
 zi 51 (.idxs (.t 50) (.c (.int .i64 1))),
 zj 7 51] none) (
 .seq (
 .region [zi 8 (.mov (.c (.int .i64 0)))] none) (
 .seq (
 .region [zj 52 0,
 zi 53 (.len .s (.t 52)),
 zj 54 5,
 zi 55 (.bin .sub (.t 53) (.t 54)),
 zi 56 (.bin .add (.t 55) (.c (.int .i64 1))),
 zj 9 56] none) (
 .seq (
 .region [zi 10 (.mov (.c (.int .i64 0)))] none) (
 .seq (
 .block 1 (
 .loop [1005300, 0, 1, 5, 6, 7, 8, 9, 10, 2000000, 4] (
 .seq (
 .seq (
 .region [zj 57 8,
 zj 58 9,
 zi 59 (.bin .lss (.t 57) (.t 58))] none) (
 .cond (.t 59) (
 .skip) (
 .exit 1))) (
 .block 2 (
 .seq (
 .seq (
 .region [zj 60 0,
 zj 61 8,
 zi 62 (.idxs (.t 60) (.t 61)),
 zj 63 6,
 zi 64 (.bin .neq (.t 62) (.t 63))] none) (
 .cond (.t 64) (
 .seq (
 .region [zj 65 0,
 zj 66 8,
 zi 67 (.bin .add (.t 66) (.c (.int .i64 1))),
 zj 68 9,
 zi 69 (.slcs (.t 65) (some (.t 67)) (some (.t 68))),
 zj 70 6,
 zi 71 (.call 61 [.t 69, .t 70]),
 zj 11 71] none) (
 .seq (
 .seq (
 .region [zj 72 11,
 zi 73 (.bin .lss (.t 72) (.c (.int .i64 0)))] none) (
 .cond (.t 73) (
 .seq (
 .region [zi 4 (.mov (.c (.int .i64 (-1))))] none) (
 .ret)) (
 .skip))) (
 .region [zj 74 8,
 zj 75 11,
 zi 76 (.bin .add (.t 75) (.c (.int .i64 1))),
 zi 77 (.bin .add (.t 74) (.t 76)),
 zj 8 77] none))) (
 .skip))) (
 .seq (
 .seq (
 .region [zj 78 0,
 zj 79 8,
 zi 80 (.bin .add (.t 79) (.c (.int .i64 1))),
 zi 81 (.idxs (.t 78) (.t 80)),
 zj 82 7,
 zi 83 (.bin .eql (.t 81) (.t 82)),
 zj 84 83,
 ⟨some 85, .mov (.t 0), some (84, true)⟩,
 ⟨some 86, .mov (.t 8), some (84, true)⟩,
 ⟨some 87, .mov (.t 8), some (84, true)⟩,
 ⟨some 88, .mov (.t 5), some (84, true)⟩,
 ⟨some 89, .bin .add (.t 87) (.t 88), some (84, true)⟩,
 ⟨some 90, .slcs (.t 85) (some (.t 86)) (some (.t 89)), some (84, true)⟩,
 ⟨some 91, .mov (.t 1), some (84, true)⟩,
 ⟨some 92, .bin .eql (.t 90) (.t 91), some (84, true)⟩,
 zi 93 (.pick (.t 84) (.t 92) (.c (.bool false)))] none) (
 .cond (.t 93) (
 .seq (
 .region [zj 94 8,
 zj 4 94] none) (
 .ret)) (
 .skip))) (
 .seq (
 .region [zj 95 8,
 zi 96 (.bin .add (.t 95) (.c (.int .i64 1))),
 zj 8 96] none) (
 .seq (
 .region [zj 97 10,
 zi 98 (.bin .add (.t 97) (.c (.int .i64 1))),
 zj 10 98] none) (
 .seq (
 .region [zj 99 5,
 zi 100 (.pan (.c (.junk))),
 zi 101 (.bin .leq (.t 99) (.t 100)),
 zj 102 101,
 ⟨some 103, .mov (.t 10), some (102, true)⟩,
 ⟨some 104, .mov (.t 8), some (102, true)⟩,
 ⟨some 105, .call 63 [.t 104], some (102, true)⟩,
 ⟨some 106, .bin .gtr (.t 103) (.t 105), some (102, true)⟩,
 zi 107 (.pick (.t 102) (.t 106) (.c (.bool false)))] none) (
 .cond (.t 107) (
 .seq (
 .region [zj 108 0,
 zj 109 8,
 zi 110 (.slcs (.t 108) (some (.t 109)) none),
 zj 111 1,
 zi 112 (.call 62 [.t 110, .t 111]),
 zj 12 112] none) (
 .seq (
 .seq (
 .region [zj 113 12,
 zi 114 (.bin .geq (.t 113) (.c (.int .i64 0)))] none) (
 .cond (.t 114) (
 .seq (
 .region [zj 115 12,
 zj 116 8,
 zi 117 (.bin .add (.t 115) (.t 116)),
 zj 4 117] none) (
 .ret)) (
 .skip))) (
 .seq (
 .region [zi 4 (.mov (.c (.int .i64 (-1))))] none) (
 .ret)))) (
 .seq (
 .region [zj 118 5,
 zi 119 (.pan (.c (.junk))),
 zi 120 (.bin .gtr (.t 118) (.t 119)),
 zj 121 120,
 ⟨some 122, .mov (.t 10), some (121, true)⟩,
 ⟨some 123, .mov (.t 8), some (121, true)⟩,
 ⟨some 124, .bin .shr (.t 123) (.c (.int .u64 4)), some (121, true)⟩,
 ⟨some 125, .bin .add (.c (.int .i64 4)) (.t 124), some (121, true)⟩,
 ⟨some 126, .bin .geq (.t 122) (.t 125), some (121, true)⟩,
 zi 127 (.pick (.t 121) (.t 126) (.c (.bool false))),
 zj 128 127,
 ⟨some 129, .mov (.t 8), some (128, true)⟩,
 ⟨some 130, .mov (.t 9), some (128, true)⟩,
 ⟨some 131, .bin .lss (.t 129) (.t 130), some (128, true)⟩,
 zi 132 (.pick (.t 128) (.t 131) (.c (.bool false)))] none) (
 .cond (.t 132) (
 .seq (
 .region [zj 133 0,
 zj 134 8,
 zi 135 (.slcs (.t 133) (some (.t 134)) none),
 zj 136 1,
 zi 137 (.call 64 [.t 135, .t 136]),
 zj 13 137] none) (
 .seq (
 .seq (
 .region [zj 138 13,
 zi 139 (.bin .lss (.t 138) (.c (.int .i64 0)))] none) (
 .cond (.t 139) (
 .seq (
 .region [zi 4 (.mov (.c (.int .i64 (-1))))] none) (
 .ret)) (
 .skip))) (
 .seq (
 .region [zj 140 8,
 zj 141 13,
 zi 142 (.bin .add (.t 140) (.t 141)),
 zj 4 142] none) (
 .ret)))) (
 .skip))))))))))))) (
 .seq (
 .region [zi 4 (.mov (.c (.int .i64 (-1))))] none) (
 .ret))))))))))⟩
def K53 : List (List Nat) := [[1005300, 0, 1, 5, 6, 7, 8, 9, 10, 2000000, 4]]
def Hn53 : List (Nat × Nat) := []
def F63 : Fun := ⟨1, 6, [(2, none)],
 .seq (
 .region [zi 2 (.mov (.c (.int .i64 0)))] none) (
 .seq (
 .region [zj 3 0,
 zi 4 (.bin .add (.t 3) (.c (.int .i64 16))),
 zi 5 (.bin .quo (.t 4) (.c (.int .i64 8))),
 zj 2 5] none) (
 .ret))⟩
def K63 : List (List Nat) := []
def Hn63 : List (Nat × Nat) := []
def F64 : Fun := ⟨2, 81, [(4, none)],
 .seq (
 .region [zi 4 (.mov (.c (.int .i64 0)))] none) (
 .seq (
 .region [zj 12 1,
 zi 13 (.call 74 [.t 12]),
 zj 11 13,
 zi 14 (.ext (.t 11) 0),
 zi 15 (.ext (.t 11) 1),
 zj 5 14,
 zj 6 15] none) (
 .seq (
 .region [zj 16 1,
 zi 17 (.len .s (.t 16)),
 zj 7 17] none) (
 .seq (
 .region [zi 8 (.mov (.c (.int .u32 0)))] none) (
 .seq (
 .seq (
 .region [zi 9 (.mov (.c (.int .i64 0)))] none) (
 .block 0 (
 .loop [1006400, 0, 1, 5, 6, 7, 8, 9, 2000000, 0, 1, 5, 6, 7, 8] (
 .seq (
 .seq (
 .region [zj 18 9,
 zj 19 7,
 zi 20 (.bin .lss (.t 18) (.t 19))] none) (
 .cond (.t 20) (
 .skip) (
 .exit 0))) (
 .seq (
 .block 1 (
 .region [zj 23 8,
 zi 24 (.bin .mul (.t 23) (.c (.int .u32 16777619))),
 zj 25 0,
 zj 26 9,
 zi 27 (.idxs (.t 25) (.t 26)),
 zi 28 (.conv .u32 (.t 27)),
 zi 29 (.bin .add (.t 24) (.t 28)),
 zj 8 29] none)) (
 .region [zj 21 9,
 zi 22 (.bin .add (.t 21) (.c (.int .i64 1))),
 zj 9 22] none)))))) (
 .seq (
 .seq (
 .region [zj 30 8,
 zj 31 5,
 zi 32 (.bin .eql (.t 30) (.t 31)),
 zj 33 32,
 ⟨some 34, .mov (.t 0), some (33, true)⟩,
 ⟨some 35, .mov (.t 7), some (33, true)⟩,
 ⟨some 36, .slcs (.t 34) none (some (.t 35)), some (33, true)⟩,
 ⟨some 37, .mov (.t 1), some (33, true)⟩,
 ⟨some 38, .bin .eql (.t 36) (.t 37), some (33, true)⟩,
 zi 39 (.pick (.t 33) (.t 38) (.c (.bool false)))] none) (
 .cond (.t 39) (
 .seq (
 .region [zi 4 (.mov (.c (.int .i64 0)))] none) (
 .ret)) (
 .skip))) (
 .seq (
 .seq (
 .region [zj 40 7,
 zj 10 40] none) (
 .block 2 (
 .loop [1006401, 0, 1, 5, 6, 7, 8, 10, 2000000, 4] (
 .seq (
 .seq (
 .region [zj 41 10,
 zj 42 0,
 zi 43 (.len .s (.t 42)),
 zi 44 (.bin .lss (.t 41) (.t 43))] none) (
 .cond (.t 44) (
 .skip) (
 .exit 2))) (
 .block 3 (
 .seq (
 .region [zj 45 8,
 zi 46 (.bin .mul (.t 45) (.c (.int .u32 16777619))),
 zj 8 46] none) (
 .seq (
 .region [zj 47 8,
 zj 48 0,
 zj 49 10,
 zi 50 (.idxs (.t 48) (.t 49)),
 zi 51 (.conv .u32 (.t 50)),
 zi 52 (.bin .add (.t 47) (.t 51)),
 zj 8 52] none) (
 .seq (
 .region [zj 53 8,
 zj 54 6,
 zj 55 0,
 zj 56 10,
 zj 57 7,
 zi 58 (.bin .sub (.t 56) (.t 57)),
 zi 59 (.idxs (.t 55) (.t 58)),
 zi 60 (.conv .u32 (.t 59)),
 zi 61 (.bin .mul (.t 54) (.t 60)),
 zi 62 (.bin .sub (.t 53) (.t 61)),
 zj 8 62] none) (
 .seq (
 .region [zj 63 10,
 zi 64 (.bin .add (.t 63) (.c (.int .i64 1))),
 zj 10 64] none) (
 .seq (
 .region [zj 65 8,
 zj 66 5,
 zi 67 (.bin .eql (.t 65) (.t 66)),
 zj 68 67,
 ⟨some 69, .mov (.t 0), some (68, true)⟩,
 ⟨some 70, .mov (.t 10), some (68, true)⟩,
 ⟨some 71, .mov (.t 7), some (68, true)⟩,
 ⟨some 72, .bin .sub (.t 70) (.t 71), some (68, true)⟩,
 ⟨some 73, .mov (.t 10), some (68, true)⟩,
 ⟨some 74, .slcs (.t 69) (some (.t 72)) (some (.t 73)), some (68, true)⟩,
 ⟨some 75, .mov (.t 1), some (68, true)⟩,
 ⟨some 76, .bin .eql (.t 74) (.t 75), some (68, true)⟩,
 zi 77 (.pick (.t 68) (.t 76) (.c (.bool false)))] none) (
 .cond (.t 77) (
 .seq (
 .region [zj 78 10,
 zj 79 7,
 zi 80 (.bin .sub (.t 78) (.t 79)),
 zj 4 80] none) (
 .ret)) (
 .skip)))))))))))) (
 .seq (
 .region [zi 4 (.mov (.c (.int .i64 (-1))))] none) (
 .ret))))))))⟩
def K64 : List (List Nat) := [[1006400, 0, 1, 5, 6, 7, 8, 9, 2000000, 0, 1, 5, 6, 7, 8], [1006401, 0, 1, 5, 6, 7, 8, 10, 2000000, 4]]
def Hn64 : List (Nat × Nat) := []
def F74 : Fun := ⟨1, 39, [(2, none), (3, none)],
 .seq (
 .region [zi 2 (.mov (.c (.int .u32 0))),
 zi 3 (.mov (.c (.int .u32 0)))] none) (
 .seq (
 .region [zi 4 (.mov (.c (.int .u32 0)))] none) (
 .seq (
 .seq (
 .region [zi 5 (.mov (.c (.int .i64 0)))] none) (
 .block 0 (
 .loop [1007400, 0, 4, 5, 2000000, 0, 4] (
 .seq (
 .seq (
 .region [zj 9 5,
 zj 10 0,
 zi 11 (.len .s (.t 10)),
 zi 12 (.bin .lss (.t 9) (.t 11))] none) (
 .cond (.t 12) (
 .skip) (
 .exit 0))) (
 .seq (
 .block 1 (
 .region [zj 15 4,
 zi 16 (.bin .mul (.t 15) (.c (.int .u32 16777619))),
 zj 17 0,
 zj 18 5,
 zi 19 (.idxs (.t 17) (.t 18)),
 zi 20 (.conv .u32 (.t 19)),
 zi 21 (.bin .add (.t 16) (.t 20)),
 zj 4 21] none)) (
 .region [zj 13 5,
 zi 14 (.bin .add (.t 13) (.c (.int .i64 1))),
 zj 5 14] none)))))) (
 .seq (
 .region [zi 6 (.mov (.c (.int .u32 1))),
 zi 7 (.mov (.c (.int .u32 16777619)))] none) (
 .seq (
 .seq (
 .region [zj 22 0,
 zi 23 (.len .s (.t 22)),
 zj 8 23] none) (
 .block 2 (
 .loop [1007401, 4, 6, 7, 8, 2000000, 4, 6] (
 .seq (
 .seq (
 .region [zj 24 8,
 zi 25 (.bin .gtr (.t 24) (.c (.int .i64 0)))] none) (
 .cond (.t 25) (
 .skip) (
 .exit 2))) (
 .seq (
 .block 3 (
 .seq (
 .seq (
 .region [zj 28 8,
 zi 29 (.bin .and (.t 28) (.c (.int .i64 1))),
 zi 30 (.bin .neq (.t 29) (.c (.int .i64 0)))] none) (
 .cond (.t 30) (
 .region [zj 31 6,
 zj 32 7,
 zi 33 (.bin .mul (.t 31) (.t 32)),
 zj 6 33] none) (
 .skip))) (
 .region [zj 34 7,
 zj 35 7,
 zi 36 (.bin .mul (.t 34) (.t 35)),
 zj 7 36] none))) (
 .region [zj 26 8,
 zi 27 (.bin .shr (.t 26) (.c (.int .u64 1))),
 zj 8 27] none)))))) (
 .seq (
 .region [zj 37 4,
 zj 38 6,
 zj 2 37,
 zj 3 38] none) (
 .ret))))))⟩
def K74 : List (List Nat) := [[1007400, 0, 4, 5, 2000000, 0, 4], [1007401, 4, 6, 7, 8, 2000000, 4, 6]]
def Hn74 : List (Nat × Nat) := []
def hintF : List (Nat × Nat) → Nat → Nat
 | [], _ => 0
 | (i, n) :: l, d => if d = i then n else hintF l d
def tab : List (Nat × Fun) := [(3, F3), (4, F4), (5, F5), (6, F6), (7, F7), (8, F8), (9, F9), (10, F10), (11, F11), (12, F12), (13, F13), (14, F14), (15, F15), (16, F16), (17, F17), (18, F18), (19, F19), (20, F20), (21, F21), (22, F22), (23, F23), (24, F24), (25, F25), (26, F26), (27, F27), (28, F28), (29, F29), (30, F30), (32, F32), (31, F31), (33, F33), (34, F34), (35, F35), (36, F36), (37, F37), (39, F39), (40, F40), (41, F41), (45, F45), (46, F46), (47, F47), (48, F48), (50, F50), (49, F49), (51, F51), (52, F52), (55, F55), (54, F54), (56, F56), (58, F58), (60, F60), (65, F65), (68, F68), (69, F69), (80, F80), (81, F81), (89, F89), (53, F53), (63, F63), (64, F64), (74, F74)]
def lookF : List (Nat × Fun) → Nat → Option Fun
 | [], _ => none
 | (i, F) :: l, f => if f = i then some F else lookF l f
end Go.Proofs.H11d

/- The intermediate code of the functions reached. Printed by a program of mine. -/
import Derived.Test.YthljpgljbpdmjaaGreatDoorE4
set_option linter.unusedVariables false
set_option linter.unusedSimpArgs false
set_option linter.unnecessarySimpa false
namespace Go.Proofs.H15e
open Go Go.Eng
abbrev zi (d : Nat) (o : IOp) : IOper := ⟨some d, o, none⟩
abbrev zj (d e : Nat) : IOper := ⟨some d, .mov (.t e), none⟩
def F6 : Fun := ⟨2, 38, [(4, none)],
 .seq (
 .region [zi 2 (.box 19 (.t 0)),
 zi 3 (.box 19 (.t 1)),
 zi 4 (.mov (.c (.bool false)))] none) (
 .seq (
 .seq (
 .region [zi 5 (.load true 19 [.str, .str, .str, .int .i64, .int .i64, .int .i64, .int .i64, .slice 2, .bool, .int .i64, .int .i64, .bool, .slice 2, .bool, .int .i64, .int .i64, .bool, .slice 10, .slice 6] (.t 2)),
 zi 6 (.call 11 [.t 5]),
 zi 7 (.un .not (.t 6)),
 zj 8 7,
 ⟨some 9, .load true 19 [.str, .str, .str, .int .i64, .int .i64, .int .i64, .int .i64, .slice 2, .bool, .int .i64, .int .i64, .bool, .slice 2, .bool, .int .i64, .int .i64, .bool, .slice 10, .slice 6] (.t 3), some (8, false)⟩,
 ⟨some 10, .call 11 [.t 9], some (8, false)⟩,
 ⟨some 11, .un .not (.t 10), some (8, false)⟩,
 zi 12 (.pick (.t 8) (.c (.bool true)) (.t 11))] none) (
 .cond (.t 12) (
 .seq (
 .region [zi 13 (.call 10 []),
 zj 4 13] none) (
 .ret)) (
 .skip))) (
 .seq (
 .region [zi 14 (.load true 19 [.str, .str, .str, .int .i64, .int .i64, .int .i64, .int .i64, .slice 2, .bool, .int .i64, .int .i64, .bool, .slice 2, .bool, .int .i64, .int .i64, .bool, .slice 10, .slice 6] (.t 2)),
 zi 15 (.load true 19 [.str, .str, .str, .int .i64, .int .i64, .int .i64, .int .i64, .slice 2, .bool, .int .i64, .int .i64, .bool, .slice 2, .bool, .int .i64, .int .i64, .bool, .slice 10, .slice 6] (.t 3)),
 zi 16 (.call 20 [.t 14, .t 15]),
 zi 17 (.load true 19 [.str, .str, .str, .int .i64, .int .i64, .int .i64, .int .i64, .slice 2, .bool, .int .i64, .int .i64, .bool, .slice 2, .bool, .int .i64, .int .i64, .bool, .slice 10, .slice 6] (.t 2)),
 zi 18 (.load true 19 [.str, .str, .str, .int .i64, .int .i64, .int .i64, .int .i64, .slice 2, .bool, .int .i64, .int .i64, .bool, .slice 2, .bool, .int .i64, .int .i64, .bool, .slice 10, .slice 6] (.t 3)),
 zi 19 (.call 21 [.t 17, .t 18]),
 zi 20 (.eqs (false, [.b]) false (.t 16) (.t 19)),
 zj 21 20,
 ⟨some 22, .load true 19 [.str, .str, .str, .int .i64, .int .i64, .int .i64, .int .i64, .slice 2, .bool, .int .i64, .int .i64, .bool, .slice 2, .bool, .int .i64, .int .i64, .bool, .slice 10, .slice 6] (.t 3), some (21, true)⟩,
 ⟨some 23, .load true 19 [.str, .str, .str, .int .i64, .int .i64, .int .i64, .int .i64, .slice 2, .bool, .int .i64, .int .i64, .bool, .slice 2, .bool, .int .i64, .int .i64, .bool, .slice 10, .slice 6] (.t 2), some (21, true)⟩,
 ⟨some 24, .call 20 [.t 22, .t 23], some (21, true)⟩,
 ⟨some 25, .load true 19 [.str, .str, .str, .int .i64, .int .i64, .int .i64, .int .i64, .slice 2, .bool, .int .i64, .int .i64, .bool, .slice 2, .bool, .int .i64, .int .i64, .bool, .slice 10, .slice 6] (.t 2), some (21, true)⟩,
 ⟨some 26, .load true 19 [.str, .str, .str, .int .i64, .int .i64, .int .i64, .int .i64, .slice 2, .bool, .int .i64, .int .i64, .bool, .slice 2, .bool, .int .i64, .int .i64, .bool, .slice 10, .slice 6] (.t 3), some (21, true)⟩,
 ⟨some 27, .call 21 [.t 25, .t 26], some (21, true)⟩,
 ⟨some 28, .eqs (false, [.b]) false (.t 24) (.t 27), some (21, true)⟩,
 zi 29 (.pick (.t 21) (.t 28) (.c (.bool false))),
 zj 30 29,
 ⟨some 31, .load true 19 [.str, .str, .str, .int .i64, .int .i64, .int .i64, .int .i64, .slice 2, .bool, .int .i64, .int .i64, .bool, .slice 2, .bool, .int .i64, .int .i64, .bool, .slice 10, .slice 6] (.t 2), some (30, true)⟩,
 ⟨some 32, .load true 19 [.str, .str, .str, .int .i64, .int .i64, .int .i64, .int .i64, .slice 2, .bool, .int .i64, .int .i64, .bool, .slice 2, .bool, .int .i64, .int .i64, .bool, .slice 10, .slice 6] (.t 2), some (30, true)⟩,
 ⟨some 33, .call 20 [.t 31, .t 32], some (30, true)⟩,
 zi 34 (.pick (.t 30) (.t 33) (.c (.bool false))),
 zj 35 34,
 ⟨some 36, .call 10 [], some (35, true)⟩,
 zi 37 (.pick (.t 35) (.t 36) (.c (.bool false))),
 zj 4 37] (some [[], [], [0, 1], [], [], [3, 4, 2, 0, 1], [5, 3, 4, 2, 0, 1], [6, 5, 3, 4, 2, 0, 1], [7, 6, 5, 3, 4, 2, 0, 1], [7, 6, 5, 3, 4, 2, 0, 1], [8, 9, 7, 6, 5, 3, 4, 2, 0, 1], [7, 6, 5, 3, 4, 2, 0, 1], [7, 6, 5, 3, 4, 2, 0, 1], [11, 12, 10, 8, 9, 7, 6, 5, 3, 4, 2, 0, 1], [13, 11, 12, 10, 8, 9, 7, 6, 5, 3, 4, 2, 0, 1], [14, 13, 11, 12, 10, 8, 9, 7, 6, 5, 3, 4, 2, 0, 1], [15, 14, 13, 11, 12, 10, 8, 9, 7, 6, 5, 3, 4, 2, 0, 1], [16, 15, 14, 13, 11, 12, 10, 8, 9, 7, 6, 5, 3, 4, 2, 0, 1], [16, 15, 14, 13, 11, 12, 10, 8, 9, 7, 6, 5, 3, 4, 2, 0, 1], [17, 18, 16, 15, 14, 13, 11, 12, 10, 8, 9, 7, 6, 5, 3, 4, 2, 0, 1], [19, 17, 18, 16, 15, 14, 13, 11, 12, 10, 8, 9, 7, 6, 5, 3, 4, 2, 0, 1], [20, 19, 17, 18, 16, 15, 14, 13, 11, 12, 10, 8, 9, 7, 6, 5, 3, 4, 2, 0, 1], [21, 20, 19, 17, 18, 16, 15, 14, 13, 11, 12, 10, 8, 9, 7, 6, 5, 3, 4, 2, 0, 1], [22, 21, 20, 19, 17, 18, 16, 15, 14, 13, 11, 12, 10, 8, 9, 7, 6, 5, 3, 4, 2, 0, 1], [23, 22, 21, 20, 19, 17, 18, 16, 15, 14, 13, 11, 12, 10, 8, 9, 7, 6, 5, 3, 4, 2, 0, 1]])) (
 .ret)))⟩
def K6 : List (List Nat) := []
def Hn6 : List (Nat × Nat) := []
def F10 : Fun := ⟨0, 61, [(0, none)],
 .seq (
 .region [zi 0 (.mov (.c (.bool false)))] none) (
 .seq (
 .region [zi 6 (.call 25 []),
 zi 1 (.alloc (.agg [.str [], .str [], .str [], .int .i64 0, .int .i64 0, .int .i64 0, .int .i64 0, .nils 2, .bool false, .int .i64 0, .int .i64 0, .bool false, .nils 2, .bool false, .int .i64 0, .int .i64 0, .bool false, .nils 10, .nils 6])),
 ⟨none, .store 19 (.t 1) (.t 6), none⟩] none) (
 .seq (
 .region [zi 7 (.build [.str [], .int .i64 0] [(0, 1, (.c (.str [69, 85, 82]))), (1, 1, (.c (.int .i64 2)))]),
 zi 8 (.bslice 2 (.agg [.str [], .int .i64 0]) 1 [(0, (.t 7))]),
 zi 9 (.build [.str [], .nils 1, .nils 1] [(0, 1, (.c (.str [104, 111, 109, 101])))]),
 zi 10 (.bslice 3 (.agg [.str [], .nils 1, .nils 1]) 1 [(0, (.t 9))]),
 zj 2 8,
 zj 3 10] none) (
 .seq (
 .region [zi 11 (.load true 19 [.str, .str, .str, .int .i64, .int .i64, .int .i64, .int .i64, .slice 2, .bool, .int .i64, .int .i64, .bool, .slice 2, .bool, .int .i64, .int .i64, .bool, .slice 10, .slice 6] (.t 1)),
 zi 4 (.alloc (.agg [.str [], .str [], .str [], .int .i64 0, .int .i64 0, .int .i64 0, .int .i64 0, .nils 2, .bool false, .int .i64 0, .int .i64 0, .bool false, .nils 2, .bool false, .int .i64 0, .int .i64 0, .bool false, .nils 10, .nils 6])),
 ⟨none, .store 19 (.t 4) (.t 11), none⟩] none) (
 .seq (
 .region [zi 12 (.faddr 4 (.t 4)),
 ⟨none, .store 1 (.t 12) (.c (.int .i64 2)), none⟩] none) (
 .seq (
 .region [zi 13 (.call 8 []),
 zj 5 13] none) (
 .seq (
 .region [zi 14 (.load true 19 [.str, .str, .str, .int .i64, .int .i64, .int .i64, .int .i64, .slice 2, .bool, .int .i64, .int .i64, .bool, .slice 2, .bool, .int .i64, .int .i64, .bool, .slice 10, .slice 6] (.t 1)),
 zj 15 2,
 zj 16 3,
 zi 17 (.call 12 [.t 14, .t 15, .t 16]),
 zi 18 (.bin .eql (.t 17) (.c (.int .i64 0))),
 zj 19 18,
 ⟨some 20, .load true 19 [.str, .str, .str, .int .i64, .int .i64, .int .i64, .int .i64, .slice 2, .bool, .int .i64, .int .i64, .bool, .slice 2, .bool, .int .i64, .int .i64, .bool, .slice 10, .slice 6] (.t 4), some (19, true)⟩,
 ⟨some 21, .mov (.t 2), some (19, true)⟩,
 ⟨some 22, .mov (.t 3), some (19, true)⟩,
 ⟨some 23, .call 12 [.t 20, .t 21, .t 22], some (19, true)⟩,
 ⟨some 24, .bin .eql (.t 23) (.c (.int .i64 1)), some (19, true)⟩,
 zi 25 (.pick (.t 19) (.t 24) (.c (.bool false))),
 zj 26 25,
 ⟨some 27, .mov (.t 5), some (26, true)⟩,
 ⟨some 28, .len .l (.t 27), some (26, true)⟩,
 ⟨some 29, .bin .eql (.t 28) (.c (.int .i64 7)), some (26, true)⟩,
 zi 30 (.pick (.t 26) (.t 29) (.c (.bool false))),
 zj 31 30,
 ⟨some 32, .mov (.t 5), some (31, true)⟩,
 ⟨some 33, .iaddr 2 [.str, .int .i64] (.t 32) (.c (.int .i64 6)), some (31, true)⟩,
 ⟨some 34, .load true 2 [.str, .int .i64] (.t 33), some (31, true)⟩,
 ⟨some 35, .build [.str [], .int .i64 0] [(0, 1, (.c (.str [100, 97, 121]))), (1, 1, (.c (.int .i64 4)))], some (31, true)⟩,
 ⟨some 36, .eqs (true, [.s, .i]) false (.t 34) (.t 35), some (31, true)⟩,
 zi 37 (.pick (.t 31) (.t 36) (.c (.bool false))),
 zj 38 37,
 ⟨some 39, .load true 19 [.str, .str, .str, .int .i64, .int .i64, .int .i64, .int .i64, .slice 2, .bool, .int .i64, .int .i64, .bool, .slice 2, .bool, .int .i64, .int .i64, .bool, .slice 10, .slice 6] (.t 1), some (38, true)⟩,
 ⟨some 40, .call 18 [.t 39, .c (.int .i64 1)], some (38, true)⟩,
 ⟨some 41, .len .l (.t 40), some (38, true)⟩,
 ⟨some 42, .bin .eql (.t 41) (.c (.int .i64 1)), some (38, true)⟩,
 zi 43 (.pick (.t 38) (.t 42) (.c (.bool false))),
 zj 44 43,
 ⟨some 45, .load true 19 [.str, .str, .str, .int .i64, .int .i64, .int .i64, .int .i64, .slice 2, .bool, .int .i64, .int .i64, .bool, .slice 2, .bool, .int .i64, .int .i64, .bool, .slice 10, .slice 6] (.t 1), some (44, true)⟩,
 ⟨some 46, .call 15 [.t 45, .c (.int .i64 (-1))], some (44, true)⟩,
 ⟨some 47, .fld false 2 1 (.t 46), some (44, true)⟩,
 ⟨some 48, .bin .eql (.t 47) (.c (.int .i64 2)), some (44, true)⟩,
 zi 49 (.pick (.t 44) (.t 48) (.c (.bool false))),
 zj 50 49,
 ⟨some 51, .load true 19 [.str, .str, .str, .int .i64, .int .i64, .int .i64, .int .i64, .slice 2, .bool, .int .i64, .int .i64, .bool, .slice 2, .bool, .int .i64, .int .i64, .bool, .slice 10, .slice 6] (.t 1), some (50, true)⟩,
 ⟨some 52, .load true 19 [.str, .str, .str, .int .i64, .int .i64, .int .i64, .int .i64, .slice 2, .bool, .int .i64, .int .i64, .bool, .slice 2, .bool, .int .i64, .int .i64, .bool, .slice 10, .slice 6] (.t 1), some (50, true)⟩,
 ⟨some 53, .call 20 [.t 51, .t 52], some (50, true)⟩,
 zi 54 (.pick (.t 50) (.t 53) (.c (.bool false))),
 zj 55 54,
 ⟨some 56, .load true 19 [.str, .str, .str, .int .i64, .int .i64, .int .i64, .int .i64, .slice 2, .bool, .int .i64, .int .i64, .bool, .slice 2, .bool, .int .i64, .int .i64, .bool, .slice 10, .slice 6] (.t 1), some (55, true)⟩,
 ⟨some 57, .load true 19 [.str, .str, .str, .int .i64, .int .i64, .int .i64, .int .i64, .slice 2, .bool, .int .i64, .int .i64, .bool, .slice 2, .bool, .int .i64, .int .i64, .bool, .slice 10, .slice 6] (.t 4), some (55, true)⟩,
 ⟨some 58, .call 20 [.t 56, .t 57], some (55, true)⟩,
 ⟨some 59, .un .not (.t 58), some (55, true)⟩,
 zi 60 (.pick (.t 55) (.t 59) (.c (.bool false))),
 zj 0 60] none) (
 .ret)))))))⟩
def K10 : List (List Nat) := []
def Hn10 : List (Nat × Nat) := []
def F11 : Fun := ⟨1, 66, [(2, none)],
 .seq (
 .region [zi 1 (.box 19 (.t 0)),
 zi 2 (.mov (.c (.bool false)))] none) (
 .seq (
 .seq (
 .region [zi 5 (.faddr 17 (.t 1)),
 zi 6 (.load false 1 [.slice 10] (.t 5)),
 zi 7 (.len .l (.t 6)),
 zi 8 (.bin .gtr (.t 7) (.c (.int .i64 12))),
 zj 9 8,
 ⟨some 10, .faddr 18 (.t 1), some (9, false)⟩,
 ⟨some 11, .load false 1 [.slice 6] (.t 10), some (9, false)⟩,
 ⟨some 12, .len .l (.t 11), some (9, false)⟩,
 ⟨some 13, .bin .gtr (.t 12) (.c (.int .i64 12)), some (9, false)⟩,
 zi 14 (.pick (.t 9) (.c (.bool true)) (.t 13)),
 zj 15 14,
 ⟨some 16, .faddr 7 (.t 1), some (15, false)⟩,
 ⟨some 17, .faddr 0 (.t 16), some (15, false)⟩,
 ⟨some 18, .load false 1 [.slice 2] (.t 17), some (15, false)⟩,
 ⟨some 19, .len .l (.t 18), some (15, false)⟩,
 ⟨some 20, .bin .gtr (.t 19) (.c (.int .i64 12)), some (15, false)⟩,
 zi 21 (.pick (.t 15) (.c (.bool true)) (.t 20)),
 zj 22 21,
 ⟨some 23, .faddr 12 (.t 1), some (22, false)⟩,
 ⟨some 24, .faddr 0 (.t 23), some (22, false)⟩,
 ⟨some 25, .load false 1 [.slice 2] (.t 24), some (22, false)⟩,
 ⟨some 26, .len .l (.t 25), some (22, false)⟩,
 ⟨some 27, .bin .gtr (.t 26) (.c (.int .i64 12)), some (22, false)⟩,
 zi 28 (.pick (.t 22) (.c (.bool true)) (.t 27))] none) (
 .cond (.t 28) (
 .seq (
 .region [zi 2 (.mov (.c (.bool false)))] none) (
 .ret)) (
 .skip))) (
 .seq (
 .seq (
 .region [zi 3 (.mov (.c (.int .i64 0)))] none) (
 .block 0 (
 .loop [1001100, 1, 3, 2000000, 1, 2] (
 .seq (
 .seq (
 .region [zj 29 3,
 zi 30 (.faddr 17 (.t 1)),
 zi 31 (.load false 1 [.slice 10] (.t 30)),
 zi 32 (.len .l (.t 31)),
 zi 33 (.bin .lss (.t 29) (.t 32))] none) (
 .cond (.t 33) (
 .skip) (
 .exit 0))) (
 .seq (
 .block 1 (
 .seq (
 .region [zi 36 (.faddr 17 (.t 1)),
 zi 37 (.load false 1 [.slice 10] (.t 36)),
 zj 38 3,
 zi 39 (.iaddr 10 [.str, .int .i64, .int .i64, .int .i64, .str, .slice 4, .int .i64, .int .i64, .str, .slice 4] (.t 37) (.t 38)),
 zi 40 (.faddr 2 (.t 39)),
 zi 41 (.load true 4 [.int .i64, .int .i64, .str, .slice 4] (.t 40)),
 zi 42 (.call 26 [.t 41, .c (.int .i64 12)]),
 zj 43 42,
 ⟨some 44, .faddr 17 (.t 1), some (43, false)⟩,
 ⟨some 45, .load false 1 [.slice 10] (.t 44), some (43, false)⟩,
 ⟨some 46, .mov (.t 3), some (43, false)⟩,
 ⟨some 47, .iaddr 10 [.str, .int .i64, .int .i64, .int .i64, .str, .slice 4, .int .i64, .int .i64, .str, .slice 4] (.t 45) (.t 46), some (43, false)⟩,
 ⟨some 48, .faddr 6 (.t 47), some (43, false)⟩,
 ⟨some 49, .load true 4 [.int .i64, .int .i64, .str, .slice 4] (.t 48), some (43, false)⟩,
 ⟨some 50, .call 26 [.t 49, .c (.int .i64 12)], some (43, false)⟩,
 zi 51 (.pick (.t 43) (.c (.bool true)) (.t 50))] none) (
 .cond (.t 51) (
 .seq (
 .region [zi 2 (.mov (.c (.bool false)))] none) (
 .ret)) (
 .skip)))) (
 .region [zj 34 3,
 zi 35 (.bin .add (.t 34) (.c (.int .i64 1))),
 zj 3 35] none)))))) (
 .seq (
 .seq (
 .region [zi 4 (.mov (.c (.int .i64 0)))] none) (
 .block 2 (
 .loop [1001101, 1, 4, 2000000, 2] (
 .seq (
 .seq (
 .region [zj 52 4,
 zi 53 (.faddr 18 (.t 1)),
 zi 54 (.load false 1 [.slice 6] (.t 53)),
 zi 55 (.len .l (.t 54)),
 zi 56 (.bin .lss (.t 52) (.t 55))] none) (
 .cond (.t 56) (
 .skip) (
 .exit 2))) (
 .seq (
 .block 3 (
 .seq (
 .region [zi 59 (.faddr 18 (.t 1)),
 zi 60 (.load false 1 [.slice 6] (.t 59)),
 zj 61 4,
 zi 62 (.iaddr 6 [.str, .int .i64, .int .i64, .int .i64, .str, .slice 4] (.t 60) (.t 61)),
 zi 63 (.faddr 2 (.t 62)),
 zi 64 (.load true 4 [.int .i64, .int .i64, .str, .slice 4] (.t 63)),
 zi 65 (.call 26 [.t 64, .c (.int .i64 12)])] none) (
 .cond (.t 65) (
 .seq (
 .region [zi 2 (.mov (.c (.bool false)))] none) (
 .ret)) (
 .skip)))) (
 .region [zj 57 4,
 zi 58 (.bin .add (.t 57) (.c (.int .i64 1))),
 zj 4 58] none)))))) (
 .seq (
 .region [zi 2 (.mov (.c (.bool true)))] none) (
 .ret)))))⟩
def K11 : List (List Nat) := [[1001100, 1, 3, 2000000, 1, 2], [1001101, 1, 4, 2000000, 2]]
def Hn11 : List (Nat × Nat) := []
def F25 : Fun := ⟨0, 15, [(0, some (true, 19))],
 .seq (
 .region [zi 0 (.alloc (.agg [.str [], .str [], .str [], .int .i64 0, .int .i64 0, .int .i64 0, .int .i64 0, .nils 2, .bool false, .int .i64 0, .int .i64 0, .bool false, .nils 2, .bool false, .int .i64 0, .int .i64 0, .bool false, .nils 10, .nils 6]))] none) (
 .seq (
 .region [zi 3 (.build [.nils 2, .bool false, .int .i64 0, .int .i64 0, .bool false] [(2, 1, (.c (.int .i64 2))), (3, 1, (.c (.int .i64 6)))]),
 zi 1 (.alloc (.agg [.nils 2, .bool false, .int .i64 0, .int .i64 0, .bool false])),
 ⟨none, .store 5 (.t 1) (.t 3), none⟩] none) (
 .seq (
 .region [zi 4 (.build [.int .i64 0, .int .i64 0, .str [], .nils 4] [(0, 1, (.c (.int .i64 4))), (2, 1, (.c (.str [98, 97, 108, 97, 110, 99, 101])))]),
 zi 5 (.build [.int .i64 0, .int .i64 0, .str [], .nils 4] [(0, 1, (.c (.int .i64 2))), (1, 1, (.c (.int .i64 100)))]),
 zi 6 (.bslice 4 (.agg [.int .i64 0, .int .i64 0, .str [], .nils 4]) 2 [(0, (.t 4)), (1, (.t 5))]),
 zi 7 (.build [.int .i64 0, .int .i64 0, .str [], .nils 4] [(0, 1, (.c (.int .i64 12))), (3, 1, (.t 6))]),
 zi 2 (.alloc (.agg [.int .i64 0, .int .i64 0, .str [], .nils 4])),
 ⟨none, .store 4 (.t 2) (.t 7), none⟩] none) (
 .seq (
 .region [zi 8 (.load true 5 [.slice 2, .bool, .int .i64, .int .i64, .bool] (.t 1)),
 zi 9 (.load true 5 [.slice 2, .bool, .int .i64, .int .i64, .bool] (.t 1)),
 zi 10 (.load true 4 [.int .i64, .int .i64, .str, .slice 4] (.t 2)),
 zi 11 (.build [.int .i64 0, .int .i64 0, .str [], .nils 4] [(0, 1, (.c (.int .i64 2))), (1, 1, (.c (.int .i64 5)))]),
 zi 12 (.build [.str [], .int .i64 0, .int .i64 0, .int .i64 0, .str [], .nils 4, .int .i64 0, .int .i64 0, .str [], .nils 4] [(0, 1, (.c (.str [108, 111, 119]))), (1, 1, (.c (.int .i64 1))), (2, 4, (.t 10)), (6, 4, (.t 11))]),
 zi 13 (.bslice 10 (.agg [.str [], .int .i64 0, .int .i64 0, .int .i64 0, .str [], .nils 4, .int .i64 0, .int .i64 0, .str [], .nils 4]) 1 [(0, (.t 12))]),
 zi 14 (.build [.str [], .str [], .str [], .int .i64 0, .int .i64 0, .int .i64 0, .int .i64 0, .nils 2, .bool false, .int .i64 0, .int .i64 0, .bool false, .nils 2, .bool false, .int .i64 0, .int .i64 0, .bool false, .nils 10, .nils 6] [(0, 1, (.c (.str [103, 105, 114, 111]))), (1, 1, (.c (.str [69, 85, 82]))), (2, 1, (.c (.str [104, 111, 109, 101]))), (4, 1, (.c (.int .i64 1))), (7, 5, (.t 8)), (12, 5, (.t 9)), (17, 1, (.t 13))]),
 ⟨none, .store 19 (.t 0) (.t 14), none⟩] none) (
 .ret))))⟩
def K25 : List (List Nat) := []
def Hn25 : List (Nat × Nat) := []
def F26 : Fun := ⟨2, 35, [(4, none)],
 .seq (
 .region [zi 2 (.box 4 (.t 0)),
 zi 4 (.mov (.c (.bool false)))] none) (
 .seq (
 .seq (
 .region [zj 6 1,
 zi 7 (.bin .eql (.t 6) (.c (.int .i64 0))),
 zj 8 7,
 ⟨some 9, .faddr 3 (.t 2), some (8, false)⟩,
 ⟨some 10, .load false 1 [.slice 4] (.t 9), some (8, false)⟩,
 ⟨some 11, .len .l (.t 10), some (8, false)⟩,
 ⟨some 12, .bin .gtr (.t 11) (.c (.int .i64 8)), some (8, false)⟩,
 zi 13 (.pick (.t 8) (.c (.bool true)) (.t 12)),
 zj 14 13,
 ⟨some 15, .faddr 2 (.t 2), some (14, false)⟩,
 ⟨some 16, .load false 1 [.str] (.t 15), some (14, false)⟩,
 ⟨some 17, .len .s (.t 16), some (14, false)⟩,
 ⟨some 18, .bin .gtr (.t 17) (.c (.int .i64 40)), some (14, false)⟩,
 zi 19 (.pick (.t 14) (.c (.bool true)) (.t 18))] none) (
 .cond (.t 19) (
 .seq (
 .region [zi 4 (.mov (.c (.bool true)))] none) (
 .ret)) (
 .skip))) (
 .seq (
 .seq (
 .region [zi 5 (.mov (.c (.int .i64 0)))] none) (
 .block 0 (
 .loop [1002600, 1, 2, 5, 2000000, 4] (
 .seq (
 .seq (
 .region [zj 20 5,
 zi 21 (.faddr 3 (.t 2)),
 zi 22 (.load false 1 [.slice 4] (.t 21)),
 zi 23 (.len .l (.t 22)),
 zi 24 (.bin .lss (.t 20) (.t 23))] none) (
 .cond (.t 24) (
 .skip) (
 .exit 0))) (
 .seq (
 .block 1 (
 .seq (
 .region [zi 27 (.faddr 3 (.t 2)),
 zi 28 (.load false 1 [.slice 4] (.t 27)),
 zj 29 5,
 zi 30 (.iaddr 4 [.int .i64, .int .i64, .str, .slice 4] (.t 28) (.t 29)),
 zi 31 (.load true 4 [.int .i64, .int .i64, .str, .slice 4] (.t 30)),
 zj 32 1,
 zi 33 (.bin .sub (.t 32) (.c (.int .i64 1))),
 zi 34 (.call 26 [.t 31, .t 33])] none) (
 .cond (.t 34) (
 .seq (
 .region [zi 4 (.mov (.c (.bool true)))] none) (
 .ret)) (
 .skip)))) (
 .region [zj 25 5,
 zi 26 (.bin .add (.t 25) (.c (.int .i64 1))),
 zj 5 26] none)))))) (
 .seq (
 .region [zi 4 (.mov (.c (.bool false)))] none) (
 .ret))))⟩
def K26 : List (List Nat) := [[1002600, 1, 2, 5, 2000000, 4]]
def Hn26 : List (Nat × Nat) := []
def F20 : Fun := ⟨2, 80, [(4, none)],
 .seq (
 .region [zi 2 (.box 19 (.t 0)),
 zi 3 (.box 19 (.t 1)),
 zi 4 (.mov (.c (.bool false)))] none) (
 .seq (
 .seq (
 .region [zi 6 (.faddr 0 (.t 2)),
 zi 7 (.load false 1 [.str] (.t 6)),
 zi 8 (.faddr 0 (.t 3)),
 zi 9 (.load false 1 [.str] (.t 8)),
 zi 10 (.bin .neq (.t 7) (.t 9)),
 zj 11 10,
 ⟨some 12, .faddr 1 (.t 2), some (11, false)⟩,
 ⟨some 13, .load false 1 [.str] (.t 12), some (11, false)⟩,
 ⟨some 14, .faddr 1 (.t 3), some (11, false)⟩,
 ⟨some 15, .load false 1 [.str] (.t 14), some (11, false)⟩,
 ⟨some 16, .bin .neq (.t 13) (.t 15), some (11, false)⟩,
 zi 17 (.pick (.t 11) (.c (.bool true)) (.t 16)),
 zj 18 17,
 ⟨some 19, .faddr 2 (.t 2), some (18, false)⟩,
 ⟨some 20, .load false 1 [.str] (.t 19), some (18, false)⟩,
 ⟨some 21, .faddr 2 (.t 3), some (18, false)⟩,
 ⟨some 22, .load false 1 [.str] (.t 21), some (18, false)⟩,
 ⟨some 23, .bin .neq (.t 20) (.t 22), some (18, false)⟩,
 zi 24 (.pick (.t 18) (.c (.bool true)) (.t 23)),
 zj 25 24,
 ⟨some 26, .faddr 3 (.t 2), some (25, false)⟩,
 ⟨some 27, .load false 1 [.int .i64] (.t 26), some (25, false)⟩,
 ⟨some 28, .faddr 3 (.t 3), some (25, false)⟩,
 ⟨some 29, .load false 1 [.int .i64] (.t 28), some (25, false)⟩,
 ⟨some 30, .bin .neq (.t 27) (.t 29), some (25, false)⟩,
 zi 31 (.pick (.t 25) (.c (.bool true)) (.t 30)),
 zj 32 31,
 ⟨some 33, .faddr 4 (.t 2), some (32, false)⟩,
 ⟨some 34, .load false 1 [.int .i64] (.t 33), some (32, false)⟩,
 ⟨some 35, .faddr 4 (.t 3), some (32, false)⟩,
 ⟨some 36, .load false 1 [.int .i64] (.t 35), some (32, false)⟩,
 ⟨some 37, .bin .neq (.t 34) (.t 36), some (32, false)⟩,
 zi 38 (.pick (.t 32) (.c (.bool true)) (.t 37)),
 zj 39 38,
 ⟨some 40, .faddr 5 (.t 2), some (39, false)⟩,
 ⟨some 41, .load false 1 [.int .i64] (.t 40), some (39, false)⟩,
 ⟨some 42, .faddr 5 (.t 3), some (39, false)⟩,
 ⟨some 43, .load false 1 [.int .i64] (.t 42), some (39, false)⟩,
 ⟨some 44, .bin .neq (.t 41) (.t 43), some (39, false)⟩,
 zi 45 (.pick (.t 39) (.c (.bool true)) (.t 44)),
 zj 46 45,
 ⟨some 47, .faddr 6 (.t 2), some (46, false)⟩,
 ⟨some 48, .load false 1 [.int .i64] (.t 47), some (46, false)⟩,
 ⟨some 49, .faddr 6 (.t 3), some (46, false)⟩,
 ⟨some 50, .load false 1 [.int .i64] (.t 49), some (46, false)⟩,
 ⟨some 51, .bin .neq (.t 48) (.t 50), some (46, false)⟩,
 zi 52 (.pick (.t 46) (.c (.bool true)) (.t 51))] none) (
 .cond (.t 52) (
 .seq (
 .region [zi 4 (.mov (.c (.bool false)))] none) (
 .ret)) (
 .skip))) (
 .seq (
 .seq (
 .region [zi 53 (.faddr 7 (.t 2)),
 zi 54 (.load true 5 [.slice 2, .bool, .int .i64, .int .i64, .bool] (.t 53)),
 zi 55 (.faddr 7 (.t 3)),
 zi 56 (.load true 5 [.slice 2, .bool, .int .i64, .int .i64, .bool] (.t 55)),
 zi 57 (.call 41 [.t 54, .t 56]),
 zi 58 (.un .not (.t 57)),
 zj 59 58,
 ⟨some 60, .faddr 12 (.t 2), some (59, false)⟩,
 ⟨some 61, .load true 5 [.slice 2, .bool, .int .i64, .int .i64, .bool] (.t 60), some (59, false)⟩,
 ⟨some 62, .faddr 12 (.t 3), some (59, false)⟩,
 ⟨some 63, .load true 5 [.slice 2, .bool, .int .i64, .int .i64, .bool] (.t 62), some (59, false)⟩,
 ⟨some 64, .call 41 [.t 61, .t 63], some (59, false)⟩,
 ⟨some 65, .un .not (.t 64), some (59, false)⟩,
 zi 66 (.pick (.t 59) (.c (.bool true)) (.t 65))] none) (
 .cond (.t 66) (
 .seq (
 .region [zi 4 (.mov (.c (.bool false)))] none) (
 .ret)) (
 .skip))) (
 .seq (
 .region [zi 67 (.faddr 17 (.t 2)),
 zi 68 (.load false 1 [.slice 10] (.t 67)),
 zi 69 (.faddr 17 (.t 3)),
 zi 70 (.load false 1 [.slice 10] (.t 69)),
 zi 71 (.call 42 [.t 68, .t 70, .f 43]),
 zj 5 71] none) (
 .seq (
 .region [zj 72 5,
 zj 73 72,
 ⟨some 74, .faddr 18 (.t 2), some (73, true)⟩,
 ⟨some 75, .load false 1 [.slice 6] (.t 74), some (73, true)⟩,
 ⟨some 76, .faddr 18 (.t 3), some (73, true)⟩,
 ⟨some 77, .load false 1 [.slice 6] (.t 76), some (73, true)⟩,
 ⟨some 78, .call 45 [.t 75, .t 77, .f 46], some (73, true)⟩,
 zi 79 (.pick (.t 73) (.t 78) (.c (.bool false))),
 zj 4 79] none) (
 .ret)))))⟩
def K20 : List (List Nat) := []
def Hn20 : List (Nat × Nat) := []
def F21 : Fun := ⟨2, 135, [(4, none)],
 .seq (
 .region [zi 2 (.box 19 (.t 0)),
 zi 3 (.box 19 (.t 1)),
 zi 4 (.mov (.c (.bool false)))] none) (
 .seq (
 .seq (
 .region [zi 6 (.faddr 0 (.t 2)),
 zi 7 (.load false 1 [.str] (.t 6)),
 zi 8 (.faddr 0 (.t 3)),
 zi 9 (.load false 1 [.str] (.t 8)),
 zi 10 (.bin .neq (.t 7) (.t 9)),
 zj 11 10,
 ⟨some 12, .faddr 1 (.t 2), some (11, false)⟩,
 ⟨some 13, .load false 1 [.str] (.t 12), some (11, false)⟩,
 ⟨some 14, .faddr 1 (.t 3), some (11, false)⟩,
 ⟨some 15, .load false 1 [.str] (.t 14), some (11, false)⟩,
 ⟨some 16, .bin .neq (.t 13) (.t 15), some (11, false)⟩,
 zi 17 (.pick (.t 11) (.c (.bool true)) (.t 16)),
 zj 18 17,
 ⟨some 19, .faddr 2 (.t 2), some (18, false)⟩,
 ⟨some 20, .load false 1 [.str] (.t 19), some (18, false)⟩,
 ⟨some 21, .faddr 2 (.t 3), some (18, false)⟩,
 ⟨some 22, .load false 1 [.str] (.t 21), some (18, false)⟩,
 ⟨some 23, .bin .neq (.t 20) (.t 22), some (18, false)⟩,
 zi 24 (.pick (.t 18) (.c (.bool true)) (.t 23)),
 zj 25 24,
 ⟨some 26, .faddr 3 (.t 2), some (25, false)⟩,
 ⟨some 27, .load false 1 [.int .i64] (.t 26), some (25, false)⟩,
 ⟨some 28, .faddr 3 (.t 3), some (25, false)⟩,
 ⟨some 29, .load false 1 [.int .i64] (.t 28), some (25, false)⟩,
 ⟨some 30, .bin .neq (.t 27) (.t 29), some (25, false)⟩,
 zi 31 (.pick (.t 25) (.c (.bool true)) (.t 30)),
 zj 32 31,
 ⟨some 33, .faddr 4 (.t 2), some (32, false)⟩,
 ⟨some 34, .load false 1 [.int .i64] (.t 33), some (32, false)⟩,
 ⟨some 35, .faddr 4 (.t 3), some (32, false)⟩,
 ⟨some 36, .load false 1 [.int .i64] (.t 35), some (32, false)⟩,
 ⟨some 37, .bin .neq (.t 34) (.t 36), some (32, false)⟩,
 zi 38 (.pick (.t 32) (.c (.bool true)) (.t 37)),
 zj 39 38,
 ⟨some 40, .faddr 5 (.t 2), some (39, false)⟩,
 ⟨some 41, .load false 1 [.int .i64] (.t 40), some (39, false)⟩,
 ⟨some 42, .faddr 5 (.t 3), some (39, false)⟩,
 ⟨some 43, .load false 1 [.int .i64] (.t 42), some (39, false)⟩,
 ⟨some 44, .bin .neq (.t 41) (.t 43), some (39, false)⟩,
 zi 45 (.pick (.t 39) (.c (.bool true)) (.t 44)),
 zj 46 45,
 ⟨some 47, .faddr 6 (.t 2), some (46, false)⟩,
 ⟨some 48, .load false 1 [.int .i64] (.t 47), some (46, false)⟩,
 ⟨some 49, .faddr 6 (.t 3), some (46, false)⟩,
 ⟨some 50, .load false 1 [.int .i64] (.t 49), some (46, false)⟩,
 ⟨some 51, .bin .neq (.t 48) (.t 50), some (46, false)⟩,
 zi 52 (.pick (.t 46) (.c (.bool true)) (.t 51))] none) (
 .cond (.t 52) (
 .seq (
 .region [zi 4 (.mov (.c (.bool false)))] none) (
 .ret)) (
 .skip))) (
 .seq (
 .seq (
 .region [zi 53 (.faddr 7 (.t 2)),
 zi 54 (.load true 5 [.slice 2, .bool, .int .i64, .int .i64, .bool] (.t 53)),
 zi 55 (.faddr 7 (.t 3)),
 zi 56 (.load true 5 [.slice 2, .bool, .int .i64, .int .i64, .bool] (.t 55)),
 zi 57 (.call 14 [.t 54, .t 56]),
 zi 58 (.un .not (.t 57)),
 zj 59 58,
 ⟨some 60, .faddr 12 (.t 2), some (59, false)⟩,
 ⟨some 61, .load true 5 [.slice 2, .bool, .int .i64, .int .i64, .bool] (.t 60), some (59, false)⟩,
 ⟨some 62, .faddr 12 (.t 3), some (59, false)⟩,
 ⟨some 63, .load true 5 [.slice 2, .bool, .int .i64, .int .i64, .bool] (.t 62), some (59, false)⟩,
 ⟨some 64, .call 14 [.t 61, .t 63], some (59, false)⟩,
 ⟨some 65, .un .not (.t 64), some (59, false)⟩,
 zi 66 (.pick (.t 59) (.c (.bool true)) (.t 65)),
 zj 67 66,
 ⟨some 68, .faddr 17 (.t 2), some (67, false)⟩,
 ⟨some 69, .load false 1 [.slice 10] (.t 68), some (67, false)⟩,
 ⟨some 70, .faddr 17 (.t 3), some (67, false)⟩,
 ⟨some 71, .load false 1 [.slice 10] (.t 70), some (67, false)⟩,
 ⟨some 72, .call 17 [.t 69, .t 71], some (67, false)⟩,
 ⟨some 73, .un .not (.t 72), some (67, false)⟩,
 zi 74 (.pick (.t 67) (.c (.bool true)) (.t 73)),
 zj 75 74,
 ⟨some 76, .faddr 18 (.t 2), some (75, false)⟩,
 ⟨some 77, .load false 1 [.slice 6] (.t 76), some (75, false)⟩,
 ⟨some 78, .len .l (.t 77), some (75, false)⟩,
 ⟨some 79, .faddr 18 (.t 3), some (75, false)⟩,
 ⟨some 80, .load false 1 [.slice 6] (.t 79), some (75, false)⟩,
 ⟨some 81, .len .l (.t 80), some (75, false)⟩,
 ⟨some 82, .bin .neq (.t 78) (.t 81), some (75, false)⟩,
 zi 83 (.pick (.t 75) (.c (.bool true)) (.t 82))] none) (
 .cond (.t 83) (
 .seq (
 .region [zi 4 (.mov (.c (.bool false)))] none) (
 .ret)) (
 .skip))) (
 .seq (
 .seq (
 .region [zi 5 (.mov (.c (.int .i64 0)))] none) (
 .block 0 (
 .loop [1002100, 2, 3, 5, 2000000, 4] (
 .seq (
 .seq (
 .region [zj 84 5,
 zi 85 (.faddr 18 (.t 2)),
 zi 86 (.load false 1 [.slice 6] (.t 85)),
 zi 87 (.len .l (.t 86)),
 zi 88 (.bin .lss (.t 84) (.t 87))] none) (
 .cond (.t 88) (
 .skip) (
 .exit 0))) (
 .seq (
 .block 1 (
 .seq (
 .region [zi 91 (.faddr 18 (.t 2)),
 zi 92 (.load false 1 [.slice 6] (.t 91)),
 zj 93 5,
 zi 94 (.iaddr 6 [.str, .int .i64, .int .i64, .int .i64, .str, .slice 4] (.t 92) (.t 93)),
 zi 95 (.faddr 0 (.t 94)),
 zi 96 (.load false 1 [.str] (.t 95)),
 zi 97 (.faddr 18 (.t 3)),
 zi 98 (.load false 1 [.slice 6] (.t 97)),
 zj 99 5,
 zi 100 (.iaddr 6 [.str, .int .i64, .int .i64, .int .i64, .str, .slice 4] (.t 98) (.t 99)),
 zi 101 (.faddr 0 (.t 100)),
 zi 102 (.load false 1 [.str] (.t 101)),
 zi 103 (.bin .neq (.t 96) (.t 102)),
 zj 104 103,
 ⟨some 105, .faddr 18 (.t 2), some (104, false)⟩,
 ⟨some 106, .load false 1 [.slice 6] (.t 105), some (104, false)⟩,
 ⟨some 107, .mov (.t 5), some (104, false)⟩,
 ⟨some 108, .iaddr 6 [.str, .int .i64, .int .i64, .int .i64, .str, .slice 4] (.t 106) (.t 107), some (104, false)⟩,
 ⟨some 109, .faddr 1 (.t 108), some (104, false)⟩,
 ⟨some 110, .load false 1 [.int .i64] (.t 109), some (104, false)⟩,
 ⟨some 111, .faddr 18 (.t 3), some (104, false)⟩,
 ⟨some 112, .load false 1 [.slice 6] (.t 111), some (104, false)⟩,
 ⟨some 113, .mov (.t 5), some (104, false)⟩,
 ⟨some 114, .iaddr 6 [.str, .int .i64, .int .i64, .int .i64, .str, .slice 4] (.t 112) (.t 113), some (104, false)⟩,
 ⟨some 115, .faddr 1 (.t 114), some (104, false)⟩,
 ⟨some 116, .load false 1 [.int .i64] (.t 115), some (104, false)⟩,
 ⟨some 117, .bin .neq (.t 110) (.t 116), some (104, false)⟩,
 zi 118 (.pick (.t 104) (.c (.bool true)) (.t 117)),
 zj 119 118,
 ⟨some 120, .faddr 18 (.t 2), some (119, false)⟩,
 ⟨some 121, .load false 1 [.slice 6] (.t 120), some (119, false)⟩,
 ⟨some 122, .mov (.t 5), some (119, false)⟩,
 ⟨some 123, .iaddr 6 [.str, .int .i64, .int .i64, .int .i64, .str, .slice 4] (.t 121) (.t 122), some (119, false)⟩,
 ⟨some 124, .faddr 2 (.t 123), some (119, false)⟩,
 ⟨some 125, .load true 4 [.int .i64, .int .i64, .str, .slice 4] (.t 124), some (119, false)⟩,
 ⟨some 126, .faddr 18 (.t 3), some (119, false)⟩,
 ⟨some 127, .load false 1 [.slice 6] (.t 126), some (119, false)⟩,
 ⟨some 128, .mov (.t 5), some (119, false)⟩,
 ⟨some 129, .iaddr 6 [.str, .int .i64, .int .i64, .int .i64, .str, .slice 4] (.t 127) (.t 128), some (119, false)⟩,
 ⟨some 130, .faddr 2 (.t 129), some (119, false)⟩,
 ⟨some 131, .load true 4 [.int .i64, .int .i64, .str, .slice 4] (.t 130), some (119, false)⟩,
 ⟨some 132, .call 39 [.t 125, .t 131], some (119, false)⟩,
 ⟨some 133, .un .not (.t 132), some (119, false)⟩,
 zi 134 (.pick (.t 119) (.c (.bool true)) (.t 133))] (some [[], [0], [], [1, 0, 2], [3, 1, 0, 2], [4, 3, 1, 0, 2], [], [6], [], [7, 6, 8], [9, 7, 6, 8], [10, 9, 7, 6, 8], [5, 4, 3, 1, 0, 2, 11, 10, 9, 7, 6, 8], [12, 5, 4, 3, 1, 0, 2, 11, 10, 9, 7, 6, 8], [13, 12, 5, 4, 3, 1, 0, 2, 11, 10, 9, 7, 6, 8], [14, 13, 12, 5, 4, 3, 1, 0, 2, 11, 10, 9, 7, 6, 8], [13, 12, 5, 4, 3, 1, 0, 2, 11, 10, 9, 7, 6, 8], [15, 14, 16, 13, 12, 5, 4, 3, 1, 0, 2, 11, 10, 9, 7, 6, 8], [17, 15, 14, 16, 13, 12, 5, 4, 3, 1, 0, 2, 11, 10, 9, 7, 6, 8], [18, 17, 15, 14, 16, 13, 12, 5, 4, 3, 1, 0, 2, 11, 10, 9, 7, 6, 8], [13, 12, 5, 4, 3, 1, 0, 2, 11, 10, 9, 7, 6, 8], [20, 13, 12, 5, 4, 3, 1, 0, 2, 11, 10, 9, 7, 6, 8], [13, 12, 5, 4, 3, 1, 0, 2, 11, 10, 9, 7, 6, 8], [21, 20, 22, 13, 12, 5, 4, 3, 1, 0, 2, 11, 10, 9, 7, 6, 8], [23, 21, 20, 22, 13, 12, 5, 4, 3, 1, 0, 2, 11, 10, 9, 7, 6, 8], [24, 23, 21, 20, 22, 13, 12, 5, 4, 3, 1, 0, 2, 11, 10, 9, 7, 6, 8], [19, 18, 17, 15, 14, 16, 25, 24, 23, 21, 20, 22, 13, 12, 5, 4, 3, 1, 0, 2, 11, 10, 9, 7, 6, 8], [26, 19, 18, 17, 15, 14, 16, 25, 24, 23, 21, 20, 22, 13, 12, 5, 4, 3, 1, 0, 2, 11, 10, 9, 7, 6, 8], [27, 26, 19, 18, 17, 15, 14, 16, 25, 24, 23, 21, 20, 22, 13, 12, 5, 4, 3, 1, 0, 2, 11, 10, 9, 7, 6, 8], [28, 27, 26, 19, 18, 17, 15, 14, 16, 25, 24, 23, 21, 20, 22, 13, 12, 5, 4, 3, 1, 0, 2, 11, 10, 9, 7, 6, 8], [29, 28, 27, 26, 19, 18, 17, 15, 14, 16, 25, 24, 23, 21, 20, 22, 13, 12, 5, 4, 3, 1, 0, 2, 11, 10, 9, 7, 6, 8], [28, 27, 26, 19, 18, 17, 15, 14, 16, 25, 24, 23, 21, 20, 22, 13, 12, 5, 4, 3, 1, 0, 2, 11, 10, 9, 7, 6, 8], [30, 29, 31, 28, 27, 26, 19, 18, 17, 15, 14, 16, 25, 24, 23, 21, 20, 22, 13, 12, 5, 4, 3, 1, 0, 2, 11, 10, 9, 7, 6, 8], [32, 30, 29, 31, 28, 27, 26, 19, 18, 17, 15, 14, 16, 25, 24, 23, 21, 20, 22, 13, 12, 5, 4, 3, 1, 0, 2, 11, 10, 9, 7, 6, 8], [33, 32, 30, 29, 31, 28, 27, 26, 19, 18, 17, 15, 14, 16, 25, 24, 23, 21, 20, 22, 13, 12, 5, 4, 3, 1, 0, 2, 11, 10, 9, 7, 6, 8], [28, 27, 26, 19, 18, 17, 15, 14, 16, 25, 24, 23, 21, 20, 22, 13, 12, 5, 4, 3, 1, 0, 2, 11, 10, 9, 7, 6, 8], [35, 28, 27, 26, 19, 18, 17, 15, 14, 16, 25, 24, 23, 21, 20, 22, 13, 12, 5, 4, 3, 1, 0, 2, 11, 10, 9, 7, 6, 8], [28, 27, 26, 19, 18, 17, 15, 14, 16, 25, 24, 23, 21, 20, 22, 13, 12, 5, 4, 3, 1, 0, 2, 11, 10, 9, 7, 6, 8], [36, 35, 37, 28, 27, 26, 19, 18, 17, 15, 14, 16, 25, 24, 23, 21, 20, 22, 13, 12, 5, 4, 3, 1, 0, 2, 11, 10, 9, 7, 6, 8], [38, 36, 35, 37, 28, 27, 26, 19, 18, 17, 15, 14, 16, 25, 24, 23, 21, 20, 22, 13, 12, 5, 4, 3, 1, 0, 2, 11, 10, 9, 7, 6, 8], [39, 38, 36, 35, 37, 28, 27, 26, 19, 18, 17, 15, 14, 16, 25, 24, 23, 21, 20, 22, 13, 12, 5, 4, 3, 1, 0, 2, 11, 10, 9, 7, 6, 8], [34, 33, 32, 30, 29, 31, 40, 39, 38, 36, 35, 37, 28, 27, 26, 19, 18, 17, 15, 14, 16, 25, 24, 23, 21, 20, 22, 13, 12, 5, 4, 3, 1, 0, 2, 11, 10, 9, 7, 6, 8], [41, 34, 33, 32, 30, 29, 31, 40, 39, 38, 36, 35, 37, 28, 27, 26, 19, 18, 17, 15, 14, 16, 25, 24, 23, 21, 20, 22, 13, 12, 5, 4, 3, 1, 0, 2, 11, 10, 9, 7, 6, 8], [42, 41, 34, 33, 32, 30, 29, 31, 40, 39, 38, 36, 35, 37, 28, 27, 26, 19, 18, 17, 15, 14, 16, 25, 24, 23, 21, 20, 22, 13, 12, 5, 4, 3, 1, 0, 2, 11, 10, 9, 7, 6, 8]])) (
 .cond (.t 134) (
 .seq (
 .region [zi 4 (.mov (.c (.bool false)))] none) (
 .ret)) (
 .skip)))) (
 .region [zj 89 5,
 zi 90 (.bin .add (.t 89) (.c (.int .i64 1))),
 zj 5 90] none)))))) (
 .seq (
 .region [zi 4 (.mov (.c (.bool true)))] none) (
 .ret)))))⟩
def K21 : List (List Nat) := [[1002100, 2, 3, 5, 2000000, 4]]
def Hn21 : List (Nat × Nat) := []
def F8 : Fun := ⟨0, 30, [(0, none)],
 .seq (
 .region [zi 0 (.mov (.c (.nils 2)))] none) (
 .seq (
 .region [zi 1 (.mov (.c (.nils 2)))] none) (
 .seq (
 .seq (
 .region [zi 6 (.build [.str [], .str [], .str [], .str []] [(0, 1, (.c (.str [98, 97, 108, 97, 110, 99, 101]))), (1, 1, (.c (.str [108, 111, 119, 101, 115, 116]))), (2, 1, (.c (.str [118, 111, 108, 117, 109, 101]))), (3, 1, (.c (.str [97, 109, 111, 117, 110, 116])))]),
 zi 7 (.mov (.c (.int .i64 0)))] none) (
 .block 0 (
 .loop [1000800, 1, 6, 7, 2000000, 1] (
 .seq (
 .region [zi 8 (.bin .lss (.t 7) (.c (.int .i64 4)))] none) (
 .seq (
 .cond (.t 8) (
 .skip) (
 .exit 0)) (
 .seq (
 .block 1 (
 .seq (
 .region [zi 9 (.idxa false 4 1 (.t 6) (.t 7)),
 zj 3 9] none) (
 .region [zj 10 1,
 zj 11 3,
 zi 12 (.build [.str [], .int .i64 0] [(0, 1, (.t 11)), (1, 1, (.c (.int .i64 2)))]),
 zi 13 (.bslice 2 (.agg [.str [], .int .i64 0]) 1 [(0, (.t 12))]),
 zi 14 (.app 2 24 (.t 10) (.t 13)),
 zj 1 14] none))) (
 .region [zi 15 (.bin .add (.t 7) (.c (.int .i64 1))),
 zj 7 15] none))))))) (
 .seq (
 .seq (
 .region [zi 16 (.build [.str [], .str []] [(0, 1, (.c (.str [99, 111, 117, 110, 116]))), (1, 1, (.c (.str [97, 103, 101])))]),
 zi 17 (.mov (.c (.int .i64 0)))] none) (
 .block 2 (
 .loop [1000801, 1, 16, 17, 2000000, 1] (
 .seq (
 .region [zi 18 (.bin .lss (.t 17) (.c (.int .i64 2)))] none) (
 .seq (
 .cond (.t 18) (
 .skip) (
 .exit 2)) (
 .seq (
 .block 3 (
 .seq (
 .region [zi 19 (.idxa false 2 1 (.t 16) (.t 17)),
 zj 5 19] none) (
 .region [zj 20 1,
 zj 21 5,
 zi 22 (.build [.str [], .int .i64 0] [(0, 1, (.t 21)), (1, 1, (.c (.int .i64 1)))]),
 zi 23 (.bslice 2 (.agg [.str [], .int .i64 0]) 1 [(0, (.t 22))]),
 zi 24 (.app 2 24 (.t 20) (.t 23)),
 zj 1 24] none))) (
 .region [zi 25 (.bin .add (.t 17) (.c (.int .i64 1))),
 zj 17 25] none))))))) (
 .seq (
 .region [zj 26 1,
 zi 27 (.build [.str [], .int .i64 0] [(0, 1, (.c (.str [100, 97, 121]))), (1, 1, (.c (.int .i64 4)))]),
 zi 28 (.bslice 2 (.agg [.str [], .int .i64 0]) 1 [(0, (.t 27))]),
 zi 29 (.app 2 24 (.t 26) (.t 28)),
 zj 0 29] none) (
 .ret)))))⟩
def K8 : List (List Nat) := [[1000800, 1, 6, 7, 2000000, 1], [1000801, 1, 16, 17, 2000000, 1]]
def Hn8 : List (Nat × Nat) := [(0, 2), (1, 2)]
def F12 : Fun := ⟨3, 74, [(6, none)],
 .seq (
 .region [zi 3 (.box 19 (.t 0)),
 zi 6 (.mov (.c (.int .i64 0)))] none) (
 .seq (
 .seq (
 .region [zi 17 (.load true 19 [.str, .str, .str, .int .i64, .int .i64, .int .i64, .int .i64, .slice 2, .bool, .int .i64, .int .i64, .bool, .slice 2, .bool, .int .i64, .int .i64, .bool, .slice 10, .slice 6] (.t 3)),
 zj 18 1,
 zj 19 2,
 zi 20 (.call 27 [.t 17, .t 18, .t 19]),
 zj 7 20] none) (
 .seq (
 .region [zj 21 7,
 zi 22 (.bin .neq (.t 21) (.c (.int .i64 0)))] none) (
 .cond (.t 22) (
 .seq (
 .region [zj 23 7,
 zj 6 23] none) (
 .ret)) (
 .skip)))) (
 .seq (
 .seq (
 .region [zi 24 (.faddr 7 (.t 3)),
 zi 25 (.load true 5 [.slice 2, .bool, .int .i64, .int .i64, .bool] (.t 24)),
 zi 26 (.faddr 12 (.t 3)),
 zi 27 (.load true 5 [.slice 2, .bool, .int .i64, .int .i64, .bool] (.t 26)),
 zi 28 (.build [.nils 2, .bool false, .int .i64 0, .int .i64 0, .bool false, .nils 2, .bool false, .int .i64 0, .int .i64 0, .bool false] [(0, 5, (.t 25)), (5, 5, (.t 27))]),
 zi 29 (.mov (.c (.int .i64 0)))] none) (
 .block 0 (
 .loop [1001200, 3, 28, 29, 2000000, 3, 6] (
 .seq (
 .region [zi 30 (.bin .lss (.t 29) (.c (.int .i64 2)))] none) (
 .seq (
 .cond (.t 30) (
 .skip) (
 .exit 0)) (
 .seq (
 .block 1 (
 .seq (
 .region [zi 31 (.idxa true 2 5 (.t 28) (.t 29)),
 zi 9 (.alloc (.agg [.nils 2, .bool false, .int .i64 0, .int .i64 0, .bool false])),
 ⟨none, .store 5 (.t 9) (.t 31), none⟩] none) (
 .seq (
 .region [zi 32 (.load true 5 [.slice 2, .bool, .int .i64, .int .i64, .bool] (.t 9)),
 zi 33 (.call 28 [.t 32]),
 zj 10 33] none) (
 .seq (
 .region [zj 34 10,
 zi 35 (.bin .neq (.t 34) (.c (.int .i64 0)))] none) (
 .cond (.t 35) (
 .seq (
 .region [zj 36 10,
 zj 6 36] none) (
 .ret)) (
 .skip)))))) (
 .region [zi 37 (.bin .add (.t 29) (.c (.int .i64 1))),
 zj 29 37] none))))))) (
 .seq (
 .seq (
 .region [zi 38 (.faddr 17 (.t 3)),
 zi 39 (.load false 1 [.slice 10] (.t 38)),
 zi 40 (.len .l (.t 39)),
 zi 41 (.bin .gtr (.t 40) (.c (.int .i64 4))),
 zj 42 41,
 ⟨some 43, .faddr 18 (.t 3), some (42, false)⟩,
 ⟨some 44, .load false 1 [.slice 6] (.t 43), some (42, false)⟩,
 ⟨some 45, .len .l (.t 44), some (42, false)⟩,
 ⟨some 46, .bin .gtr (.t 45) (.c (.int .i64 4)), some (42, false)⟩,
 zi 47 (.pick (.t 42) (.c (.bool true)) (.t 46))] none) (
 .cond (.t 47) (
 .seq (
 .region [zi 6 (.mov (.c (.int .i64 5)))] none) (
 .ret)) (
 .skip))) (
 .seq (
 .seq (
 .region [zi 48 (.faddr 17 (.t 3)),
 zi 49 (.load false 1 [.slice 10] (.t 48)),
 zi 50 (.len .l (.t 49)),
 zi 51 (.mov (.c (.int .i64 0)))] none) (
 .block 2 (
 .loop [1001201, 3, 49, 50, 51, 2000000, 3, 6] (
 .seq (
 .region [zi 52 (.bin .lss (.t 51) (.t 50))] none) (
 .seq (
 .cond (.t 52) (
 .skip) (
 .exit 2)) (
 .seq (
 .block 3 (
 .seq (
 .region [zi 53 (.iaddr 10 [.str, .int .i64, .int .i64, .int .i64, .str, .slice 4, .int .i64, .int .i64, .str, .slice 4] (.t 49) (.t 51)),
 zi 54 (.load true 10 [.str, .int .i64, .int .i64, .int .i64, .str, .slice 4, .int .i64, .int .i64, .str, .slice 4] (.t 53)),
 zi 12 (.alloc (.agg [.str [], .int .i64 0, .int .i64 0, .int .i64 0, .str [], .nils 4, .int .i64 0, .int .i64 0, .str [], .nils 4])),
 ⟨none, .store 10 (.t 12) (.t 54), none⟩] none) (
 .seq (
 .region [zi 55 (.load true 10 [.str, .int .i64, .int .i64, .int .i64, .str, .slice 4, .int .i64, .int .i64, .str, .slice 4] (.t 12)),
 zi 56 (.call 29 [.t 55]),
 zj 13 56] none) (
 .seq (
 .region [zj 57 13,
 zi 58 (.bin .neq (.t 57) (.c (.int .i64 0)))] none) (
 .cond (.t 58) (
 .seq (
 .region [zj 59 13,
 zj 6 59] none) (
 .ret)) (
 .skip)))))) (
 .region [zi 60 (.bin .add (.t 51) (.c (.int .i64 1))),
 zj 51 60] none))))))) (
 .seq (
 .seq (
 .region [zi 61 (.faddr 18 (.t 3)),
 zi 62 (.load false 1 [.slice 6] (.t 61)),
 zi 63 (.len .l (.t 62)),
 zi 64 (.mov (.c (.int .i64 0)))] none) (
 .block 4 (
 .loop [1001202, 62, 63, 64, 2000000, 6] (
 .seq (
 .region [zi 65 (.bin .lss (.t 64) (.t 63))] none) (
 .seq (
 .cond (.t 65) (
 .skip) (
 .exit 4)) (
 .seq (
 .block 5 (
 .seq (
 .region [zi 66 (.iaddr 6 [.str, .int .i64, .int .i64, .int .i64, .str, .slice 4] (.t 62) (.t 64)),
 zi 67 (.load true 6 [.str, .int .i64, .int .i64, .int .i64, .str, .slice 4] (.t 66)),
 zi 15 (.alloc (.agg [.str [], .int .i64 0, .int .i64 0, .int .i64 0, .str [], .nils 4])),
 ⟨none, .store 6 (.t 15) (.t 67), none⟩] none) (
 .seq (
 .region [zi 68 (.load true 6 [.str, .int .i64, .int .i64, .int .i64, .str, .slice 4] (.t 15)),
 zi 69 (.call 30 [.t 68]),
 zj 16 69] none) (
 .seq (
 .region [zj 70 16,
 zi 71 (.bin .neq (.t 70) (.c (.int .i64 0)))] none) (
 .cond (.t 71) (
 .seq (
 .region [zj 72 16,
 zj 6 72] none) (
 .ret)) (
 .skip)))))) (
 .region [zi 73 (.bin .add (.t 64) (.c (.int .i64 1))),
 zj 64 73] none))))))) (
 .seq (
 .region [zi 6 (.mov (.c (.int .i64 0)))] none) (
 .ret)))))))⟩
def K12 : List (List Nat) := [[1001200, 3, 28, 29, 2000000, 3, 6], [1001201, 3, 49, 50, 51, 2000000, 3, 6], [1001202, 62, 63, 64, 2000000, 6]]
def Hn12 : List (Nat × Nat) := []
def F18 : Fun := ⟨2, 33, [(4, none)],
 .seq (
 .region [zi 2 (.box 19 (.t 0)),
 zi 4 (.mov (.c (.nils 10)))] none) (
 .seq (
 .region [zi 5 (.mov (.c (.nils 10)))] none) (
 .seq (
 .seq (
 .region [zi 8 (.faddr 17 (.t 2)),
 zi 9 (.load false 1 [.slice 10] (.t 8)),
 zi 10 (.len .l (.t 9)),
 zi 11 (.mov (.c (.int .i64 0)))] none) (
 .block 0 (
 .loop [1001800, 1, 5, 9, 10, 11, 2000000, 5] (
 .seq (
 .region [zi 12 (.bin .lss (.t 11) (.t 10))] none) (
 .seq (
 .cond (.t 12) (
 .skip) (
 .exit 0)) (
 .seq (
 .block 1 (
 .seq (
 .region [zi 13 (.iaddr 10 [.str, .int .i64, .int .i64, .int .i64, .str, .slice 4, .int .i64, .int .i64, .str, .slice 4] (.t 9) (.t 11)),
 zi 14 (.load true 10 [.str, .int .i64, .int .i64, .int .i64, .str, .slice 4, .int .i64, .int .i64, .str, .slice 4] (.t 13)),
 zi 7 (.alloc (.agg [.str [], .int .i64 0, .int .i64 0, .int .i64 0, .str [], .nils 4, .int .i64 0, .int .i64 0, .str [], .nils 4])),
 ⟨none, .store 10 (.t 7) (.t 14), none⟩] none) (
 .seq (
 .region [zi 15 (.faddr 1 (.t 7)),
 zi 16 (.load false 1 [.int .i64] (.t 15)),
 zj 17 1,
 zi 18 (.bin .eql (.t 16) (.t 17))] none) (
 .cond (.t 18) (
 .seq (
 .region [zi 19 (.faddr 2 (.t 7)),
 zi 20 (.load true 4 [.int .i64, .int .i64, .str, .slice 4] (.t 19)),
 zi 21 (.call 40 [.t 20]),
 zi 22 (.faddr 6 (.t 7)),
 zi 23 (.load true 4 [.int .i64, .int .i64, .str, .slice 4] (.t 22)),
 zi 24 (.call 40 [.t 23]),
 zi 25 (.faddr 2 (.t 7)),
 ⟨none, .store 4 (.t 25) (.t 21), none⟩,
 zi 26 (.faddr 6 (.t 7)),
 ⟨none, .store 4 (.t 26) (.t 24), none⟩] (some [[], [0], [1, 0], [], [3], [4, 3, 2, 1, 0], [2, 1, 0, 4, 3], [6, 5, 2, 1, 0, 4, 3], [7, 6, 5, 2, 1, 0, 4, 3], [8, 7, 6, 5, 2, 1, 0, 4, 3]])) (
 .region [zj 27 5,
 zi 28 (.load true 10 [.str, .int .i64, .int .i64, .int .i64, .str, .slice 4, .int .i64, .int .i64, .str, .slice 4] (.t 7)),
 zi 29 (.bslice 10 (.agg [.str [], .int .i64 0, .int .i64 0, .int .i64 0, .str [], .nils 4, .int .i64 0, .int .i64 0, .str [], .nils 4]) 1 [(0, (.t 28))]),
 zi 30 (.app 10 136 (.t 27) (.t 29)),
 zj 5 30] none)) (
 .skip))))) (
 .region [zi 31 (.bin .add (.t 11) (.c (.int .i64 1))),
 zj 11 31] none))))))) (
 .seq (
 .region [zj 32 5,
 zj 4 32] none) (
 .ret))))⟩
def K18 : List (List Nat) := [[1001800, 1, 5, 9, 10, 11, 2000000, 5]]
def Hn18 : List (Nat × Nat) := [(4, 10), (5, 10)]
def F15 : Fun := ⟨2, 17, [(4, some (true, 5))],
 .seq (
 .region [zi 2 (.box 19 (.t 0)),
 zi 4 (.alloc (.agg [.nils 2, .bool false, .int .i64 0, .int .i64 0, .bool false]))] none) (
 .seq (
 .region [zi 6 (.faddr 7 (.t 2)),
 zi 7 (.load true 5 [.slice 2, .bool, .int .i64, .int .i64, .bool] (.t 6)),
 zi 5 (.alloc (.agg [.nils 2, .bool false, .int .i64 0, .int .i64 0, .bool false])),
 ⟨none, .store 5 (.t 5) (.t 7), none⟩] none) (
 .seq (
 .seq (
 .region [zj 8 1,
 zi 9 (.bin .lss (.t 8) (.c (.int .i64 0)))] none) (
 .cond (.t 9) (
 .region [zi 10 (.faddr 12 (.t 2)),
 zi 11 (.load true 5 [.slice 2, .bool, .int .i64, .int .i64, .bool] (.t 10)),
 ⟨none, .store 5 (.t 5) (.t 11), none⟩] none) (
 .skip))) (
 .seq (
 .region [zi 12 (.faddr 0 (.t 5)),
 zi 13 (.load false 1 [.slice 2] (.t 12)),
 zi 14 (.call 38 [.t 13]),
 zi 15 (.faddr 0 (.t 5)),
 ⟨none, .store 1 (.t 15) (.t 14), none⟩] none) (
 .seq (
 .region [zi 16 (.load true 5 [.slice 2, .bool, .int .i64, .int .i64, .bool] (.t 5)),
 ⟨none, .store 5 (.t 4) (.t 16), none⟩] none) (
 .ret)))))⟩
def K15 : List (List Nat) := []
def Hn15 : List (Nat × Nat) := []
def F41 : Fun := ⟨2, 57, [(4, none)],
 .seq (
 .region [zi 2 (.box 5 (.t 0)),
 zi 3 (.box 5 (.t 1)),
 zi 4 (.mov (.c (.bool false)))] none) (
 .seq (
 .seq (
 .region [zi 6 (.faddr 0 (.t 2)),
 zi 7 (.load false 1 [.slice 2] (.t 6)),
 zi 8 (.len .l (.t 7)),
 zi 9 (.faddr 0 (.t 3)),
 zi 10 (.load false 1 [.slice 2] (.t 9)),
 zi 11 (.len .l (.t 10)),
 zi 12 (.bin .neq (.t 8) (.t 11))] none) (
 .cond (.t 12) (
 .seq (
 .region [zi 4 (.mov (.c (.bool false)))] none) (
 .ret)) (
 .skip))) (
 .seq (
 .seq (
 .region [zi 13 (.faddr 0 (.t 2)),
 zi 14 (.load false 1 [.slice 2] (.t 13)),
 zi 15 (.len .l (.t 14)),
 zi 16 (.mov (.c (.int .i64 0)))] none) (
 .block 0 (
 .loop [1004100, 2, 3, 15, 16, 2000000, 2, 3, 4] (
 .seq (
 .region [zi 17 (.bin .lss (.t 16) (.t 15))] none) (
 .seq (
 .cond (.t 17) (
 .skip) (
 .exit 0)) (
 .seq (
 .block 1 (
 .seq (
 .region [zj 18 16,
 zj 5 18] none) (
 .seq (
 .region [zi 19 (.faddr 0 (.t 2)),
 zi 20 (.load false 1 [.slice 2] (.t 19)),
 zj 21 5,
 zi 22 (.iaddr 2 [.int .i64, .int .i64] (.t 20) (.t 21)),
 zi 23 (.load true 2 [.int .i64, .int .i64] (.t 22)),
 zi 24 (.faddr 0 (.t 3)),
 zi 25 (.load false 1 [.slice 2] (.t 24)),
 zj 26 5,
 zi 27 (.iaddr 2 [.int .i64, .int .i64] (.t 25) (.t 26)),
 zi 28 (.load true 2 [.int .i64, .int .i64] (.t 27)),
 zi 29 (.eqs (true, [.i, .i]) true (.t 23) (.t 28))] (some [[], [0], [], [1, 0, 2], [3, 1, 0, 2], [], [5], [], [6, 5, 7], [8, 6, 5, 7], [4, 3, 1, 0, 2, 9, 8, 6, 5, 7]])) (
 .cond (.t 29) (
 .seq (
 .region [zi 4 (.mov (.c (.bool false)))] none) (
 .ret)) (
 .skip))))) (
 .region [zi 30 (.bin .add (.t 16) (.c (.int .i64 1))),
 zj 16 30] none))))))) (
 .seq (
 .region [zi 31 (.faddr 1 (.t 2)),
 zi 32 (.load false 1 [.bool] (.t 31)),
 zi 33 (.faddr 1 (.t 3)),
 zi 34 (.load false 1 [.bool] (.t 33)),
 zi 35 (.eqs (false, [.b]) false (.t 32) (.t 34)),
 zj 36 35,
 ⟨some 37, .faddr 2 (.t 2), some (36, true)⟩,
 ⟨some 38, .load false 1 [.int .i64] (.t 37), some (36, true)⟩,
 ⟨some 39, .faddr 2 (.t 3), some (36, true)⟩,
 ⟨some 40, .load false 1 [.int .i64] (.t 39), some (36, true)⟩,
 ⟨some 41, .bin .eql (.t 38) (.t 40), some (36, true)⟩,
 zi 42 (.pick (.t 36) (.t 41) (.c (.bool false))),
 zj 43 42,
 ⟨some 44, .faddr 3 (.t 2), some (43, true)⟩,
 ⟨some 45, .load false 1 [.int .i64] (.t 44), some (43, true)⟩,
 ⟨some 46, .faddr 3 (.t 3), some (43, true)⟩,
 ⟨some 47, .load false 1 [.int .i64] (.t 46), some (43, true)⟩,
 ⟨some 48, .bin .eql (.t 45) (.t 47), some (43, true)⟩,
 zi 49 (.pick (.t 43) (.t 48) (.c (.bool false))),
 zj 50 49,
 ⟨some 51, .faddr 4 (.t 2), some (50, true)⟩,
 ⟨some 52, .load false 1 [.bool] (.t 51), some (50, true)⟩,
 ⟨some 53, .faddr 4 (.t 3), some (50, true)⟩,
 ⟨some 54, .load false 1 [.bool] (.t 53), some (50, true)⟩,
 ⟨some 55, .eqs (false, [.b]) false (.t 52) (.t 54), some (50, true)⟩,
 zi 56 (.pick (.t 50) (.t 55) (.c (.bool false))),
 zj 4 56] none) (
 .ret))))⟩
def K41 : List (List Nat) := [[1004100, 2, 3, 15, 16, 2000000, 2, 3, 4]]
def Hn41 : List (Nat × Nat) := []
def F42 : Fun := ⟨3, 32, [(6, none)],
 .seq (
 .region [zi 6 (.mov (.c (.bool false)))] none) (
 .seq (
 .seq (
 .region [zj 10 0,
 zi 11 (.len .l (.t 10)),
 zj 12 1,
 zi 13 (.len .l (.t 12)),
 zi 14 (.bin .neq (.t 11) (.t 13))] none) (
 .cond (.t 14) (
 .seq (
 .region [zi 6 (.mov (.c (.bool false)))] none) (
 .ret)) (
 .skip))) (
 .seq (
 .seq (
 .region [zj 15 0,
 zi 16 (.len .l (.t 15)),
 zi 17 (.mov (.c (.int .i64 0)))] none) (
 .block 0 (
 .loop [1004200, 1, 2, 15, 16, 17, 2000000, 6] (
 .seq (
 .region [zi 18 (.bin .lss (.t 17) (.t 16))] none) (
 .seq (
 .cond (.t 18) (
 .skip) (
 .exit 0)) (
 .seq (
 .block 1 (
 .seq (
 .region [zj 19 17,
 zi 20 (.iaddr 10 [.str, .int .i64, .int .i64, .int .i64, .str, .slice 4, .int .i64, .int .i64, .str, .slice 4] (.t 15) (.t 17)),
 zi 21 (.load true 10 [.str, .int .i64, .int .i64, .int .i64, .str, .slice 4, .int .i64, .int .i64, .str, .slice 4] (.t 20)),
 zi 8 (.alloc (.agg [.str [], .int .i64 0, .int .i64 0, .int .i64 0, .str [], .nils 4, .int .i64 0, .int .i64 0, .str [], .nils 4])),
 zj 7 19,
 ⟨none, .store 10 (.t 8) (.t 21), none⟩] none) (
 .seq (
 .region [zj 22 1,
 zj 23 7,
 zi 24 (.iaddr 10 [.str, .int .i64, .int .i64, .int .i64, .str, .slice 4, .int .i64, .int .i64, .str, .slice 4] (.t 22) (.t 23)),
 zi 25 (.load true 10 [.str, .int .i64, .int .i64, .int .i64, .str, .slice 4, .int .i64, .int .i64, .str, .slice 4] (.t 24)),
 zi 9 (.alloc (.agg [.str [], .int .i64 0, .int .i64 0, .int .i64 0, .str [], .nils 4, .int .i64 0, .int .i64 0, .str [], .nils 4])),
 ⟨none, .store 10 (.t 9) (.t 25), none⟩] none) (
 .seq (
 .region [zj 26 2,
 zi 27 (.load true 10 [.str, .int .i64, .int .i64, .int .i64, .str, .slice 4, .int .i64, .int .i64, .str, .slice 4] (.t 8)),
 zi 28 (.load true 10 [.str, .int .i64, .int .i64, .int .i64, .str, .slice 4, .int .i64, .int .i64, .str, .slice 4] (.t 9)),
 zi 29 (.callv (.t 26) [.t 27, .t 28]),
 zi 30 (.un .not (.t 29))] none) (
 .cond (.t 30) (
 .seq (
 .region [zi 6 (.mov (.c (.bool false)))] none) (
 .ret)) (
 .skip)))))) (
 .region [zi 31 (.bin .add (.t 17) (.c (.int .i64 1))),
 zj 17 31] none))))))) (
 .seq (
 .region [zi 6 (.mov (.c (.bool true)))] none) (
 .ret))))⟩
def K42 : List (List Nat) := [[1004200, 1, 2, 15, 16, 17, 2000000, 6]]
def Hn42 : List (Nat × Nat) := []
def F43 : Fun := ⟨2, 31, [(4, none)],
 .seq (
 .region [zi 2 (.box 10 (.t 0)),
 zi 3 (.box 10 (.t 1)),
 zi 4 (.mov (.c (.bool false)))] none) (
 .seq (
 .region [zi 5 (.faddr 0 (.t 2)),
 zi 6 (.load false 1 [.str] (.t 5)),
 zi 7 (.faddr 0 (.t 3)),
 zi 8 (.load false 1 [.str] (.t 7)),
 zi 9 (.bin .eql (.t 6) (.t 8)),
 zj 10 9,
 ⟨some 11, .faddr 1 (.t 2), some (10, true)⟩,
 ⟨some 12, .load false 1 [.int .i64] (.t 11), some (10, true)⟩,
 ⟨some 13, .faddr 1 (.t 3), some (10, true)⟩,
 ⟨some 14, .load false 1 [.int .i64] (.t 13), some (10, true)⟩,
 ⟨some 15, .bin .eql (.t 12) (.t 14), some (10, true)⟩,
 zi 16 (.pick (.t 10) (.t 15) (.c (.bool false))),
 zj 17 16,
 ⟨some 18, .faddr 2 (.t 2), some (17, true)⟩,
 ⟨some 19, .load true 4 [.int .i64, .int .i64, .str, .slice 4] (.t 18), some (17, true)⟩,
 ⟨some 20, .faddr 2 (.t 3), some (17, true)⟩,
 ⟨some 21, .load true 4 [.int .i64, .int .i64, .str, .slice 4] (.t 20), some (17, true)⟩,
 ⟨some 22, .call 44 [.t 19, .t 21], some (17, true)⟩,
 zi 23 (.pick (.t 17) (.t 22) (.c (.bool false))),
 zj 24 23,
 ⟨some 25, .faddr 6 (.t 2), some (24, true)⟩,
 ⟨some 26, .load true 4 [.int .i64, .int .i64, .str, .slice 4] (.t 25), some (24, true)⟩,
 ⟨some 27, .faddr 6 (.t 3), some (24, true)⟩,
 ⟨some 28, .load true 4 [.int .i64, .int .i64, .str, .slice 4] (.t 27), some (24, true)⟩,
 ⟨some 29, .call 44 [.t 26, .t 28], some (24, true)⟩,
 zi 30 (.pick (.t 24) (.t 29) (.c (.bool false))),
 zj 4 30] none) (
 .ret))⟩
def K43 : List (List Nat) := []
def Hn43 : List (Nat × Nat) := []
def F45 : Fun := ⟨3, 32, [(6, none)],
 .seq (
 .region [zi 6 (.mov (.c (.bool false)))] none) (
 .seq (
 .seq (
 .region [zj 10 0,
 zi 11 (.len .l (.t 10)),
 zj 12 1,
 zi 13 (.len .l (.t 12)),
 zi 14 (.bin .neq (.t 11) (.t 13))] none) (
 .cond (.t 14) (
 .seq (
 .region [zi 6 (.mov (.c (.bool false)))] none) (
 .ret)) (
 .skip))) (
 .seq (
 .seq (
 .region [zj 15 0,
 zi 16 (.len .l (.t 15)),
 zi 17 (.mov (.c (.int .i64 0)))] none) (
 .block 0 (
 .loop [1004500, 1, 2, 15, 16, 17, 2000000, 6] (
 .seq (
 .region [zi 18 (.bin .lss (.t 17) (.t 16))] none) (
 .seq (
 .cond (.t 18) (
 .skip) (
 .exit 0)) (
 .seq (
 .block 1 (
 .seq (
 .region [zj 19 17,
 zi 20 (.iaddr 6 [.str, .int .i64, .int .i64, .int .i64, .str, .slice 4] (.t 15) (.t 17)),
 zi 21 (.load true 6 [.str, .int .i64, .int .i64, .int .i64, .str, .slice 4] (.t 20)),
 zi 8 (.alloc (.agg [.str [], .int .i64 0, .int .i64 0, .int .i64 0, .str [], .nils 4])),
 zj 7 19,
 ⟨none, .store 6 (.t 8) (.t 21), none⟩] none) (
 .seq (
 .region [zj 22 1,
 zj 23 7,
 zi 24 (.iaddr 6 [.str, .int .i64, .int .i64, .int .i64, .str, .slice 4] (.t 22) (.t 23)),
 zi 25 (.load true 6 [.str, .int .i64, .int .i64, .int .i64, .str, .slice 4] (.t 24)),
 zi 9 (.alloc (.agg [.str [], .int .i64 0, .int .i64 0, .int .i64 0, .str [], .nils 4])),
 ⟨none, .store 6 (.t 9) (.t 25), none⟩] none) (
 .seq (
 .region [zj 26 2,
 zi 27 (.load true 6 [.str, .int .i64, .int .i64, .int .i64, .str, .slice 4] (.t 8)),
 zi 28 (.load true 6 [.str, .int .i64, .int .i64, .int .i64, .str, .slice 4] (.t 9)),
 zi 29 (.callv (.t 26) [.t 27, .t 28]),
 zi 30 (.un .not (.t 29))] none) (
 .cond (.t 30) (
 .seq (
 .region [zi 6 (.mov (.c (.bool false)))] none) (
 .ret)) (
 .skip)))))) (
 .region [zi 31 (.bin .add (.t 17) (.c (.int .i64 1))),
 zj 17 31] none))))))) (
 .seq (
 .region [zi 6 (.mov (.c (.bool true)))] none) (
 .ret))))⟩
def K45 : List (List Nat) := [[1004500, 1, 2, 15, 16, 17, 2000000, 6]]
def Hn45 : List (Nat × Nat) := []
def F46 : Fun := ⟨2, 24, [(4, none)],
 .seq (
 .region [zi 2 (.box 6 (.t 0)),
 zi 3 (.box 6 (.t 1)),
 zi 4 (.mov (.c (.bool false)))] none) (
 .seq (
 .region [zi 5 (.faddr 0 (.t 2)),
 zi 6 (.load false 1 [.str] (.t 5)),
 zi 7 (.faddr 0 (.t 3)),
 zi 8 (.load false 1 [.str] (.t 7)),
 zi 9 (.bin .eql (.t 6) (.t 8)),
 zj 10 9,
 ⟨some 11, .faddr 1 (.t 2), some (10, true)⟩,
 ⟨some 12, .load false 1 [.int .i64] (.t 11), some (10, true)⟩,
 ⟨some 13, .faddr 1 (.t 3), some (10, true)⟩,
 ⟨some 14, .load false 1 [.int .i64] (.t 13), some (10, true)⟩,
 ⟨some 15, .bin .eql (.t 12) (.t 14), some (10, true)⟩,
 zi 16 (.pick (.t 10) (.t 15) (.c (.bool false))),
 zj 17 16,
 ⟨some 18, .faddr 2 (.t 2), some (17, true)⟩,
 ⟨some 19, .load true 4 [.int .i64, .int .i64, .str, .slice 4] (.t 18), some (17, true)⟩,
 ⟨some 20, .faddr 2 (.t 3), some (17, true)⟩,
 ⟨some 21, .load true 4 [.int .i64, .int .i64, .str, .slice 4] (.t 20), some (17, true)⟩,
 ⟨some 22, .call 44 [.t 19, .t 21], some (17, true)⟩,
 zi 23 (.pick (.t 17) (.t 22) (.c (.bool false))),
 zj 4 23] none) (
 .ret))⟩
def K46 : List (List Nat) := []
def Hn46 : List (Nat × Nat) := []
def F14 : Fun := ⟨2, 59, [(4, none)],
 .seq (
 .region [zi 2 (.box 5 (.t 0)),
 zi 3 (.box 5 (.t 1)),
 zi 4 (.mov (.c (.bool false)))] none) (
 .seq (
 .seq (
 .region [zi 6 (.faddr 0 (.t 2)),
 zi 7 (.load false 1 [.slice 2] (.t 6)),
 zi 8 (.len .l (.t 7)),
 zi 9 (.faddr 0 (.t 3)),
 zi 10 (.load false 1 [.slice 2] (.t 9)),
 zi 11 (.len .l (.t 10)),
 zi 12 (.bin .neq (.t 8) (.t 11)),
 zj 13 12,
 ⟨some 14, .faddr 1 (.t 2), some (13, false)⟩,
 ⟨some 15, .load false 1 [.bool] (.t 14), some (13, false)⟩,
 ⟨some 16, .faddr 1 (.t 3), some (13, false)⟩,
 ⟨some 17, .load false 1 [.bool] (.t 16), some (13, false)⟩,
 ⟨some 18, .eqs (false, [.b]) true (.t 15) (.t 17), some (13, false)⟩,
 zi 19 (.pick (.t 13) (.c (.bool true)) (.t 18)),
 zj 20 19,
 ⟨some 21, .faddr 2 (.t 2), some (20, false)⟩,
 ⟨some 22, .load false 1 [.int .i64] (.t 21), some (20, false)⟩,
 ⟨some 23, .faddr 2 (.t 3), some (20, false)⟩,
 ⟨some 24, .load false 1 [.int .i64] (.t 23), some (20, false)⟩,
 ⟨some 25, .bin .neq (.t 22) (.t 24), some (20, false)⟩,
 zi 26 (.pick (.t 20) (.c (.bool true)) (.t 25)),
 zj 27 26,
 ⟨some 28, .faddr 3 (.t 2), some (27, false)⟩,
 ⟨some 29, .load false 1 [.int .i64] (.t 28), some (27, false)⟩,
 ⟨some 30, .faddr 3 (.t 3), some (27, false)⟩,
 ⟨some 31, .load false 1 [.int .i64] (.t 30), some (27, false)⟩,
 ⟨some 32, .bin .neq (.t 29) (.t 31), some (27, false)⟩,
 zi 33 (.pick (.t 27) (.c (.bool true)) (.t 32)),
 zj 34 33,
 ⟨some 35, .faddr 4 (.t 2), some (34, false)⟩,
 ⟨some 36, .load false 1 [.bool] (.t 35), some (34, false)⟩,
 ⟨some 37, .faddr 4 (.t 3), some (34, false)⟩,
 ⟨some 38, .load false 1 [.bool] (.t 37), some (34, false)⟩,
 ⟨some 39, .eqs (false, [.b]) true (.t 36) (.t 38), some (34, false)⟩,
 zi 40 (.pick (.t 34) (.c (.bool true)) (.t 39))] none) (
 .cond (.t 40) (
 .seq (
 .region [zi 4 (.mov (.c (.bool false)))] none) (
 .ret)) (
 .skip))) (
 .seq (
 .seq (
 .region [zi 5 (.mov (.c (.int .i64 0)))] none) (
 .block 0 (
 .loop [1001400, 2, 3, 5, 2000000, 4] (
 .seq (
 .seq (
 .region [zj 41 5,
 zi 42 (.faddr 0 (.t 2)),
 zi 43 (.load false 1 [.slice 2] (.t 42)),
 zi 44 (.len .l (.t 43)),
 zi 45 (.bin .lss (.t 41) (.t 44))] none) (
 .cond (.t 45) (
 .skip) (
 .exit 0))) (
 .seq (
 .block 1 (
 .seq (
 .region [zi 48 (.faddr 0 (.t 2)),
 zi 49 (.load false 1 [.slice 2] (.t 48)),
 zj 50 5,
 zi 51 (.iaddr 2 [.int .i64, .int .i64] (.t 49) (.t 50)),
 zi 52 (.load true 2 [.int .i64, .int .i64] (.t 51)),
 zi 53 (.faddr 0 (.t 3)),
 zi 54 (.load false 1 [.slice 2] (.t 53)),
 zj 55 5,
 zi 56 (.iaddr 2 [.int .i64, .int .i64] (.t 54) (.t 55)),
 zi 57 (.load true 2 [.int .i64, .int .i64] (.t 56)),
 zi 58 (.eqs (true, [.i, .i]) true (.t 52) (.t 57))] (some [[], [0], [], [1, 0, 2], [3, 1, 0, 2], [], [5], [], [6, 5, 7], [8, 6, 5, 7], [4, 3, 1, 0, 2, 9, 8, 6, 5, 7]])) (
 .cond (.t 58) (
 .seq (
 .region [zi 4 (.mov (.c (.bool false)))] none) (
 .ret)) (
 .skip)))) (
 .region [zj 46 5,
 zi 47 (.bin .add (.t 46) (.c (.int .i64 1))),
 zj 5 47] none)))))) (
 .seq (
 .region [zi 4 (.mov (.c (.bool true)))] none) (
 .ret))))⟩
def K14 : List (List Nat) := [[1001400, 2, 3, 5, 2000000, 4]]
def Hn14 : List (Nat × Nat) := []
def F17 : Fun := ⟨2, 69, [(4, none)],
 .seq (
 .region [zi 4 (.mov (.c (.bool false)))] none) (
 .seq (
 .seq (
 .region [zj 6 0,
 zi 7 (.len .l (.t 6)),
 zj 8 1,
 zi 9 (.len .l (.t 8)),
 zi 10 (.bin .neq (.t 7) (.t 9))] none) (
 .cond (.t 10) (
 .seq (
 .region [zi 4 (.mov (.c (.bool false)))] none) (
 .ret)) (
 .skip))) (
 .seq (
 .seq (
 .region [zi 5 (.mov (.c (.int .i64 0)))] none) (
 .block 0 (
 .loop [1001700, 0, 1, 5, 2000000, 4] (
 .seq (
 .seq (
 .region [zj 11 5,
 zj 12 0,
 zi 13 (.len .l (.t 12)),
 zi 14 (.bin .lss (.t 11) (.t 13))] none) (
 .cond (.t 14) (
 .skip) (
 .exit 0))) (
 .seq (
 .block 1 (
 .seq (
 .region [zj 17 0,
 zj 18 5,
 zi 19 (.iaddr 10 [.str, .int .i64, .int .i64, .int .i64, .str, .slice 4, .int .i64, .int .i64, .str, .slice 4] (.t 17) (.t 18)),
 zi 20 (.faddr 0 (.t 19)),
 zi 21 (.load false 1 [.str] (.t 20)),
 zj 22 1,
 zj 23 5,
 zi 24 (.iaddr 10 [.str, .int .i64, .int .i64, .int .i64, .str, .slice 4, .int .i64, .int .i64, .str, .slice 4] (.t 22) (.t 23)),
 zi 25 (.faddr 0 (.t 24)),
 zi 26 (.load false 1 [.str] (.t 25)),
 zi 27 (.bin .neq (.t 21) (.t 26)),
 zj 28 27,
 ⟨some 29, .mov (.t 0), some (28, false)⟩,
 ⟨some 30, .mov (.t 5), some (28, false)⟩,
 ⟨some 31, .iaddr 10 [.str, .int .i64, .int .i64, .int .i64, .str, .slice 4, .int .i64, .int .i64, .str, .slice 4] (.t 29) (.t 30), some (28, false)⟩,
 ⟨some 32, .faddr 1 (.t 31), some (28, false)⟩,
 ⟨some 33, .load false 1 [.int .i64] (.t 32), some (28, false)⟩,
 ⟨some 34, .mov (.t 1), some (28, false)⟩,
 ⟨some 35, .mov (.t 5), some (28, false)⟩,
 ⟨some 36, .iaddr 10 [.str, .int .i64, .int .i64, .int .i64, .str, .slice 4, .int .i64, .int .i64, .str, .slice 4] (.t 34) (.t 35), some (28, false)⟩,
 ⟨some 37, .faddr 1 (.t 36), some (28, false)⟩,
 ⟨some 38, .load false 1 [.int .i64] (.t 37), some (28, false)⟩,
 ⟨some 39, .bin .neq (.t 33) (.t 38), some (28, false)⟩,
 zi 40 (.pick (.t 28) (.c (.bool true)) (.t 39)),
 zj 41 40,
 ⟨some 42, .mov (.t 0), some (41, false)⟩,
 ⟨some 43, .mov (.t 5), some (41, false)⟩,
 ⟨some 44, .iaddr 10 [.str, .int .i64, .int .i64, .int .i64, .str, .slice 4, .int .i64, .int .i64, .str, .slice 4] (.t 42) (.t 43), some (41, false)⟩,
 ⟨some 45, .faddr 2 (.t 44), some (41, false)⟩,
 ⟨some 46, .load true 4 [.int .i64, .int .i64, .str, .slice 4] (.t 45), some (41, false)⟩,
 ⟨some 47, .mov (.t 1), some (41, false)⟩,
 ⟨some 48, .mov (.t 5), some (41, false)⟩,
 ⟨some 49, .iaddr 10 [.str, .int .i64, .int .i64, .int .i64, .str, .slice 4, .int .i64, .int .i64, .str, .slice 4] (.t 47) (.t 48), some (41, false)⟩,
 ⟨some 50, .faddr 2 (.t 49), some (41, false)⟩,
 ⟨some 51, .load true 4 [.int .i64, .int .i64, .str, .slice 4] (.t 50), some (41, false)⟩,
 ⟨some 52, .call 39 [.t 46, .t 51], some (41, false)⟩,
 ⟨some 53, .un .not (.t 52), some (41, false)⟩,
 zi 54 (.pick (.t 41) (.c (.bool true)) (.t 53)),
 zj 55 54,
 ⟨some 56, .mov (.t 0), some (55, false)⟩,
 ⟨some 57, .mov (.t 5), some (55, false)⟩,
 ⟨some 58, .iaddr 10 [.str, .int .i64, .int .i64, .int .i64, .str, .slice 4, .int .i64, .int .i64, .str, .slice 4] (.t 56) (.t 57), some (55, false)⟩,
 ⟨some 59, .faddr 6 (.t 58), some (55, false)⟩,
 ⟨some 60, .load true 4 [.int .i64, .int .i64, .str, .slice 4] (.t 59), some (55, false)⟩,
 ⟨some 61, .mov (.t 1), some (55, false)⟩,
 ⟨some 62, .mov (.t 5), some (55, false)⟩,
 ⟨some 63, .iaddr 10 [.str, .int .i64, .int .i64, .int .i64, .str, .slice 4, .int .i64, .int .i64, .str, .slice 4] (.t 61) (.t 62), some (55, false)⟩,
 ⟨some 64, .faddr 6 (.t 63), some (55, false)⟩,
 ⟨some 65, .load true 4 [.int .i64, .int .i64, .str, .slice 4] (.t 64), some (55, false)⟩,
 ⟨some 66, .call 39 [.t 60, .t 65], some (55, false)⟩,
 ⟨some 67, .un .not (.t 66), some (55, false)⟩,
 zi 68 (.pick (.t 55) (.c (.bool true)) (.t 67))] (some [[], [], [0, 1], [2, 0, 1], [3, 2, 0, 1], [], [], [5, 6], [7, 5, 6], [8, 7, 5, 6], [4, 3, 2, 0, 1, 9, 8, 7, 5, 6], [10, 4, 3, 2, 0, 1, 9, 8, 7, 5, 6], [11, 10, 4, 3, 2, 0, 1, 9, 8, 7, 5, 6], [11, 10, 4, 3, 2, 0, 1, 9, 8, 7, 5, 6], [12, 13, 11, 10, 4, 3, 2, 0, 1, 9, 8, 7, 5, 6], [14, 12, 13, 11, 10, 4, 3, 2, 0, 1, 9, 8, 7, 5, 6], [15, 14, 12, 13, 11, 10, 4, 3, 2, 0, 1, 9, 8, 7, 5, 6], [11, 10, 4, 3, 2, 0, 1, 9, 8, 7, 5, 6], [11, 10, 4, 3, 2, 0, 1, 9, 8, 7, 5, 6], [17, 18, 11, 10, 4, 3, 2, 0, 1, 9, 8, 7, 5, 6], [19, 17, 18, 11, 10, 4, 3, 2, 0, 1, 9, 8, 7, 5, 6], [20, 19, 17, 18, 11, 10, 4, 3, 2, 0, 1, 9, 8, 7, 5, 6], [16, 15, 14, 12, 13, 21, 20, 19, 17, 18, 11, 10, 4, 3, 2, 0, 1, 9, 8, 7, 5, 6], [22, 16, 15, 14, 12, 13, 21, 20, 19, 17, 18, 11, 10, 4, 3, 2, 0, 1, 9, 8, 7, 5, 6], [23, 22, 16, 15, 14, 12, 13, 21, 20, 19, 17, 18, 11, 10, 4, 3, 2, 0, 1, 9, 8, 7, 5, 6], [24, 23, 22, 16, 15, 14, 12, 13, 21, 20, 19, 17, 18, 11, 10, 4, 3, 2, 0, 1, 9, 8, 7, 5, 6], [24, 23, 22, 16, 15, 14, 12, 13, 21, 20, 19, 17, 18, 11, 10, 4, 3, 2, 0, 1, 9, 8, 7, 5, 6], [25, 26, 24, 23, 22, 16, 15, 14, 12, 13, 21, 20, 19, 17, 18, 11, 10, 4, 3, 2, 0, 1, 9, 8, 7, 5, 6], [27, 25, 26, 24, 23, 22, 16, 15, 14, 12, 13, 21, 20, 19, 17, 18, 11, 10, 4, 3, 2, 0, 1, 9, 8, 7, 5, 6], [28, 27, 25, 26, 24, 23, 22, 16, 15, 14, 12, 13, 21, 20, 19, 17, 18, 11, 10, 4, 3, 2, 0, 1, 9, 8, 7, 5, 6], [24, 23, 22, 16, 15, 14, 12, 13, 21, 20, 19, 17, 18, 11, 10, 4, 3, 2, 0, 1, 9, 8, 7, 5, 6], [24, 23, 22, 16, 15, 14, 12, 13, 21, 20, 19, 17, 18, 11, 10, 4, 3, 2, 0, 1, 9, 8, 7, 5, 6], [30, 31, 24, 23, 22, 16, 15, 14, 12, 13, 21, 20, 19, 17, 18, 11, 10, 4, 3, 2, 0, 1, 9, 8, 7, 5, 6], [32, 30, 31, 24, 23, 22, 16, 15, 14, 12, 13, 21, 20, 19, 17, 18, 11, 10, 4, 3, 2, 0, 1, 9, 8, 7, 5, 6], [33, 32, 30, 31, 24, 23, 22, 16, 15, 14, 12, 13, 21, 20, 19, 17, 18, 11, 10, 4, 3, 2, 0, 1, 9, 8, 7, 5, 6], [29, 28, 27, 25, 26, 34, 33, 32, 30, 31, 24, 23, 22, 16, 15, 14, 12, 13, 21, 20, 19, 17, 18, 11, 10, 4, 3, 2, 0, 1, 9, 8, 7, 5, 6], [35, 29, 28, 27, 25, 26, 34, 33, 32, 30, 31, 24, 23, 22, 16, 15, 14, 12, 13, 21, 20, 19, 17, 18, 11, 10, 4, 3, 2, 0, 1, 9, 8, 7, 5, 6], [36, 35, 29, 28, 27, 25, 26, 34, 33, 32, 30, 31, 24, 23, 22, 16, 15, 14, 12, 13, 21, 20, 19, 17, 18, 11, 10, 4, 3, 2, 0, 1, 9, 8, 7, 5, 6], [37, 36, 35, 29, 28, 27, 25, 26, 34, 33, 32, 30, 31, 24, 23, 22, 16, 15, 14, 12, 13, 21, 20, 19, 17, 18, 11, 10, 4, 3, 2, 0, 1, 9, 8, 7, 5, 6], [38, 37, 36, 35, 29, 28, 27, 25, 26, 34, 33, 32, 30, 31, 24, 23, 22, 16, 15, 14, 12, 13, 21, 20, 19, 17, 18, 11, 10, 4, 3, 2, 0, 1, 9, 8, 7, 5, 6], [38, 37, 36, 35, 29, 28, 27, 25, 26, 34, 33, 32, 30, 31, 24, 23, 22, 16, 15, 14, 12, 13, 21, 20, 19, 17, 18, 11, 10, 4, 3, 2, 0, 1, 9, 8, 7, 5, 6], [39, 40, 38, 37, 36, 35, 29, 28, 27, 25, 26, 34, 33, 32, 30, 31, 24, 23, 22, 16, 15, 14, 12, 13, 21, 20, 19, 17, 18, 11, 10, 4, 3, 2, 0, 1, 9, 8, 7, 5, 6], [41, 39, 40, 38, 37, 36, 35, 29, 28, 27, 25, 26, 34, 33, 32, 30, 31, 24, 23, 22, 16, 15, 14, 12, 13, 21, 20, 19, 17, 18, 11, 10, 4, 3, 2, 0, 1, 9, 8, 7, 5, 6], [42, 41, 39, 40, 38, 37, 36, 35, 29, 28, 27, 25, 26, 34, 33, 32, 30, 31, 24, 23, 22, 16, 15, 14, 12, 13, 21, 20, 19, 17, 18, 11, 10, 4, 3, 2, 0, 1, 9, 8, 7, 5, 6], [38, 37, 36, 35, 29, 28, 27, 25, 26, 34, 33, 32, 30, 31, 24, 23, 22, 16, 15, 14, 12, 13, 21, 20, 19, 17, 18, 11, 10, 4, 3, 2, 0, 1, 9, 8, 7, 5, 6], [38, 37, 36, 35, 29, 28, 27, 25, 26, 34, 33, 32, 30, 31, 24, 23, 22, 16, 15, 14, 12, 13, 21, 20, 19, 17, 18, 11, 10, 4, 3, 2, 0, 1, 9, 8, 7, 5, 6], [44, 45, 38, 37, 36, 35, 29, 28, 27, 25, 26, 34, 33, 32, 30, 31, 24, 23, 22, 16, 15, 14, 12, 13, 21, 20, 19, 17, 18, 11, 10, 4, 3, 2, 0, 1, 9, 8, 7, 5, 6], [46, 44, 45, 38, 37, 36, 35, 29, 28, 27, 25, 26, 34, 33, 32, 30, 31, 24, 23, 22, 16, 15, 14, 12, 13, 21, 20, 19, 17, 18, 11, 10, 4, 3, 2, 0, 1, 9, 8, 7, 5, 6], [47, 46, 44, 45, 38, 37, 36, 35, 29, 28, 27, 25, 26, 34, 33, 32, 30, 31, 24, 23, 22, 16, 15, 14, 12, 13, 21, 20, 19, 17, 18, 11, 10, 4, 3, 2, 0, 1, 9, 8, 7, 5, 6], [43, 42, 41, 39, 40, 48, 47, 46, 44, 45, 38, 37, 36, 35, 29, 28, 27, 25, 26, 34, 33, 32, 30, 31, 24, 23, 22, 16, 15, 14, 12, 13, 21, 20, 19, 17, 18, 11, 10, 4, 3, 2, 0, 1, 9, 8, 7, 5, 6], [49, 43, 42, 41, 39, 40, 48, 47, 46, 44, 45, 38, 37, 36, 35, 29, 28, 27, 25, 26, 34, 33, 32, 30, 31, 24, 23, 22, 16, 15, 14, 12, 13, 21, 20, 19, 17, 18, 11, 10, 4, 3, 2, 0, 1, 9, 8, 7, 5, 6], [50, 49, 43, 42, 41, 39, 40, 48, 47, 46, 44, 45, 38, 37, 36, 35, 29, 28, 27, 25, 26, 34, 33, 32, 30, 31, 24, 23, 22, 16, 15, 14, 12, 13, 21, 20, 19, 17, 18, 11, 10, 4, 3, 2, 0, 1, 9, 8, 7, 5, 6]])) (
 .cond (.t 68) (
 .seq (
 .region [zi 4 (.mov (.c (.bool false)))] none) (
 .ret)) (
 .skip)))) (
 .region [zj 15 5,
 zi 16 (.bin .add (.t 15) (.c (.int .i64 1))),
 zj 5 16] none)))))) (
 .seq (
 .region [zi 4 (.mov (.c (.bool true)))] none) (
 .ret))))⟩
def K17 : List (List Nat) := [[1001700, 0, 1, 5, 2000000, 4]]
def Hn17 : List (Nat × Nat) := []
def F39 : Fun := ⟨2, 53, [(4, none)],
 .seq (
 .region [zi 2 (.box 4 (.t 0)),
 zi 3 (.box 4 (.t 1)),
 zi 4 (.mov (.c (.bool false)))] none) (
 .seq (
 .seq (
 .region [zi 6 (.faddr 0 (.t 2)),
 zi 7 (.load false 1 [.int .i64] (.t 6)),
 zi 8 (.faddr 0 (.t 3)),
 zi 9 (.load false 1 [.int .i64] (.t 8)),
 zi 10 (.bin .neq (.t 7) (.t 9)),
 zj 11 10,
 ⟨some 12, .faddr 1 (.t 2), some (11, false)⟩,
 ⟨some 13, .load false 1 [.int .i64] (.t 12), some (11, false)⟩,
 ⟨some 14, .faddr 1 (.t 3), some (11, false)⟩,
 ⟨some 15, .load false 1 [.int .i64] (.t 14), some (11, false)⟩,
 ⟨some 16, .bin .neq (.t 13) (.t 15), some (11, false)⟩,
 zi 17 (.pick (.t 11) (.c (.bool true)) (.t 16)),
 zj 18 17,
 ⟨some 19, .faddr 2 (.t 2), some (18, false)⟩,
 ⟨some 20, .load false 1 [.str] (.t 19), some (18, false)⟩,
 ⟨some 21, .faddr 2 (.t 3), some (18, false)⟩,
 ⟨some 22, .load false 1 [.str] (.t 21), some (18, false)⟩,
 ⟨some 23, .bin .neq (.t 20) (.t 22), some (18, false)⟩,
 zi 24 (.pick (.t 18) (.c (.bool true)) (.t 23)),
 zj 25 24,
 ⟨some 26, .faddr 3 (.t 2), some (25, false)⟩,
 ⟨some 27, .load false 1 [.slice 4] (.t 26), some (25, false)⟩,
 ⟨some 28, .len .l (.t 27), some (25, false)⟩,
 ⟨some 29, .faddr 3 (.t 3), some (25, false)⟩,
 ⟨some 30, .load false 1 [.slice 4] (.t 29), some (25, false)⟩,
 ⟨some 31, .len .l (.t 30), some (25, false)⟩,
 ⟨some 32, .bin .neq (.t 28) (.t 31), some (25, false)⟩,
 zi 33 (.pick (.t 25) (.c (.bool true)) (.t 32))] none) (
 .cond (.t 33) (
 .seq (
 .region [zi 4 (.mov (.c (.bool false)))] none) (
 .ret)) (
 .skip))) (
 .seq (
 .seq (
 .region [zi 5 (.mov (.c (.int .i64 0)))] none) (
 .block 0 (
 .loop [1003900, 2, 3, 5, 2000000, 4] (
 .seq (
 .seq (
 .region [zj 34 5,
 zi 35 (.faddr 3 (.t 2)),
 zi 36 (.load false 1 [.slice 4] (.t 35)),
 zi 37 (.len .l (.t 36)),
 zi 38 (.bin .lss (.t 34) (.t 37))] none) (
 .cond (.t 38) (
 .skip) (
 .exit 0))) (
 .seq (
 .block 1 (
 .seq (
 .region [zi 41 (.faddr 3 (.t 2)),
 zi 42 (.load false 1 [.slice 4] (.t 41)),
 zj 43 5,
 zi 44 (.iaddr 4 [.int .i64, .int .i64, .str, .slice 4] (.t 42) (.t 43)),
 zi 45 (.load true 4 [.int .i64, .int .i64, .str, .slice 4] (.t 44)),
 zi 46 (.faddr 3 (.t 3)),
 zi 47 (.load false 1 [.slice 4] (.t 46)),
 zj 48 5,
 zi 49 (.iaddr 4 [.int .i64, .int .i64, .str, .slice 4] (.t 47) (.t 48)),
 zi 50 (.load true 4 [.int .i64, .int .i64, .str, .slice 4] (.t 49)),
 zi 51 (.call 39 [.t 45, .t 50]),
 zi 52 (.un .not (.t 51))] (some [[], [0], [], [1, 0, 2], [3, 1, 0, 2], [], [5], [], [6, 5, 7], [8, 6, 5, 7], [4, 3, 1, 0, 2, 9, 8, 6, 5, 7], [10, 4, 3, 1, 0, 2, 9, 8, 6, 5, 7]])) (
 .cond (.t 52) (
 .seq (
 .region [zi 4 (.mov (.c (.bool false)))] none) (
 .ret)) (
 .skip)))) (
 .region [zj 39 5,
 zi 40 (.bin .add (.t 39) (.c (.int .i64 1))),
 zj 5 40] none)))))) (
 .seq (
 .region [zi 4 (.mov (.c (.bool true)))] none) (
 .ret))))⟩
def K39 : List (List Nat) := [[1003900, 2, 3, 5, 2000000, 4]]
def Hn39 : List (Nat × Nat) := []
def F27 : Fun := ⟨3, 84, [(6, none)],
 .seq (
 .region [zi 3 (.box 19 (.t 0)),
 zi 6 (.mov (.c (.int .i64 0)))] none) (
 .seq (
 .region [zj 13 1,
 zi 14 (.faddr 1 (.t 3)),
 zi 15 (.load false 1 [.str] (.t 14)),
 zi 16 (.call 50 [.t 13, .t 15]),
 zj 12 16,
 zi 17 (.ext (.t 12) 0),
 zi 18 (.ext (.t 12) 1),
 zi 7 (.alloc (.agg [.str [], .int .i64 0])),
 ⟨none, .store 2 (.t 7) (.t 17), none⟩,
 zj 8 18] none) (
 .seq (
 .region [zj 20 2,
 zi 21 (.faddr 2 (.t 3)),
 zi 22 (.load false 1 [.str] (.t 21)),
 zi 23 (.call 51 [.t 20, .t 22]),
 zj 19 23,
 zi 24 (.ext (.t 19) 0),
 zi 25 (.ext (.t 19) 1),
 zi 9 (.alloc (.agg [.str [], .nils 1, .nils 1])),
 ⟨none, .store 3 (.t 9) (.t 24), none⟩,
 zj 10 25] none) (
 .seq (
 .region [zi 26 (.faddr 4 (.t 3)),
 zi 27 (.load false 1 [.int .i64] (.t 26)),
 zi 28 (.bin .eql (.t 27) (.c (.int .i64 1))),
 zj 29 28,
 ⟨some 30, .faddr 4 (.t 3), some (29, false)⟩,
 ⟨some 31, .load false 1 [.int .i64] (.t 30), some (29, false)⟩,
 ⟨some 32, .bin .eql (.t 31) (.c (.int .i64 3)), some (29, false)⟩,
 zi 33 (.pick (.t 29) (.c (.bool true)) (.t 32)),
 zj 34 33,
 ⟨some 35, .faddr 4 (.t 3), some (34, false)⟩,
 ⟨some 36, .load false 1 [.int .i64] (.t 35), some (34, false)⟩,
 ⟨some 37, .bin .eql (.t 36) (.c (.int .i64 6)), some (34, false)⟩,
 zi 38 (.pick (.t 34) (.c (.bool true)) (.t 37)),
 zj 39 38,
 ⟨some 40, .faddr 4 (.t 3), some (39, false)⟩,
 ⟨some 41, .load false 1 [.int .i64] (.t 40), some (39, false)⟩,
 ⟨some 42, .bin .eql (.t 41) (.c (.int .i64 12)), some (39, false)⟩,
 zi 43 (.pick (.t 39) (.c (.bool true)) (.t 42)),
 zj 11 43] none) (
 .seq (
 .block 0 (
 .seq (
 .region [zi 45 (.faddr 0 (.t 3)),
 zi 46 (.load false 1 [.str] (.t 45)),
 zi 47 (.call 52 [.t 46]),
 zi 48 (.un .not (.t 47)),
 zj 44 48] none) (
 .cond (.t 44) (
 .seq (
 .region [zi 6 (.mov (.c (.int .i64 4)))] none) (
 .ret)) (
 .seq (
 .region [zj 50 8,
 zi 51 (.un .not (.t 50)),
 zj 49 51] none) (
 .cond (.t 49) (
 .seq (
 .region [zi 6 (.mov (.c (.int .i64 14)))] none) (
 .ret)) (
 .seq (
 .region [zj 53 10,
 zi 54 (.un .not (.t 53)),
 zj 52 54] none) (
 .cond (.t 52) (
 .seq (
 .region [zi 6 (.mov (.c (.int .i64 11)))] none) (
 .ret)) (
 .seq (
 .region [zi 56 (.faddr 3 (.t 3)),
 zi 57 (.load false 1 [.int .i64] (.t 56)),
 zi 58 (.call 53 [.t 57]),
 zi 59 (.un .not (.t 58)),
 zj 60 59,
 ⟨some 61, .mov (.t 11), some (60, false)⟩,
 ⟨some 62, .un .not (.t 61), some (60, false)⟩,
 zi 63 (.pick (.t 60) (.c (.bool true)) (.t 62)),
 zj 64 63,
 ⟨some 65, .faddr 5 (.t 3), some (64, false)⟩,
 ⟨some 66, .load false 1 [.int .i64] (.t 65), some (64, false)⟩,
 ⟨some 67, .bin .lss (.t 66) (.c (.int .i64 0)), some (64, false)⟩,
 zi 68 (.pick (.t 64) (.c (.bool true)) (.t 67)),
 zj 69 68,
 ⟨some 70, .faddr 5 (.t 3), some (69, false)⟩,
 ⟨some 71, .load false 1 [.int .i64] (.t 70), some (69, false)⟩,
 ⟨some 72, .bin .gtr (.t 71) (.c (.int .i64 1000000000000)), some (69, false)⟩,
 zi 73 (.pick (.t 69) (.c (.bool true)) (.t 72)),
 zj 74 73,
 ⟨some 75, .faddr 6 (.t 3), some (74, false)⟩,
 ⟨some 76, .load false 1 [.int .i64] (.t 75), some (74, false)⟩,
 ⟨some 77, .bin .lss (.t 76) (.c (.int .i64 0)), some (74, false)⟩,
 zi 78 (.pick (.t 74) (.c (.bool true)) (.t 77)),
 zj 79 78,
 ⟨some 80, .faddr 6 (.t 3), some (79, false)⟩,
 ⟨some 81, .load false 1 [.int .i64] (.t 80), some (79, false)⟩,
 ⟨some 82, .bin .gtr (.t 81) (.c (.int .i64 1000000)), some (79, false)⟩,
 zi 83 (.pick (.t 79) (.c (.bool true)) (.t 82)),
 zj 55 83] none) (
 .cond (.t 55) (
 .seq (
 .region [zi 6 (.mov (.c (.int .i64 1)))] none) (
 .ret)) (
 .skip)))))))))) (
 .seq (
 .region [zi 6 (.mov (.c (.int .i64 0)))] none) (
 .ret))))))⟩
def K27 : List (List Nat) := []
def Hn27 : List (Nat × Nat) := []
def F28 : Fun := ⟨1, 28, [(2, none)],
 .seq (
 .region [zi 1 (.box 5 (.t 0)),
 zi 2 (.mov (.c (.int .i64 0)))] none) (
 .seq (
 .seq (
 .region [zi 4 (.faddr 0 (.t 1)),
 zi 5 (.load false 1 [.slice 2] (.t 4)),
 zi 6 (.call 54 [.t 5]),
 zj 3 6] none) (
 .seq (
 .region [zj 7 3,
 zi 8 (.bin .neq (.t 7) (.c (.int .i64 0)))] none) (
 .cond (.t 8) (
 .seq (
 .region [zj 9 3,
 zj 2 9] none) (
 .ret)) (
 .skip)))) (
 .seq (
 .seq (
 .region [zi 10 (.faddr 2 (.t 1)),
 zi 11 (.load false 1 [.int .i64] (.t 10)),
 zi 12 (.bin .lss (.t 11) (.c (.int .i64 1))),
 zj 13 12,
 ⟨some 14, .faddr 2 (.t 1), some (13, false)⟩,
 ⟨some 15, .load false 1 [.int .i64] (.t 14), some (13, false)⟩,
 ⟨some 16, .bin .gtr (.t 15) (.c (.int .i64 4)), some (13, false)⟩,
 zi 17 (.pick (.t 13) (.c (.bool true)) (.t 16)),
 zj 18 17,
 ⟨some 19, .faddr 3 (.t 1), some (18, false)⟩,
 ⟨some 20, .load false 1 [.int .i64] (.t 19), some (18, false)⟩,
 ⟨some 21, .bin .lss (.t 20) (.c (.int .i64 1)), some (18, false)⟩,
 zi 22 (.pick (.t 18) (.c (.bool true)) (.t 21)),
 zj 23 22,
 ⟨some 24, .faddr 3 (.t 1), some (23, false)⟩,
 ⟨some 25, .load false 1 [.int .i64] (.t 24), some (23, false)⟩,
 ⟨some 26, .bin .gtr (.t 25) (.c (.int .i64 6)), some (23, false)⟩,
 zi 27 (.pick (.t 23) (.c (.bool true)) (.t 26))] none) (
 .cond (.t 27) (
 .seq (
 .region [zi 2 (.mov (.c (.int .i64 1)))] none) (
 .ret)) (
 .skip))) (
 .seq (
 .region [zi 2 (.mov (.c (.int .i64 0)))] none) (
 .ret))))⟩
def K28 : List (List Nat) := []
def Hn28 : List (Nat × Nat) := []
def F29 : Fun := ⟨1, 29, [(2, none)],
 .seq (
 .region [zi 1 (.box 10 (.t 0)),
 zi 2 (.mov (.c (.int .i64 0)))] none) (
 .seq (
 .block 0 (
 .seq (
 .region [zi 5 (.faddr 0 (.t 1)),
 zi 6 (.load false 1 [.str] (.t 5)),
 zi 7 (.call 52 [.t 6]),
 zi 8 (.un .not (.t 7)),
 zj 4 8] none) (
 .cond (.t 4) (
 .seq (
 .region [zi 2 (.mov (.c (.int .i64 4)))] none) (
 .ret)) (
 .seq (
 .region [zi 10 (.faddr 1 (.t 1)),
 zi 11 (.load false 1 [.int .i64] (.t 10)),
 zi 12 (.bin .lss (.t 11) (.c (.int .i64 1))),
 zj 13 12,
 ⟨some 14, .faddr 1 (.t 1), some (13, false)⟩,
 ⟨some 15, .load false 1 [.int .i64] (.t 14), some (13, false)⟩,
 ⟨some 16, .bin .gtr (.t 15) (.c (.int .i64 4)), some (13, false)⟩,
 zi 17 (.pick (.t 13) (.c (.bool true)) (.t 16)),
 zj 9 17] none) (
 .cond (.t 9) (
 .seq (
 .region [zi 2 (.mov (.c (.int .i64 1)))] none) (
 .ret)) (
 .skip)))))) (
 .seq (
 .seq (
 .region [zi 18 (.faddr 2 (.t 1)),
 zi 19 (.load true 4 [.int .i64, .int .i64, .str, .slice 4] (.t 18)),
 zi 20 (.call 8 []),
 zi 21 (.call 55 [.t 19, .t 20, .c (.int .i64 5)]),
 zj 3 21] (some [[], [0], [], [1, 0, 2], [3, 1, 0, 2]])) (
 .seq (
 .region [zj 22 3,
 zi 23 (.bin .neq (.t 22) (.c (.int .i64 0)))] none) (
 .cond (.t 23) (
 .seq (
 .region [zj 24 3,
 zj 2 24] none) (
 .ret)) (
 .skip)))) (
 .seq (
 .region [zi 25 (.faddr 6 (.t 1)),
 zi 26 (.load true 4 [.int .i64, .int .i64, .str, .slice 4] (.t 25)),
 zi 27 (.call 8 []),
 zi 28 (.call 55 [.t 26, .t 27, .c (.int .i64 2)]),
 zj 2 28] (some [[], [0], [], [1, 0, 2], [3, 1, 0, 2]])) (
 .ret))))⟩
def K29 : List (List Nat) := []
def Hn29 : List (Nat × Nat) := []
def F30 : Fun := ⟨1, 21, [(2, none)],
 .seq (
 .region [zi 1 (.box 6 (.t 0)),
 zi 2 (.mov (.c (.int .i64 0)))] none) (
 .seq (
 .block 0 (
 .seq (
 .region [zi 4 (.faddr 0 (.t 1)),
 zi 5 (.load false 1 [.str] (.t 4)),
 zi 6 (.call 52 [.t 5]),
 zi 7 (.un .not (.t 6)),
 zj 3 7] none) (
 .cond (.t 3) (
 .seq (
 .region [zi 2 (.mov (.c (.int .i64 4)))] none) (
 .ret)) (
 .seq (
 .region [zi 9 (.faddr 1 (.t 1)),
 zi 10 (.load false 1 [.int .i64] (.t 9)),
 zi 11 (.bin .lss (.t 10) (.c (.int .i64 1))),
 zj 12 11,
 ⟨some 13, .faddr 1 (.t 1), some (12, false)⟩,
 ⟨some 14, .load false 1 [.int .i64] (.t 13), some (12, false)⟩,
 ⟨some 15, .bin .gtr (.t 14) (.c (.int .i64 3)), some (12, false)⟩,
 zi 16 (.pick (.t 12) (.c (.bool true)) (.t 15)),
 zj 8 16] none) (
 .cond (.t 8) (
 .seq (
 .region [zi 2 (.mov (.c (.int .i64 1)))] none) (
 .ret)) (
 .skip)))))) (
 .seq (
 .region [zi 17 (.faddr 2 (.t 1)),
 zi 18 (.load true 4 [.int .i64, .int .i64, .str, .slice 4] (.t 17)),
 zi 19 (.call 8 []),
 zi 20 (.call 55 [.t 18, .t 19, .c (.int .i64 2)]),
 zj 2 20] (some [[], [0], [], [1, 0, 2], [3, 1, 0, 2]])) (
 .ret)))⟩
def K30 : List (List Nat) := []
def Hn30 : List (Nat × Nat) := []
def F40 : Fun := ⟨1, 26, [(2, some (true, 4))],
 .seq (
 .region [zi 1 (.box 4 (.t 0)),
 zi 2 (.alloc (.agg [.int .i64 0, .int .i64 0, .str [], .nils 4]))] none) (
 .seq (
 .region [zi 4 (.faddr 3 (.t 1)),
 zi 5 (.load false 1 [.slice 4] (.t 4)),
 zi 6 (.call 58 [.t 5]),
 zi 7 (.faddr 3 (.t 1)),
 ⟨none, .store 1 (.t 7) (.t 6), none⟩] none) (
 .seq (
 .seq (
 .region [zi 8 (.faddr 3 (.t 1)),
 zi 9 (.load false 1 [.slice 4] (.t 8)),
 zi 10 (.len .l (.t 9)),
 zi 11 (.mov (.c (.int .i64 0)))] none) (
 .block 0 (
 .loop [1004000, 1, 2, 10, 11, 2000000, 1, 2] (
 .seq (
 .region [zi 12 (.bin .lss (.t 11) (.t 10))] none) (
 .seq (
 .cond (.t 12) (
 .skip) (
 .exit 0)) (
 .seq (
 .block 1 (
 .seq (
 .region [zj 13 11,
 zj 3 13] none) (
 .region [zi 14 (.faddr 3 (.t 1)),
 zi 15 (.load false 1 [.slice 4] (.t 14)),
 zj 16 3,
 zi 17 (.faddr 3 (.t 1)),
 zi 18 (.load false 1 [.slice 4] (.t 17)),
 zj 19 3,
 zi 20 (.iaddr 4 [.int .i64, .int .i64, .str, .slice 4] (.t 18) (.t 19)),
 zi 21 (.load true 4 [.int .i64, .int .i64, .str, .slice 4] (.t 20)),
 zi 22 (.call 40 [.t 21]),
 zi 23 (.iaddr 4 [.int .i64, .int .i64, .str, .slice 4] (.t 15) (.t 16)),
 ⟨none, .store 4 (.t 23) (.t 22), none⟩] (some [[], [0], [], [], [3], [], [4, 3, 5], [6, 4, 3, 5], [7, 6, 4, 3, 5], [1, 0, 2, 8, 7, 6, 4, 3, 5], [9, 1, 0, 2, 8, 7, 6, 4, 3, 5]])))) (
 .region [zi 24 (.bin .add (.t 11) (.c (.int .i64 1))),
 zj 11 24] none))))))) (
 .seq (
 .region [zi 25 (.load true 4 [.int .i64, .int .i64, .str, .slice 4] (.t 1)),
 ⟨none, .store 4 (.t 2) (.t 25), none⟩] none) (
 .ret))))⟩
def K40 : List (List Nat) := [[1004000, 1, 2, 10, 11, 2000000, 1, 2]]
def Hn40 : List (Nat × Nat) := []
def F38 : Fun := ⟨1, 8, [(2, none)],
 .seq (
 .region [zi 2 (.mov (.c (.nils 2)))] none) (
 .seq (
 .seq (
 .region [zj 3 0,
 zi 4 (.eqn .s false (.t 3) (.c (.nils 0)))] none) (
 .cond (.t 4) (
 .seq (
 .region [zi 2 (.mov (.c (.nils 2)))] none) (
 .ret)) (
 .skip))) (
 .seq (
 .region [zi 5 (.bslice 2 (.agg [.int .i64 0, .int .i64 0]) 0 []),
 zj 6 0,
 zi 7 (.app 2 16 (.t 5) (.t 6)),
 zj 2 7] none) (
 .ret)))⟩
def K38 : List (List Nat) := []
def Hn38 : List (Nat × Nat) := [(2, 2)]
def F44 : Fun := ⟨2, 31, [(4, none)],
 .seq (
 .region [zi 2 (.box 4 (.t 0)),
 zi 3 (.box 4 (.t 1)),
 zi 4 (.mov (.c (.bool false)))] none) (
 .seq (
 .region [zi 5 (.faddr 0 (.t 2)),
 zi 6 (.load false 1 [.int .i64] (.t 5)),
 zi 7 (.faddr 0 (.t 3)),
 zi 8 (.load false 1 [.int .i64] (.t 7)),
 zi 9 (.bin .eql (.t 6) (.t 8)),
 zj 10 9,
 ⟨some 11, .faddr 1 (.t 2), some (10, true)⟩,
 ⟨some 12, .load false 1 [.int .i64] (.t 11), some (10, true)⟩,
 ⟨some 13, .faddr 1 (.t 3), some (10, true)⟩,
 ⟨some 14, .load false 1 [.int .i64] (.t 13), some (10, true)⟩,
 ⟨some 15, .bin .eql (.t 12) (.t 14), some (10, true)⟩,
 zi 16 (.pick (.t 10) (.t 15) (.c (.bool false))),
 zj 17 16,
 ⟨some 18, .faddr 2 (.t 2), some (17, true)⟩,
 ⟨some 19, .load false 1 [.str] (.t 18), some (17, true)⟩,
 ⟨some 20, .faddr 2 (.t 3), some (17, true)⟩,
 ⟨some 21, .load false 1 [.str] (.t 20), some (17, true)⟩,
 ⟨some 22, .bin .eql (.t 19) (.t 21), some (17, true)⟩,
 zi 23 (.pick (.t 17) (.t 22) (.c (.bool false))),
 zj 24 23,
 ⟨some 25, .faddr 3 (.t 2), some (24, true)⟩,
 ⟨some 26, .load false 1 [.slice 4] (.t 25), some (24, true)⟩,
 ⟨some 27, .faddr 3 (.t 3), some (24, true)⟩,
 ⟨some 28, .load false 1 [.slice 4] (.t 27), some (24, true)⟩,
 ⟨some 29, .call 59 [.t 26, .t 28, .f 44], some (24, true)⟩,
 zi 30 (.pick (.t 24) (.t 29) (.c (.bool false))),
 zj 4 30] none) (
 .ret))⟩
def K44 : List (List Nat) := []
def Hn44 : List (Nat × Nat) := []
def F50 : Fun := ⟨2, 21, [(4, some (true, 2)), (5, none)],
 .seq (
 .region [zi 4 (.alloc (.agg [.str [], .int .i64 0])),
 zi 5 (.mov (.c (.bool false)))] none) (
 .seq (
 .seq (
 .region [zj 8 0,
 zi 9 (.len .l (.t 8)),
 zi 10 (.mov (.c (.int .i64 0)))] none) (
 .block 0 (
 .loop [1005000, 1, 4, 8, 9, 10, 2000000, 4, 5] (
 .seq (
 .region [zi 11 (.bin .lss (.t 10) (.t 9))] none) (
 .seq (
 .cond (.t 11) (
 .skip) (
 .exit 0)) (
 .seq (
 .block 1 (
 .seq (
 .region [zi 12 (.iaddr 2 [.str, .int .i64] (.t 8) (.t 10)),
 zi 13 (.load true 2 [.str, .int .i64] (.t 12)),
 zi 7 (.alloc (.agg [.str [], .int .i64 0])),
 ⟨none, .store 2 (.t 7) (.t 13), none⟩] none) (
 .seq (
 .region [zi 14 (.faddr 0 (.t 7)),
 zi 15 (.load false 1 [.str] (.t 14)),
 zj 16 1,
 zi 17 (.bin .eql (.t 15) (.t 16))] none) (
 .cond (.t 17) (
 .seq (
 .region [zi 18 (.load true 2 [.str, .int .i64] (.t 7)),
 ⟨none, .store 2 (.t 4) (.t 18), none⟩,
 zi 5 (.mov (.c (.bool true)))] none) (
 .ret)) (
 .skip))))) (
 .region [zi 19 (.bin .add (.t 10) (.c (.int .i64 1))),
 zj 10 19] none))))))) (
 .seq (
 .region [zi 20 (.build [.str [], .int .i64 0] []),
 ⟨none, .store 2 (.t 4) (.t 20), none⟩,
 zi 5 (.mov (.c (.bool false)))] none) (
 .ret)))⟩
def K50 : List (List Nat) := [[1005000, 1, 4, 8, 9, 10, 2000000, 4, 5]]
def Hn50 : List (Nat × Nat) := []
def F51 : Fun := ⟨2, 27, [(4, some (true, 3)), (5, none)],
 .seq (
 .region [zi 3 (.box 1 (.t 1)),
 zi 4 (.alloc (.agg [.str [], .nils 1, .nils 1])),
 zi 5 (.mov (.c (.bool false)))] none) (
 .seq (
 .region [zj 8 0,
 zi 9 (.mkf 69 [.t 3]),
 zi 10 (.call 68 [.t 8, .t 9]),
 zj 6 10] none) (
 .seq (
 .seq (
 .region [zj 11 6,
 zi 12 (.bin .lss (.t 11) (.c (.int .i64 0)))] none) (
 .cond (.t 12) (
 .seq (
 .region [zi 13 (.build [.str [], .nils 1, .nils 1] []),
 ⟨none, .store 3 (.t 4) (.t 13), none⟩,
 zi 5 (.mov (.c (.bool false)))] none) (
 .ret)) (
 .skip))) (
 .seq (
 .region [zj 14 0,
 zj 15 6,
 zi 16 (.iaddr 3 [.str, .slice 1, .slice 1] (.t 14) (.t 15)),
 zi 17 (.load true 3 [.str, .slice 1, .slice 1] (.t 16)),
 zi 7 (.alloc (.agg [.str [], .nils 1, .nils 1])),
 ⟨none, .store 3 (.t 7) (.t 17), none⟩] none) (
 .seq (
 .region [zi 18 (.faddr 1 (.t 7)),
 zi 19 (.load false 1 [.slice 1] (.t 18)),
 zi 20 (.call 70 [.t 19]),
 zi 21 (.faddr 2 (.t 7)),
 zi 22 (.load false 1 [.slice 1] (.t 21)),
 zi 23 (.call 70 [.t 22]),
 zi 24 (.faddr 1 (.t 7)),
 ⟨none, .store 1 (.t 24) (.t 20), none⟩,
 zi 25 (.faddr 2 (.t 7)),
 ⟨none, .store 1 (.t 25) (.t 23), none⟩] (some [[], [0], [1, 0], [], [3], [4, 3, 2, 1, 0], [2, 1, 0, 4, 3], [6, 5, 2, 1, 0, 4, 3], [7, 6, 5, 2, 1, 0, 4, 3], [8, 7, 6, 5, 2, 1, 0, 4, 3]])) (
 .seq (
 .region [zi 26 (.load true 3 [.str, .slice 1, .slice 1] (.t 7)),
 ⟨none, .store 3 (.t 4) (.t 26), none⟩,
 zi 5 (.mov (.c (.bool true)))] none) (
 .ret))))))⟩
def K51 : List (List Nat) := []
def Hn51 : List (Nat × Nat) := []
def F52 : Fun := ⟨1, 47, [(2, none)],
 .seq (
 .region [zi 2 (.mov (.c (.bool false)))] none) (
 .seq (
 .seq (
 .region [zj 6 0,
 zi 7 (.len .s (.t 6)),
 zi 8 (.mov (.c (.int .i64 0)))] none) (
 .block 0 (
 .loop [1005200, 0, 7, 8, 2000000, 0, 2] (
 .seq (
 .region [zi 9 (.bin .lss (.t 8) (.t 7))] none) (
 .seq (
 .cond (.t 9) (
 .skip) (
 .exit 0)) (
 .seq (
 .block 1 (
 .seq (
 .region [zj 10 8,
 zj 3 10] none) (
 .seq (
 .region [zj 11 0,
 zj 12 3,
 zi 13 (.idxs (.t 11) (.t 12)),
 zj 4 13] none) (
 .seq (
 .region [zj 14 4,
 zi 15 (.bin .geq (.t 14) (.c (.int .u8 97))),
 zj 16 15,
 ⟨some 17, .mov (.t 4), some (16, true)⟩,
 ⟨some 18, .bin .leq (.t 17) (.c (.int .u8 122)), some (16, true)⟩,
 zi 19 (.pick (.t 16) (.t 18) (.c (.bool false))),
 zj 5 19] none) (
 .seq (
 .region [zj 20 5,
 zi 21 (.un .not (.t 20)),
 zj 22 21,
 ⟨some 23, .mov (.t 3), some (22, true)⟩,
 ⟨some 24, .bin .eql (.t 23) (.c (.int .i64 0)), some (22, true)⟩,
 ⟨some 25, .mov (.t 24), some (22, true)⟩,
 ⟨some 26, .mov (.t 4), some (25, false)⟩,
 ⟨some 27, .bin .neq (.t 26) (.c (.int .u8 95)), some (25, false)⟩,
 ⟨some 28, .mov (.t 27), some (25, false)⟩,
 ⟨some 29, .mov (.t 4), some (28, true)⟩,
 ⟨some 30, .bin .lss (.t 29) (.c (.int .u8 48)), some (28, true)⟩,
 ⟨some 31, .mov (.t 30), some (28, true)⟩,
 ⟨some 32, .mov (.t 4), some (31, false)⟩,
 ⟨some 33, .bin .gtr (.t 32) (.c (.int .u8 57)), some (31, false)⟩,
 ⟨some 34, .pick (.t 31) (.c (.bool true)) (.t 33), some (28, true)⟩,
 ⟨some 35, .pick (.t 28) (.t 34) (.c (.bool false)), some (25, false)⟩,
 ⟨some 36, .pick (.t 25) (.c (.bool true)) (.t 35), some (22, true)⟩,
 zi 37 (.pick (.t 22) (.t 36) (.c (.bool false)))] none) (
 .cond (.t 37) (
 .seq (
 .region [zi 2 (.mov (.c (.bool false)))] none) (
 .ret)) (
 .skip))))))) (
 .region [zi 38 (.bin .add (.t 8) (.c (.int .i64 1))),
 zj 8 38] none))))))) (
 .seq (
 .region [zj 39 0,
 zi 40 (.len .s (.t 39)),
 zi 41 (.bin .geq (.t 40) (.c (.int .i64 1))),
 zj 42 41,
 ⟨some 43, .mov (.t 0), some (42, true)⟩,
 ⟨some 44, .len .s (.t 43), some (42, true)⟩,
 ⟨some 45, .bin .leq (.t 44) (.c (.int .i64 16)), some (42, true)⟩,
 zi 46 (.pick (.t 42) (.t 45) (.c (.bool false))),
 zj 2 46] none) (
 .ret)))⟩
def K52 : List (List Nat) := [[1005200, 0, 7, 8, 2000000, 0, 2]]
def Hn52 : List (Nat × Nat) := []
def F53 : Fun := ⟨1, 9, [(2, none)],
 .seq (
 .region [zi 2 (.mov (.c (.bool false)))] none) (
 .seq (
 .region [zj 3 0,
 zi 4 (.bin .geq (.t 3) (.c (.int .i64 0))),
 zj 5 4,
 ⟨some 6, .mov (.t 0), some (5, true)⟩,
 ⟨some 7, .bin .leq (.t 6) (.c (.int .i64 73048)), some (5, true)⟩,
 zi 8 (.pick (.t 5) (.t 7) (.c (.bool false))),
 zj 2 8] none) (
 .ret))⟩
def K53 : List (List Nat) := []
def Hn53 : List (Nat × Nat) := []
def F54 : Fun := ⟨1, 46, [(2, none)],
 .seq (
 .region [zi 2 (.mov (.c (.int .i64 0)))] none) (
 .seq (
 .seq (
 .region [zj 5 0,
 zi 6 (.len .l (.t 5)),
 zi 7 (.bin .gtr (.t 6) (.c (.int .i64 6)))] none) (
 .cond (.t 7) (
 .seq (
 .region [zi 2 (.mov (.c (.int .i64 5)))] none) (
 .ret)) (
 .skip))) (
 .seq (
 .seq (
 .region [zj 8 0,
 zi 9 (.len .l (.t 8)),
 zi 10 (.mov (.c (.int .i64 0)))] none) (
 .block 0 (
 .loop [1005400, 0, 8, 9, 10, 2000000, 0, 2] (
 .seq (
 .region [zi 11 (.bin .lss (.t 10) (.t 9))] none) (
 .seq (
 .cond (.t 11) (
 .skip) (
 .exit 0)) (
 .seq (
 .block 1 (
 .seq (
 .region [zi 12 (.iaddr 2 [.int .i64, .int .i64] (.t 8) (.t 10)),
 zi 13 (.load true 2 [.int .i64, .int .i64] (.t 12)),
 zi 4 (.alloc (.agg [.int .i64 0, .int .i64 0])),
 ⟨none, .store 2 (.t 4) (.t 13), none⟩] none) (
 .seq (
 .region [zi 14 (.faddr 0 (.t 4)),
 zi 15 (.load false 1 [.int .i64] (.t 14)),
 zi 16 (.bin .lss (.t 15) (.c (.int .i64 0))),
 zj 17 16,
 ⟨some 18, .faddr 0 (.t 4), some (17, false)⟩,
 ⟨some 19, .load false 1 [.int .i64] (.t 18), some (17, false)⟩,
 ⟨some 20, .bin .gtr (.t 19) (.c (.int .i64 1000000000000)), some (17, false)⟩,
 zi 21 (.pick (.t 17) (.c (.bool true)) (.t 20)),
 zj 22 21,
 ⟨some 23, .faddr 1 (.t 4), some (22, false)⟩,
 ⟨some 24, .load false 1 [.int .i64] (.t 23), some (22, false)⟩,
 ⟨some 25, .bin .lss (.t 24) (.c (.int .i64 0)), some (22, false)⟩,
 zi 26 (.pick (.t 22) (.c (.bool true)) (.t 25)),
 zj 27 26,
 ⟨some 28, .faddr 1 (.t 4), some (27, false)⟩,
 ⟨some 29, .load false 1 [.int .i64] (.t 28), some (27, false)⟩,
 ⟨some 30, .bin .gtr (.t 29) (.c (.int .i64 1000000)), some (27, false)⟩,
 zi 31 (.pick (.t 27) (.c (.bool true)) (.t 30))] none) (
 .cond (.t 31) (
 .seq (
 .region [zi 2 (.mov (.c (.int .i64 1)))] none) (
 .ret)) (
 .skip))))) (
 .region [zi 32 (.bin .add (.t 10) (.c (.int .i64 1))),
 zj 10 32] none))))))) (
 .seq (
 .seq (
 .region [zj 33 0,
 zi 34 (.call 71 [.t 33, .f 72]),
 zi 35 (.un .not (.t 34))] none) (
 .cond (.t 35) (
 .seq (
 .region [zi 2 (.mov (.c (.int .i64 10)))] none) (
 .ret)) (
 .skip))) (
 .seq (
 .seq (
 .region [zj 36 0,
 zi 37 (.len .l (.t 36)),
 zi 38 (.bin .gtr (.t 37) (.c (.int .i64 0))),
 zj 39 38,
 ⟨some 40, .mov (.t 0), some (39, true)⟩,
 ⟨some 41, .iaddr 2 [.int .i64, .int .i64] (.t 40) (.c (.int .i64 0)), some (39, true)⟩,
 ⟨some 42, .faddr 0 (.t 41), some (39, true)⟩,
 ⟨some 43, .load false 1 [.int .i64] (.t 42), some (39, true)⟩,
 ⟨some 44, .bin .neq (.t 43) (.c (.int .i64 0)), some (39, true)⟩,
 zi 45 (.pick (.t 39) (.t 44) (.c (.bool false)))] none) (
 .cond (.t 45) (
 .seq (
 .region [zi 2 (.mov (.c (.int .i64 1)))] none) (
 .ret)) (
 .skip))) (
 .seq (
 .region [zi 2 (.mov (.c (.int .i64 0)))] none) (
 .ret))))))⟩
def K54 : List (List Nat) := [[1005400, 0, 8, 9, 10, 2000000, 0, 2]]
def Hn54 : List (Nat × Nat) := []
def F55 : Fun := ⟨3, 23, [(6, none)],
 .seq (
 .region [zi 3 (.box 4 (.t 0)),
 zi 6 (.mov (.c (.int .i64 0)))] none) (
 .seq (
 .region [zi 10 (.load true 4 [.int .i64, .int .i64, .str, .slice 4] (.t 3)),
 zj 11 1,
 zi 12 (.call 62 [.t 10, .t 11]),
 zj 9 12,
 zi 13 (.ext (.t 9) 0),
 zi 14 (.ext (.t 9) 1),
 zj 7 13,
 zj 8 14] none) (
 .seq (
 .seq (
 .region [zj 15 8,
 zi 16 (.bin .eql (.t 15) (.c (.int .i64 0))),
 zj 17 16,
 ⟨some 18, .mov (.t 7), some (17, true)⟩,
 ⟨some 19, .mov (.t 2), some (17, true)⟩,
 ⟨some 20, .bin .neq (.t 18) (.t 19), some (17, true)⟩,
 zi 21 (.pick (.t 17) (.t 20) (.c (.bool false)))] none) (
 .cond (.t 21) (
 .seq (
 .region [zi 6 (.mov (.c (.int .i64 3)))] none) (
 .ret)) (
 .skip))) (
 .seq (
 .region [zj 22 8,
 zj 6 22] none) (
 .ret))))⟩
def K55 : List (List Nat) := []
def Hn55 : List (Nat × Nat) := []
def F58 : Fun := ⟨1, 8, [(2, none)],
 .seq (
 .region [zi 2 (.mov (.c (.nils 4)))] none) (
 .seq (
 .seq (
 .region [zj 3 0,
 zi 4 (.eqn .s false (.t 3) (.c (.nils 0)))] none) (
 .cond (.t 4) (
 .seq (
 .region [zi 2 (.mov (.c (.nils 4)))] none) (
 .ret)) (
 .skip))) (
 .seq (
 .region [zi 5 (.bslice 4 (.agg [.int .i64 0, .int .i64 0, .str [], .nils 4]) 0 []),
 zj 6 0,
 zi 7 (.app 4 56 (.t 5) (.t 6)),
 zj 2 7] none) (
 .ret)))⟩
def K58 : List (List Nat) := []
def Hn58 : List (Nat × Nat) := [(2, 4)]
def F59 : Fun := ⟨3, 32, [(6, none)],
 .seq (
 .region [zi 6 (.mov (.c (.bool false)))] none) (
 .seq (
 .seq (
 .region [zj 10 0,
 zi 11 (.len .l (.t 10)),
 zj 12 1,
 zi 13 (.len .l (.t 12)),
 zi 14 (.bin .neq (.t 11) (.t 13))] none) (
 .cond (.t 14) (
 .seq (
 .region [zi 6 (.mov (.c (.bool false)))] none) (
 .ret)) (
 .skip))) (
 .seq (
 .seq (
 .region [zj 15 0,
 zi 16 (.len .l (.t 15)),
 zi 17 (.mov (.c (.int .i64 0)))] none) (
 .block 0 (
 .loop [1005900, 1, 2, 15, 16, 17, 2000000, 6] (
 .seq (
 .region [zi 18 (.bin .lss (.t 17) (.t 16))] none) (
 .seq (
 .cond (.t 18) (
 .skip) (
 .exit 0)) (
 .seq (
 .block 1 (
 .seq (
 .region [zj 19 17,
 zi 20 (.iaddr 4 [.int .i64, .int .i64, .str, .slice 4] (.t 15) (.t 17)),
 zi 21 (.load true 4 [.int .i64, .int .i64, .str, .slice 4] (.t 20)),
 zi 8 (.alloc (.agg [.int .i64 0, .int .i64 0, .str [], .nils 4])),
 zj 7 19,
 ⟨none, .store 4 (.t 8) (.t 21), none⟩] none) (
 .seq (
 .region [zj 22 1,
 zj 23 7,
 zi 24 (.iaddr 4 [.int .i64, .int .i64, .str, .slice 4] (.t 22) (.t 23)),
 zi 25 (.load true 4 [.int .i64, .int .i64, .str, .slice 4] (.t 24)),
 zi 9 (.alloc (.agg [.int .i64 0, .int .i64 0, .str [], .nils 4])),
 ⟨none, .store 4 (.t 9) (.t 25), none⟩] none) (
 .seq (
 .region [zj 26 2,
 zi 27 (.load true 4 [.int .i64, .int .i64, .str, .slice 4] (.t 8)),
 zi 28 (.load true 4 [.int .i64, .int .i64, .str, .slice 4] (.t 9)),
 zi 29 (.callv (.t 26) [.t 27, .t 28]),
 zi 30 (.un .not (.t 29))] none) (
 .cond (.t 30) (
 .seq (
 .region [zi 6 (.mov (.c (.bool false)))] none) (
 .ret)) (
 .skip)))))) (
 .region [zi 31 (.bin .add (.t 17) (.c (.int .i64 1))),
 zj 17 31] none))))))) (
 .seq (
 .region [zi 6 (.mov (.c (.bool true)))] none) (
 .ret))))⟩
def K59 : List (List Nat) := [[1005900, 1, 2, 15, 16, 17, 2000000, 6]]
def Hn59 : List (Nat × Nat) := []
def F69 : Fun := ⟨1, 8, [(3, none)],
 .seq (
 .region [zi 2 (.box 3 (.t 0)),
 zi 3 (.mov (.c (.bool false)))] none) (
 .seq (
 .region [zi 4 (.faddr 0 (.t 2)),
 zi 5 (.load false 1 [.str] (.t 4)),
 zi 6 (.load false 1 [.str] (.t 1)),
 zi 7 (.bin .eql (.t 5) (.t 6)),
 zj 3 7] none) (
 .ret))⟩
def K69 : List (List Nat) := []
def Hn69 : List (Nat × Nat) := []
def F68 : Fun := ⟨2, 19, [(4, none)],
 .seq (
 .region [zi 4 (.mov (.c (.int .i64 0)))] none) (
 .seq (
 .seq (
 .region [zj 6 0,
 zi 7 (.len .l (.t 6)),
 zi 8 (.mov (.c (.int .i64 0)))] none) (
 .block 0 (
 .loop [1006800, 0, 1, 7, 8, 2000000, 4] (
 .seq (
 .region [zi 9 (.bin .lss (.t 8) (.t 7))] none) (
 .seq (
 .cond (.t 9) (
 .skip) (
 .exit 0)) (
 .seq (
 .block 1 (
 .seq (
 .region [zj 10 8,
 zj 5 10] none) (
 .seq (
 .region [zj 11 1,
 zj 12 0,
 zj 13 5,
 zi 14 (.iaddr 3 [.str, .slice 1, .slice 1] (.t 12) (.t 13)),
 zi 15 (.load true 3 [.str, .slice 1, .slice 1] (.t 14)),
 zi 16 (.callv (.t 11) [.t 15])] none) (
 .cond (.t 16) (
 .seq (
 .region [zj 17 5,
 zj 4 17] none) (
 .ret)) (
 .skip))))) (
 .region [zi 18 (.bin .add (.t 8) (.c (.int .i64 1))),
 zj 8 18] none))))))) (
 .seq (
 .region [zi 4 (.mov (.c (.int .i64 (-1))))] none) (
 .ret)))⟩
def K68 : List (List Nat) := [[1006800, 0, 1, 7, 8, 2000000, 4]]
def Hn68 : List (Nat × Nat) := []
def F70 : Fun := ⟨1, 8, [(2, none)],
 .seq (
 .region [zi 2 (.mov (.c (.nils 1)))] none) (
 .seq (
 .seq (
 .region [zj 3 0,
 zi 4 (.eqn .s false (.t 3) (.c (.nils 0)))] none) (
 .cond (.t 4) (
 .seq (
 .region [zi 2 (.mov (.c (.nils 1)))] none) (
 .ret)) (
 .skip))) (
 .seq (
 .region [zi 5 (.bslice 1 (.int .i64 0) 0 []),
 zj 6 0,
 zi 7 (.app 1 8 (.t 5) (.t 6)),
 zj 2 7] none) (
 .ret)))⟩
def K70 : List (List Nat) := []
def Hn70 : List (Nat × Nat) := [(2, 1)]
def F71 : Fun := ⟨2, 26, [(4, none)],
 .seq (
 .region [zi 4 (.mov (.c (.bool false)))] none) (
 .seq (
 .seq (
 .region [zi 5 (.mov (.c (.int .i64 1)))] none) (
 .block 0 (
 .loop [1007100, 0, 1, 5, 2000000, 4] (
 .seq (
 .seq (
 .region [zj 6 5,
 zj 7 0,
 zi 8 (.len .l (.t 7)),
 zi 9 (.bin .lss (.t 6) (.t 8))] none) (
 .cond (.t 9) (
 .skip) (
 .exit 0))) (
 .seq (
 .block 1 (
 .seq (
 .region [zj 12 1,
 zj 13 0,
 zj 14 5,
 zi 15 (.iaddr 2 [.int .i64, .int .i64] (.t 13) (.t 14)),
 zi 16 (.load true 2 [.int .i64, .int .i64] (.t 15)),
 zi 17 (.callv (.t 12) [.t 16]),
 zj 18 1,
 zj 19 0,
 zj 20 5,
 zi 21 (.bin .sub (.t 20) (.c (.int .i64 1))),
 zi 22 (.iaddr 2 [.int .i64, .int .i64] (.t 19) (.t 21)),
 zi 23 (.load true 2 [.int .i64, .int .i64] (.t 22)),
 zi 24 (.callv (.t 18) [.t 23]),
 zi 25 (.bin .leq (.t 17) (.t 24))] (some [[], [], [], [1, 2], [3, 1, 2], [0, 4, 3, 1, 2], [], [], [], [8], [7, 9, 8], [10, 7, 9, 8], [6, 11, 10, 7, 9, 8, 5, 0, 4, 3, 1, 2], [12, 6, 11, 10, 7, 9, 8, 5, 0, 4, 3, 1, 2]])) (
 .cond (.t 25) (
 .seq (
 .region [zi 4 (.mov (.c (.bool false)))] none) (
 .ret)) (
 .skip)))) (
 .region [zj 10 5,
 zi 11 (.bin .add (.t 10) (.c (.int .i64 1))),
 zj 5 11] none)))))) (
 .seq (
 .region [zi 4 (.mov (.c (.bool true)))] none) (
 .ret)))⟩
def K71 : List (List Nat) := [[1007100, 0, 1, 5, 2000000, 4]]
def Hn71 : List (Nat × Nat) := []
def F72 : Fun := ⟨1, 5, [(2, none)],
 .seq (
 .region [zi 1 (.box 2 (.t 0)),
 zi 2 (.mov (.c (.int .i64 0)))] none) (
 .seq (
 .region [zi 3 (.faddr 0 (.t 1)),
 zi 4 (.load false 1 [.int .i64] (.t 3)),
 zj 2 4] none) (
 .ret))⟩
def K72 : List (List Nat) := []
def Hn72 : List (Nat × Nat) := []
def F62 : Fun := ⟨2, 17, [(4, none), (5, none)],
 .seq (
 .region [zi 2 (.box 4 (.t 0)),
 zi 4 (.mov (.c (.int .i64 0))),
 zi 5 (.mov (.c (.int .i64 0)))] none) (
 .seq (
 .seq (
 .region [zi 7 (.load true 4 [.int .i64, .int .i64, .str, .slice 4] (.t 2)),
 zi 8 (.call 73 [.t 7]),
 zj 6 8] none) (
 .seq (
 .region [zj 9 6,
 zi 10 (.bin .neq (.t 9) (.c (.int .i64 0)))] none) (
 .cond (.t 10) (
 .seq (
 .region [zj 11 6,
 zi 4 (.mov (.c (.int .i64 0))),
 zj 5 11] none) (
 .ret)) (
 .skip)))) (
 .seq (
 .region [zi 12 (.load true 4 [.int .i64, .int .i64, .str, .slice 4] (.t 2)),
 zj 13 1,
 zi 14 (.call 75 [.t 12, .t 13]),
 zi 15 (.ext (.t 14) 0),
 zi 16 (.ext (.t 14) 1),
 zj 4 15,
 zj 5 16] none) (
 .ret)))⟩
def K62 : List (List Nat) := []
def Hn62 : List (Nat × Nat) := []
def F73 : Fun := ⟨1, 20, [(2, none)],
 .seq (
 .region [zi 1 (.box 4 (.t 0)),
 zi 2 (.mov (.c (.int .i64 0)))] none) (
 .seq (
 .block 0 (
 .seq (
 .region [zi 4 (.load true 4 [.int .i64, .int .i64, .str, .slice 4] (.t 1)),
 zi 5 (.call 84 [.t 4]),
 zi 6 (.bin .gtr (.t 5) (.c (.int .i64 64))),
 zj 7 6,
 ⟨some 8, .load true 4 [.int .i64, .int .i64, .str, .slice 4] (.t 1), some (7, false)⟩,
 ⟨some 9, .call 85 [.t 8], some (7, false)⟩,
 ⟨some 10, .bin .gtr (.t 9) (.c (.int .i64 8)), some (7, false)⟩,
 zi 11 (.pick (.t 7) (.c (.bool true)) (.t 10)),
 zj 3 11] none) (
 .cond (.t 3) (
 .seq (
 .region [zi 2 (.mov (.c (.int .i64 5)))] none) (
 .ret)) (
 .seq (
 .region [zi 13 (.load true 4 [.int .i64, .int .i64, .str, .slice 4] (.t 1)),
 zi 14 (.call 86 [.t 13, .f 87]),
 zi 15 (.un .not (.t 14)),
 zj 12 15] none) (
 .cond (.t 12) (
 .seq (
 .region [zi 2 (.mov (.c (.int .i64 1)))] none) (
 .ret)) (
 .seq (
 .region [zi 17 (.load true 4 [.int .i64, .int .i64, .str, .slice 4] (.t 1)),
 zi 18 (.call 86 [.t 17, .f 88]),
 zi 19 (.un .not (.t 18)),
 zj 16 19] none) (
 .cond (.t 16) (
 .seq (
 .region [zi 2 (.mov (.c (.int .i64 4)))] none) (
 .ret)) (
 .skip)))))))) (
 .seq (
 .region [zi 2 (.mov (.c (.int .i64 0)))] none) (
 .ret)))⟩
def K73 : List (List Nat) := []
def Hn73 : List (Nat × Nat) := []
def F75 : Fun := ⟨2, 60, [(4, none), (5, none)],
 .seq (
 .region [zi 2 (.box 4 (.t 0)),
 zi 4 (.mov (.c (.int .i64 0))),
 zi 5 (.mov (.c (.int .i64 0)))] none) (
 .seq (
 .seq (
 .region [zi 13 (.faddr 0 (.t 2)),
 zi 14 (.load false 1 [.int .i64] (.t 13))] none) (
 .block 0 (
 .seq (
 .region [zi 16 (.bin .eql (.t 14) (.c (.int .i64 1))),
 zj 15 16] none) (
 .cond (.t 15) (
 .seq (
 .region [zi 4 (.mov (.c (.int .i64 1))),
 zi 5 (.mov (.c (.int .i64 0)))] none) (
 .ret)) (
 .seq (
 .region [zi 18 (.bin .eql (.t 14) (.c (.int .i64 2))),
 zj 17 18] none) (
 .cond (.t 17) (
 .seq (
 .region [zi 4 (.mov (.c (.int .i64 2))),
 zi 5 (.mov (.c (.int .i64 0)))] none) (
 .ret)) (
 .seq (
 .region [zi 20 (.bin .eql (.t 14) (.c (.int .i64 3))),
 zj 19 20] none) (
 .cond (.t 19) (
 .seq (
 .region [zi 4 (.mov (.c (.int .i64 3))),
 zi 5 (.mov (.c (.int .i64 0)))] none) (
 .ret)) (
 .seq (
 .region [zi 22 (.bin .eql (.t 14) (.c (.int .i64 4))),
 zj 21 22] none) (
 .cond (.t 21) (
 .seq (
 .region [zi 23 (.faddr 2 (.t 2)),
 zi 24 (.load false 1 [.str] (.t 23)),
 zj 25 1,
 zi 26 (.call 89 [.t 24, .t 25]),
 zi 27 (.ext (.t 26) 0),
 zi 28 (.ext (.t 26) 1),
 zj 4 27,
 zj 5 28] none) (
 .ret)) (
 .skip))))))))))) (
 .seq (
 .region [zi 6 (.mov (.c (.nils 1)))] none) (
 .seq (
 .seq (
 .region [zi 29 (.faddr 3 (.t 2)),
 zi 30 (.load false 1 [.slice 4] (.t 29)),
 zi 31 (.len .l (.t 30)),
 zi 32 (.mov (.c (.int .i64 0)))] none) (
 .block 1 (
 .loop [1007500, 1, 2, 6, 30, 31, 32, 2000000, 2, 4, 5, 6] (
 .seq (
 .region [zi 33 (.bin .lss (.t 32) (.t 31))] none) (
 .seq (
 .cond (.t 33) (
 .skip) (
 .exit 1)) (
 .seq (
 .block 2 (
 .seq (
 .region [zi 34 (.iaddr 4 [.int .i64, .int .i64, .str, .slice 4] (.t 30) (.t 32)),
 zi 35 (.load true 4 [.int .i64, .int .i64, .str, .slice 4] (.t 34)),
 zi 8 (.alloc (.agg [.int .i64 0, .int .i64 0, .str [], .nils 4])),
 ⟨none, .store 4 (.t 8) (.t 35), none⟩] none) (
 .seq (
 .region [zi 37 (.load true 4 [.int .i64, .int .i64, .str, .slice 4] (.t 8)),
 zj 38 1,
 zi 39 (.call 75 [.t 37, .t 38]),
 zj 36 39,
 zi 40 (.ext (.t 36) 0),
 zi 41 (.ext (.t 36) 1),
 zj 9 40,
 zj 10 41] none) (
 .seq (
 .seq (
 .region [zj 42 10,
 zi 43 (.bin .neq (.t 42) (.c (.int .i64 0)))] none) (
 .cond (.t 43) (
 .seq (
 .region [zj 44 10,
 zi 4 (.mov (.c (.int .i64 0))),
 zj 5 44] none) (
 .ret)) (
 .skip))) (
 .region [zj 45 6,
 zj 46 9,
 zi 47 (.bslice 1 (.int .i64 0) 1 [(0, (.t 46))]),
 zi 48 (.app 1 8 (.t 45) (.t 47)),
 zj 6 48] none))))) (
 .region [zi 49 (.bin .add (.t 32) (.c (.int .i64 1))),
 zj 32 49] none))))))) (
 .seq (
 .region [zi 51 (.faddr 0 (.t 2)),
 zi 52 (.load false 1 [.int .i64] (.t 51)),
 zj 53 6,
 zi 54 (.call 90 [.t 52, .t 53]),
 zj 50 54,
 zi 55 (.ext (.t 50) 0),
 zi 56 (.ext (.t 50) 1),
 zj 11 55,
 zj 12 56] none) (
 .seq (
 .seq (
 .region [zj 57 12,
 zi 58 (.un .not (.t 57))] none) (
 .cond (.t 58) (
 .seq (
 .region [zi 4 (.mov (.c (.int .i64 0))),
 zi 5 (.mov (.c (.int .i64 3)))] none) (
 .ret)) (
 .skip))) (
 .seq (
 .region [zj 59 11,
 zj 4 59,
 zi 5 (.mov (.c (.int .i64 0)))] none) (
 .ret)))))))⟩
def K75 : List (List Nat) := [[1007500, 1, 2, 6, 30, 31, 32, 2000000, 2, 4, 5, 6]]
def Hn75 : List (Nat × Nat) := [(6, 1)]
def F84 : Fun := ⟨1, 19, [(2, none)],
 .seq (
 .region [zi 1 (.box 4 (.t 0)),
 zi 2 (.mov (.c (.int .i64 0)))] none) (
 .seq (
 .region [zi 3 (.mov (.c (.int .i64 1)))] none) (
 .seq (
 .seq (
 .region [zi 6 (.faddr 3 (.t 1)),
 zi 7 (.load false 1 [.slice 4] (.t 6)),
 zi 8 (.len .l (.t 7)),
 zi 9 (.mov (.c (.int .i64 0)))] none) (
 .block 0 (
 .loop [1008400, 3, 7, 8, 9, 2000000, 3] (
 .seq (
 .region [zi 10 (.bin .lss (.t 9) (.t 8))] none) (
 .seq (
 .cond (.t 10) (
 .skip) (
 .exit 0)) (
 .seq (
 .block 1 (
 .seq (
 .region [zi 11 (.iaddr 4 [.int .i64, .int .i64, .str, .slice 4] (.t 7) (.t 9)),
 zi 12 (.load true 4 [.int .i64, .int .i64, .str, .slice 4] (.t 11)),
 zi 5 (.alloc (.agg [.int .i64 0, .int .i64 0, .str [], .nils 4])),
 ⟨none, .store 4 (.t 5) (.t 12), none⟩] none) (
 .region [zj 13 3,
 zi 14 (.load true 4 [.int .i64, .int .i64, .str, .slice 4] (.t 5)),
 zi 15 (.call 84 [.t 14]),
 zi 16 (.bin .add (.t 13) (.t 15)),
 zj 3 16] none))) (
 .region [zi 17 (.bin .add (.t 9) (.c (.int .i64 1))),
 zj 9 17] none))))))) (
 .seq (
 .region [zj 18 3,
 zj 2 18] none) (
 .ret))))⟩
def K84 : List (List Nat) := [[1008400, 3, 7, 8, 9, 2000000, 3]]
def Hn84 : List (Nat × Nat) := []
def F85 : Fun := ⟨1, 20, [(2, none)],
 .seq (
 .region [zi 1 (.box 4 (.t 0)),
 zi 2 (.mov (.c (.int .i64 0)))] none) (
 .seq (
 .region [zi 3 (.mov (.c (.int .i64 0)))] none) (
 .seq (
 .seq (
 .region [zi 6 (.faddr 3 (.t 1)),
 zi 7 (.load false 1 [.slice 4] (.t 6)),
 zi 8 (.len .l (.t 7)),
 zi 9 (.mov (.c (.int .i64 0)))] none) (
 .block 0 (
 .loop [1008500, 3, 7, 8, 9, 2000000, 3] (
 .seq (
 .region [zi 10 (.bin .lss (.t 9) (.t 8))] none) (
 .seq (
 .cond (.t 10) (
 .skip) (
 .exit 0)) (
 .seq (
 .block 1 (
 .seq (
 .region [zi 11 (.iaddr 4 [.int .i64, .int .i64, .str, .slice 4] (.t 7) (.t 9)),
 zi 12 (.load true 4 [.int .i64, .int .i64, .str, .slice 4] (.t 11)),
 zi 5 (.alloc (.agg [.int .i64 0, .int .i64 0, .str [], .nils 4])),
 ⟨none, .store 4 (.t 5) (.t 12), none⟩] none) (
 .region [zj 13 3,
 zi 14 (.load true 4 [.int .i64, .int .i64, .str, .slice 4] (.t 5)),
 zi 15 (.call 85 [.t 14]),
 zi 16 (.mx [.t 13, .t 15]),
 zj 3 16] none))) (
 .region [zi 17 (.bin .add (.t 9) (.c (.int .i64 1))),
 zj 9 17] none))))))) (
 .seq (
 .region [zj 18 3,
 zi 19 (.bin .add (.t 18) (.c (.int .i64 1))),
 zj 2 19] none) (
 .ret))))⟩
def K85 : List (List Nat) := [[1008500, 3, 7, 8, 9, 2000000, 3]]
def Hn85 : List (Nat × Nat) := []
def F86 : Fun := ⟨2, 15, [(4, none)],
 .seq (
 .region [zi 2 (.box 4 (.t 0)),
 zi 3 (.box 1 (.t 1)),
 zi 4 (.mov (.c (.bool false)))] none) (
 .seq (
 .region [zi 5 (.load false 1 [] (.t 3)),
 zi 6 (.load true 4 [.int .i64, .int .i64, .str, .slice 4] (.t 2)),
 zi 7 (.callv (.t 5) [.t 6]),
 zj 8 7,
 ⟨some 9, .faddr 3 (.t 2), some (8, true)⟩,
 ⟨some 10, .load false 1 [.slice 4] (.t 9), some (8, true)⟩,
 ⟨some 11, .mkf 109 [.t 3], some (8, true)⟩,
 ⟨some 12, .call 108 [.t 10, .t 11], some (8, true)⟩,
 ⟨some 13, .un .not (.t 12), some (8, true)⟩,
 zi 14 (.pick (.t 8) (.t 13) (.c (.bool false))),
 zj 4 14] none) (
 .ret))⟩
def K86 : List (List Nat) := []
def Hn86 : List (Nat × Nat) := []
def F87 : Fun := ⟨1, 40, [(2, none)],
 .seq (
 .region [zi 1 (.box 4 (.t 0)),
 zi 2 (.mov (.c (.bool false)))] none) (
 .seq (
 .region [zi 3 (.mov (.c (.int .i64 0)))] none) (
 .seq (
 .seq (
 .region [zi 4 (.faddr 0 (.t 1)),
 zi 5 (.load false 1 [.int .i64] (.t 4))] none) (
 .block 0 (
 .seq (
 .region [zi 7 (.bin .eql (.t 5) (.c (.int .i64 1))),
 zj 6 7] none) (
 .cond (.t 6) (
 .region [zi 3 (.mov (.c (.int .i64 9223372036854775807)))] none) (
 .seq (
 .region [zi 9 (.bin .eql (.t 5) (.c (.int .i64 2))),
 zj 8 9] none) (
 .cond (.t 8) (
 .region [zi 3 (.mov (.c (.int .i64 1000000000000)))] none) (
 .seq (
 .region [zi 11 (.bin .eql (.t 5) (.c (.int .i64 3))),
 zj 10 11] none) (
 .cond (.t 10) (
 .region [zi 3 (.mov (.c (.int .i64 1000000)))] none) (
 .skip))))))))) (
 .seq (
 .region [zi 12 (.faddr 0 (.t 1)),
 zi 13 (.load false 1 [.int .i64] (.t 12)),
 zi 14 (.call 110 [.t 13]),
 zi 15 (.faddr 3 (.t 1)),
 zi 16 (.load false 1 [.slice 4] (.t 15)),
 zi 17 (.len .l (.t 16)),
 zi 18 (.bin .eql (.t 14) (.t 17)),
 zj 19 18,
 ⟨some 20, .faddr 1 (.t 1), some (19, true)⟩,
 ⟨some 21, .load false 1 [.int .i64] (.t 20), some (19, true)⟩,
 ⟨some 22, .bin .geq (.t 21) (.c (.int .i64 0)), some (19, true)⟩,
 zi 23 (.pick (.t 19) (.t 22) (.c (.bool false))),
 zj 24 23,
 ⟨some 25, .faddr 1 (.t 1), some (24, true)⟩,
 ⟨some 26, .load false 1 [.int .i64] (.t 25), some (24, true)⟩,
 ⟨some 27, .mov (.t 3), some (24, true)⟩,
 ⟨some 28, .bin .leq (.t 26) (.t 27), some (24, true)⟩,
 zi 29 (.pick (.t 24) (.t 28) (.c (.bool false))),
 zj 30 29,
 ⟨some 31, .faddr 2 (.t 1), some (30, true)⟩,
 ⟨some 32, .load false 1 [.str] (.t 31), some (30, true)⟩,
 ⟨some 33, .bin .eql (.t 32) (.c (.str [])), some (30, true)⟩,
 ⟨some 34, .mov (.t 33), some (30, true)⟩,
 ⟨some 35, .faddr 0 (.t 1), some (34, false)⟩,
 ⟨some 36, .load false 1 [.int .i64] (.t 35), some (34, false)⟩,
 ⟨some 37, .bin .eql (.t 36) (.c (.int .i64 4)), some (34, false)⟩,
 ⟨some 38, .pick (.t 34) (.c (.bool true)) (.t 37), some (30, true)⟩,
 zi 39 (.pick (.t 30) (.t 38) (.c (.bool false))),
 zj 2 39] (some [[], [0], [1, 0], [], [3], [4, 3], [2, 1, 0, 5, 4, 3], [6, 5, 4, 3, 2, 1, 0], [7, 6, 5, 4, 3, 2, 1, 0], [8, 7, 6, 5, 4, 3, 2, 1, 0], [9, 8, 7, 6, 5, 4, 3, 2, 1, 0], [10, 9, 8, 7, 6, 5, 4, 3, 2, 1, 0], [11, 10, 9, 8, 7, 6, 5, 4, 3, 2, 1, 0], [12, 11, 10, 9, 8, 7, 6, 5, 4, 3, 2, 1, 0], [13, 12, 11, 10, 9, 8, 7, 6, 5, 4, 3, 2, 1, 0], [12, 11, 10, 9, 8, 7, 6, 5, 4, 3, 2, 1, 0], [14, 13, 15, 12, 11, 10, 9, 8, 7, 6, 5, 4, 3, 2, 1, 0], [16, 14, 13, 15, 12, 11, 10, 9, 8, 7, 6, 5, 4, 3, 2, 1, 0], [17, 16, 14, 13, 15, 12, 11, 10, 9, 8, 7, 6, 5, 4, 3, 2, 1, 0], [18, 17, 16, 14, 13, 15, 12, 11, 10, 9, 8, 7, 6, 5, 4, 3, 2, 1, 0], [19, 18, 17, 16, 14, 13, 15, 12, 11, 10, 9, 8, 7, 6, 5, 4, 3, 2, 1, 0], [20, 19, 18, 17, 16, 14, 13, 15, 12, 11, 10, 9, 8, 7, 6, 5, 4, 3, 2, 1, 0], [21, 20, 19, 18, 17, 16, 14, 13, 15, 12, 11, 10, 9, 8, 7, 6, 5, 4, 3, 2, 1, 0], [22, 21, 20, 19, 18, 17, 16, 14, 13, 15, 12, 11, 10, 9, 8, 7, 6, 5, 4, 3, 2, 1, 0], [23, 22, 21, 20, 19, 18, 17, 16, 14, 13, 15, 12, 11, 10, 9, 8, 7, 6, 5, 4, 3, 2, 1, 0], [24, 23, 22, 21, 20, 19, 18, 17, 16, 14, 13, 15, 12, 11, 10, 9, 8, 7, 6, 5, 4, 3, 2, 1, 0], [25, 24, 23, 22, 21, 20, 19, 18, 17, 16, 14, 13, 15, 12, 11, 10, 9, 8, 7, 6, 5, 4, 3, 2, 1, 0], [26, 25, 24, 23, 22, 21, 20, 19, 18, 17, 16, 14, 13, 15, 12, 11, 10, 9, 8, 7, 6, 5, 4, 3, 2, 1, 0], [27, 26, 25, 24, 23, 22, 21, 20, 19, 18, 17, 16, 14, 13, 15, 12, 11, 10, 9, 8, 7, 6, 5, 4, 3, 2, 1, 0]])) (
 .ret))))⟩
def K87 : List (List Nat) := []
def Hn87 : List (Nat × Nat) := []
def F88 : Fun := ⟨1, 11, [(2, none)],
 .seq (
 .region [zi 1 (.box 4 (.t 0)),
 zi 2 (.mov (.c (.bool false)))] none) (
 .seq (
 .region [zi 3 (.faddr 0 (.t 1)),
 zi 4 (.load false 1 [.int .i64] (.t 3)),
 zi 5 (.bin .neq (.t 4) (.c (.int .i64 4))),
 zj 6 5,
 ⟨some 7, .faddr 2 (.t 1), some (6, false)⟩,
 ⟨some 8, .load false 1 [.str] (.t 7), some (6, false)⟩,
 ⟨some 9, .call 111 [.t 8], some (6, false)⟩,
 zi 10 (.pick (.t 6) (.c (.bool true)) (.t 9)),
 zj 2 10] none) (
 .ret))⟩
def K88 : List (List Nat) := []
def Hn88 : List (Nat × Nat) := []
def F89 : Fun := ⟨2, 25, [(4, none), (5, none)],
 .seq (
 .region [zi 4 (.mov (.c (.int .i64 0))),
 zi 5 (.mov (.c (.int .i64 0)))] none) (
 .seq (
 .seq (
 .region [zj 8 1,
 zi 9 (.len .l (.t 8)),
 zi 10 (.mov (.c (.int .i64 0)))] none) (
 .block 0 (
 .loop [1008900, 0, 8, 9, 10, 2000000, 4, 5] (
 .seq (
 .region [zi 11 (.bin .lss (.t 10) (.t 9))] none) (
 .seq (
 .cond (.t 11) (
 .skip) (
 .exit 0)) (
 .seq (
 .block 1 (
 .seq (
 .region [zi 12 (.iaddr 2 [.str, .int .i64] (.t 8) (.t 10)),
 zi 13 (.load true 2 [.str, .int .i64] (.t 12)),
 zi 7 (.alloc (.agg [.str [], .int .i64 0])),
 ⟨none, .store 2 (.t 7) (.t 13), none⟩] none) (
 .seq (
 .region [zi 14 (.faddr 0 (.t 7)),
 zi 15 (.load false 1 [.str] (.t 14)),
 zj 16 0,
 zi 17 (.bin .eql (.t 15) (.t 16))] none) (
 .cond (.t 17) (
 .seq (
 .seq (
 .region [zi 18 (.faddr 1 (.t 7)),
 zi 19 (.load false 1 [.int .i64] (.t 18)),
 zi 20 (.call 74 [.t 19]),
 zi 21 (.un .not (.t 20))] none) (
 .cond (.t 21) (
 .seq (
 .region [zi 4 (.mov (.c (.int .i64 0))),
 zi 5 (.mov (.c (.int .i64 3)))] none) (
 .ret)) (
 .skip))) (
 .seq (
 .region [zi 22 (.faddr 1 (.t 7)),
 zi 23 (.load false 1 [.int .i64] (.t 22)),
 zj 4 23,
 zi 5 (.mov (.c (.int .i64 0)))] none) (
 .ret))) (
 .skip))))) (
 .region [zi 24 (.bin .add (.t 10) (.c (.int .i64 1))),
 zj 10 24] none))))))) (
 .seq (
 .region [zi 4 (.mov (.c (.int .i64 0))),
 zi 5 (.mov (.c (.int .i64 4)))] none) (
 .ret)))⟩
def K89 : List (List Nat) := [[1008900, 0, 8, 9, 10, 2000000, 4, 5]]
def Hn89 : List (Nat × Nat) := []
def F90 : Fun := ⟨2, 70, [(4, none), (5, none)],
 .seq (
 .region [zi 4 (.mov (.c (.int .i64 0))),
 zi 5 (.mov (.c (.bool false)))] none) (
 .seq (
 .seq (
 .region [zj 10 1,
 zi 11 (.len .l (.t 10)),
 zi 12 (.mov (.c (.int .i64 0)))] none) (
 .block 0 (
 .loop [1009000, 0, 1, 10, 11, 12, 2000000, 0, 1, 4, 5] (
 .seq (
 .region [zi 13 (.bin .lss (.t 12) (.t 11))] none) (
 .seq (
 .cond (.t 13) (
 .skip) (
 .exit 0)) (
 .seq (
 .block 1 (
 .seq (
 .region [zi 14 (.iaddr 1 [.int .i64] (.t 10) (.t 12)),
 zi 15 (.load false 1 [.int .i64] (.t 14)),
 zj 7 15] none) (
 .seq (
 .region [zj 16 7,
 zi 17 (.call 74 [.t 16]),
 zi 18 (.un .not (.t 17))] none) (
 .cond (.t 18) (
 .seq (
 .region [zi 4 (.mov (.c (.int .i64 0))),
 zi 5 (.mov (.c (.bool false)))] none) (
 .ret)) (
 .skip))))) (
 .region [zi 19 (.bin .add (.t 12) (.c (.int .i64 1))),
 zj 12 19] none))))))) (
 .seq (
 .region [zi 8 (.mov (.c (.int .i64 0))),
 zi 9 (.mov (.c (.bool false)))] none) (
 .seq (
 .seq (
 .region [zj 20 1,
 zi 21 (.len .l (.t 20))] none) (
 .block 2 (
 .seq (
 .region [zi 23 (.bin .eql (.t 21) (.c (.int .i64 1))),
 zj 22 23] none) (
 .cond (.t 22) (
 .region [zj 25 0,
 zj 26 1,
 zi 27 (.iaddr 1 [.int .i64] (.t 26) (.c (.int .i64 0))),
 zi 28 (.load false 1 [.int .i64] (.t 27)),
 zi 29 (.call 112 [.t 25, .t 28]),
 zj 24 29,
 zi 30 (.ext (.t 24) 0),
 zi 31 (.ext (.t 24) 1),
 zj 8 30,
 zj 9 31] none) (
 .seq (
 .region [zi 33 (.bin .eql (.t 21) (.c (.int .i64 2))),
 zj 32 33] none) (
 .cond (.t 32) (
 .region [zj 35 0,
 zj 36 1,
 zi 37 (.iaddr 1 [.int .i64] (.t 36) (.c (.int .i64 0))),
 zi 38 (.load false 1 [.int .i64] (.t 37)),
 zj 39 1,
 zi 40 (.iaddr 1 [.int .i64] (.t 39) (.c (.int .i64 1))),
 zi 41 (.load false 1 [.int .i64] (.t 40)),
 zi 42 (.call 113 [.t 35, .t 38, .t 41]),
 zj 34 42,
 zi 43 (.ext (.t 34) 0),
 zi 44 (.ext (.t 34) 1),
 zj 8 43,
 zj 9 44] (some [[], [], [1], [2, 1], [], [4], [5, 4], [0, 3, 2, 1, 6, 5, 4], [7, 0, 3, 2, 1, 6, 5, 4], [8, 7, 0, 3, 2, 1, 6, 5, 4], [8, 7, 0, 3, 2, 1, 6, 5, 4], [9, 8, 7, 0, 3, 2, 1, 6, 5, 4], [10, 11, 9, 8, 7, 0, 3, 2, 1, 6, 5, 4]])) (
 .seq (
 .region [zi 46 (.bin .eql (.t 21) (.c (.int .i64 3))),
 zj 45 46] none) (
 .cond (.t 45) (
 .region [zj 47 1,
 zi 48 (.iaddr 1 [.int .i64] (.t 47) (.c (.int .i64 1))),
 zi 49 (.load false 1 [.int .i64] (.t 48)),
 zj 50 0,
 zi 51 (.bin .eql (.t 50) (.c (.int .i64 19))),
 zj 52 51,
 ⟨some 53, .mov (.t 1), some (52, true)⟩,
 ⟨some 54, .iaddr 1 [.int .i64] (.t 53) (.c (.int .i64 0)), some (52, true)⟩,
 ⟨some 55, .load false 1 [.int .i64] (.t 54), some (52, true)⟩,
 ⟨some 56, .bin .eql (.t 55) (.c (.int .i64 5)), some (52, true)⟩,
 zi 57 (.pick (.t 52) (.t 56) (.c (.bool false))),
 zj 58 57,
 ⟨some 59, .mov (.t 1), some (58, true)⟩,
 ⟨some 60, .iaddr 1 [.int .i64] (.t 59) (.c (.int .i64 1)), some (58, true)⟩,
 ⟨some 61, .load false 1 [.int .i64] (.t 60), some (58, true)⟩,
 ⟨some 62, .mov (.t 1), some (58, true)⟩,
 ⟨some 63, .iaddr 1 [.int .i64] (.t 62) (.c (.int .i64 2)), some (58, true)⟩,
 ⟨some 64, .load false 1 [.int .i64] (.t 63), some (58, true)⟩,
 ⟨some 65, .bin .eql (.t 61) (.t 64), some (58, true)⟩,
 zi 66 (.pick (.t 58) (.t 65) (.c (.bool false))),
 zj 8 49,
 zj 9 66] (some [[], [0], [1, 0], [], [3], [4, 3], [5, 4, 3], [6, 5, 4, 3], [7, 6, 5, 4, 3], [8, 7, 6, 5, 4, 3], [9, 8, 7, 6, 5, 4, 3], [10, 9, 8, 7, 6, 5, 4, 3], [11, 10, 9, 8, 7, 6, 5, 4, 3], [12, 11, 10, 9, 8, 7, 6, 5, 4, 3], [13, 12, 11, 10, 9, 8, 7, 6, 5, 4, 3], [11, 10, 9, 8, 7, 6, 5, 4, 3], [15, 11, 10, 9, 8, 7, 6, 5, 4, 3], [16, 15, 11, 10, 9, 8, 7, 6, 5, 4, 3], [14, 13, 12, 17, 16, 15, 11, 10, 9, 8, 7, 6, 5, 4, 3], [18, 14, 13, 12, 17, 16, 15, 11, 10, 9, 8, 7, 6, 5, 4, 3], [11, 10, 9, 8, 7, 6, 5, 4, 3, 2, 1, 0], [19, 18, 14, 13, 12, 17, 16, 15, 20, 11, 10, 9, 8, 7, 6, 5, 4, 3, 2, 1, 0]])) (
 .skip))))))))) (
 .seq (
 .seq (
 .region [zj 67 9,
 zi 68 (.un .not (.t 67))] none) (
 .cond (.t 68) (
 .seq (
 .region [zi 4 (.mov (.c (.int .i64 0))),
 zi 5 (.mov (.c (.bool false)))] none) (
 .ret)) (
 .skip))) (
 .seq (
 .region [zj 69 8,
 zj 4 69,
 zi 5 (.mov (.c (.bool true)))] none) (
 .ret))))))⟩
def K90 : List (List Nat) := [[1009000, 0, 1, 10, 11, 12, 2000000, 0, 1, 4, 5]]
def Hn90 : List (Nat × Nat) := []
def F109 : Fun := ⟨1, 8, [(3, none)],
 .seq (
 .region [zi 2 (.box 4 (.t 0)),
 zi 3 (.mov (.c (.bool false)))] none) (
 .seq (
 .region [zi 4 (.load true 4 [.int .i64, .int .i64, .str, .slice 4] (.t 2)),
 zi 5 (.load false 1 [] (.t 1)),
 zi 6 (.call 86 [.t 4, .t 5]),
 zi 7 (.un .not (.t 6)),
 zj 3 7] none) (
 .ret))⟩
def K109 : List (List Nat) := []
def Hn109 : List (Nat × Nat) := []
def F108 : Fun := ⟨2, 9, [(4, none)],
 .seq (
 .region [zi 4 (.mov (.c (.bool false)))] none) (
 .seq (
 .region [zj 5 0,
 zj 6 1,
 zi 7 (.call 133 [.t 5, .t 6]),
 zi 8 (.bin .geq (.t 7) (.c (.int .i64 0))),
 zj 4 8] none) (
 .ret))⟩
def K108 : List (List Nat) := []
def Hn108 : List (Nat × Nat) := []
def F110 : Fun := ⟨1, 20, [(2, none)],
 .seq (
 .region [zi 2 (.mov (.c (.int .i64 0)))] none) (
 .seq (
 .seq (
 .region [zj 3 0] none) (
 .block 0 (
 .seq (
 .seq (
 .region [zi 5 (.bin .eql (.t 3) (.c (.int .i64 1))),
 zj 4 5] none) (
 .cond (.t 4) (
 .skip) (
 .seq (
 .region [zi 6 (.bin .eql (.t 3) (.c (.int .i64 2))),
 zj 4 6] none) (
 .cond (.t 4) (
 .skip) (
 .seq (
 .region [zi 7 (.bin .eql (.t 3) (.c (.int .i64 3))),
 zj 4 7] none) (
 .cond (.t 4) (
 .skip) (
 .region [zi 8 (.bin .eql (.t 3) (.c (.int .i64 4))),
 zj 4 8] none))))))) (
 .cond (.t 4) (
 .seq (
 .region [zi 2 (.mov (.c (.int .i64 0)))] none) (
 .ret)) (
 .seq (
 .seq (
 .region [zi 10 (.bin .eql (.t 3) (.c (.int .i64 9))),
 zj 9 10] none) (
 .cond (.t 9) (
 .skip) (
 .region [zi 11 (.bin .eql (.t 3) (.c (.int .i64 16))),
 zj 9 11] none))) (
 .cond (.t 9) (
 .seq (
 .region [zi 2 (.mov (.c (.int .i64 1)))] none) (
 .ret)) (
 .seq (
 .region [zi 13 (.bin .eql (.t 3) (.c (.int .i64 19))),
 zj 12 13] none) (
 .cond (.t 12) (
 .seq (
 .region [zi 2 (.mov (.c (.int .i64 3)))] none) (
 .ret)) (
 .skip))))))))) (
 .seq (
 .seq (
 .region [zj 14 0,
 zi 15 (.bin .geq (.t 14) (.c (.int .i64 5))),
 zj 16 15,
 ⟨some 17, .mov (.t 0), some (16, true)⟩,
 ⟨some 18, .bin .leq (.t 17) (.c (.int .i64 18)), some (16, true)⟩,
 zi 19 (.pick (.t 16) (.t 18) (.c (.bool false)))] none) (
 .cond (.t 19) (
 .seq (
 .region [zi 2 (.mov (.c (.int .i64 2)))] none) (
 .ret)) (
 .skip))) (
 .seq (
 .region [zi 2 (.mov (.c (.int .i64 (-1))))] none) (
 .ret))))⟩
def K110 : List (List Nat) := []
def Hn110 : List (Nat × Nat) := []
def F111 : Fun := ⟨1, 34, [(2, none)],
 .seq (
 .region [zi 2 (.mov (.c (.bool false)))] none) (
 .seq (
 .region [zj 7 0,
 zi 8 (.call 134 [.t 7]),
 zj 6 8,
 zi 9 (.ext (.t 6) 0),
 zi 10 (.ext (.t 6) 1),
 zi 11 (.ext (.t 6) 2),
 zj 3 9,
 zj 4 10,
 zj 5 11] none) (
 .seq (
 .region [zj 12 5,
 zi 13 (.bin .eql (.t 12) (.c (.int .i64 0))),
 zj 14 13,
 ⟨some 15, .mov (.t 3), some (14, true)⟩,
 ⟨some 16, .len .l (.t 15), some (14, true)⟩,
 ⟨some 17, .bin .eql (.t 16) (.c (.int .i64 1)), some (14, true)⟩,
 zi 18 (.pick (.t 14) (.t 17) (.c (.bool false))),
 zj 19 18,
 ⟨some 20, .mov (.t 3), some (19, true)⟩,
 ⟨some 21, .iaddr 3 [.int .i64, .int .i64, .str] (.t 20) (.c (.int .i64 0)), some (19, true)⟩,
 ⟨some 22, .faddr 0 (.t 21), some (19, true)⟩,
 ⟨some 23, .load false 1 [.int .i64] (.t 22), some (19, true)⟩,
 ⟨some 24, .bin .eql (.t 23) (.c (.int .i64 1)), some (19, true)⟩,
 zi 25 (.pick (.t 19) (.t 24) (.c (.bool false))),
 zj 26 25,
 ⟨some 27, .mov (.t 3), some (26, true)⟩,
 ⟨some 28, .iaddr 3 [.int .i64, .int .i64, .str] (.t 27) (.c (.int .i64 0)), some (26, true)⟩,
 ⟨some 29, .faddr 2 (.t 28), some (26, true)⟩,
 ⟨some 30, .load false 1 [.str] (.t 29), some (26, true)⟩,
 ⟨some 31, .mov (.t 0), some (26, true)⟩,
 ⟨some 32, .bin .eql (.t 30) (.t 31), some (26, true)⟩,
 zi 33 (.pick (.t 26) (.t 32) (.c (.bool false))),
 zj 2 33] none) (
 .ret)))⟩
def K111 : List (List Nat) := []
def Hn111 : List (Nat × Nat) := []
def F74 : Fun := ⟨1, 9, [(2, none)],
 .seq (
 .region [zi 2 (.mov (.c (.bool false)))] none) (
 .seq (
 .region [zj 3 0,
 zi 4 (.bin .geq (.t 3) (.c (.int .i64 1))),
 zj 5 4,
 ⟨some 6, .mov (.t 0), some (5, true)⟩,
 ⟨some 7, .bin .leq (.t 6) (.c (.int .i64 5)), some (5, true)⟩,
 zi 8 (.pick (.t 5) (.t 7) (.c (.bool false))),
 zj 2 8] none) (
 .ret))⟩
def K74 : List (List Nat) := []
def Hn74 : List (Nat × Nat) := []
def F112 : Fun := ⟨2, 24, [(4, none), (5, none)],
 .seq (
 .region [zi 4 (.mov (.c (.int .i64 0))),
 zi 5 (.mov (.c (.bool false)))] none) (
 .seq (
 .seq (
 .region [zj 6 0] none) (
 .block 0 (
 .seq (
 .region [zi 8 (.bin .eql (.t 6) (.c (.int .i64 16))),
 zj 7 8] none) (
 .cond (.t 7) (
 .seq (
 .region [zj 9 1,
 zi 10 (.bin .eql (.t 9) (.c (.int .i64 5))),
 zi 4 (.mov (.c (.int .i64 5))),
 zj 5 10] none) (
 .ret)) (
 .seq (
 .region [zi 12 (.bin .eql (.t 6) (.c (.int .i64 9))),
 zj 11 12] none) (
 .cond (.t 11) (
 .seq (
 .region [zj 13 1,
 zj 14 1,
 zi 15 (.bin .eql (.t 14) (.c (.int .i64 1))),
 zj 16 15,
 ⟨some 17, .mov (.t 1), some (16, false)⟩,
 ⟨some 18, .bin .eql (.t 17) (.c (.int .i64 2)), some (16, false)⟩,
 zi 19 (.pick (.t 16) (.c (.bool true)) (.t 18)),
 zj 20 19,
 ⟨some 21, .mov (.t 1), some (20, false)⟩,
 ⟨some 22, .bin .eql (.t 21) (.c (.int .i64 3)), some (20, false)⟩,
 zi 23 (.pick (.t 20) (.c (.bool true)) (.t 22)),
 zj 4 13,
 zj 5 23] none) (
 .ret)) (
 .skip))))))) (
 .seq (
 .region [zi 4 (.mov (.c (.int .i64 0))),
 zi 5 (.mov (.c (.bool false)))] none) (
 .ret)))⟩
def K112 : List (List Nat) := []
def Hn112 : List (Nat × Nat) := []
def F113 : Fun := ⟨3, 56, [(6, none), (7, none)],
 .seq (
 .region [zi 6 (.mov (.c (.int .i64 0))),
 zi 7 (.mov (.c (.bool false)))] none) (
 .seq (
 .seq (
 .region [zj 9 0] none) (
 .block 0 (
 .seq (
 .seq (
 .region [zi 11 (.bin .eql (.t 9) (.c (.int .i64 10))),
 zj 10 11] none) (
 .cond (.t 10) (
 .skip) (
 .region [zi 12 (.bin .eql (.t 9) (.c (.int .i64 11))),
 zj 10 12] none))) (
 .cond (.t 10) (
 .seq (
 .region [zj 13 1,
 zj 14 2,
 zi 15 (.bin .eql (.t 13) (.t 14)),
 zi 6 (.mov (.c (.int .i64 5))),
 zj 7 15] none) (
 .ret)) (
 .seq (
 .seq (
 .region [zi 17 (.bin .eql (.t 9) (.c (.int .i64 12))),
 zj 16 17] none) (
 .cond (.t 16) (
 .skip) (
 .region [zi 18 (.bin .eql (.t 9) (.c (.int .i64 13))),
 zj 16 18] none))) (
 .cond (.t 16) (
 .seq (
 .region [zj 19 1,
 zj 20 2,
 zi 21 (.bin .eql (.t 19) (.t 20)),
 zj 22 21,
 ⟨some 23, .mov (.t 1), some (22, true)⟩,
 ⟨some 24, .bin .neq (.t 23) (.c (.int .i64 5)), some (22, true)⟩,
 zi 25 (.pick (.t 22) (.t 24) (.c (.bool false))),
 zi 6 (.mov (.c (.int .i64 5))),
 zj 7 25] none) (
 .ret)) (
 .seq (
 .seq (
 .region [zi 27 (.bin .eql (.t 9) (.c (.int .i64 14))),
 zj 26 27] none) (
 .cond (.t 26) (
 .skip) (
 .region [zi 28 (.bin .eql (.t 9) (.c (.int .i64 15))),
 zj 26 28] none))) (
 .cond (.t 26) (
 .seq (
 .region [zj 29 1,
 zj 30 2,
 zi 31 (.bin .eql (.t 29) (.t 30)),
 zj 32 31,
 ⟨some 33, .mov (.t 1), some (32, true)⟩,
 ⟨some 34, .bin .eql (.t 33) (.c (.int .i64 5)), some (32, true)⟩,
 zi 35 (.pick (.t 32) (.t 34) (.c (.bool false))),
 zi 6 (.mov (.c (.int .i64 5))),
 zj 7 35] none) (
 .ret)) (
 .seq (
 .seq (
 .region [zi 37 (.bin .eql (.t 9) (.c (.int .i64 17))),
 zj 36 37] none) (
 .cond (.t 36) (
 .skip) (
 .region [zi 38 (.bin .eql (.t 9) (.c (.int .i64 18))),
 zj 36 38] none))) (
 .cond (.t 36) (
 .seq (
 .region [zj 39 1,
 zj 40 1,
 zj 41 2,
 zi 42 (.bin .eql (.t 40) (.t 41)),
 zj 43 42,
 ⟨some 44, .mov (.t 1), some (43, true)⟩,
 ⟨some 45, .bin .neq (.t 44) (.c (.int .i64 5)), some (43, true)⟩,
 zi 46 (.pick (.t 43) (.t 45) (.c (.bool false))),
 zj 6 39,
 zj 7 46] none) (
 .ret)) (
 .skip))))))))))) (
 .seq (
 .region [zi 47 (.call 135 []),
 zj 48 0,
 zj 49 1,
 zj 50 2,
 zi 51 (.build [.int .i64 0, .int .i64 0, .int .i64 0] [(0, 1, (.t 48)), (1, 1, (.t 49)), (2, 1, (.t 50))]),
 zi 52 (.look (true, [.i, .i, .i]) (.int .i64 0) false (.t 47) (.t 51)),
 zj 8 52] none) (
 .seq (
 .region [zj 53 8,
 zj 54 8,
 zi 55 (.bin .neq (.t 54) (.c (.int .i64 0))),
 zj 6 53,
 zj 7 55] none) (
 .ret))))⟩
def K113 : List (List Nat) := []
def Hn113 : List (Nat × Nat) := []
def F133 : Fun := ⟨2, 19, [(4, none)],
 .seq (
 .region [zi 4 (.mov (.c (.int .i64 0)))] none) (
 .seq (
 .seq (
 .region [zj 6 0,
 zi 7 (.len .l (.t 6)),
 zi 8 (.mov (.c (.int .i64 0)))] none) (
 .block 0 (
 .loop [1013300, 0, 1, 7, 8, 2000000, 4] (
 .seq (
 .region [zi 9 (.bin .lss (.t 8) (.t 7))] none) (
 .seq (
 .cond (.t 9) (
 .skip) (
 .exit 0)) (
 .seq (
 .block 1 (
 .seq (
 .region [zj 10 8,
 zj 5 10] none) (
 .seq (
 .region [zj 11 1,
 zj 12 0,
 zj 13 5,
 zi 14 (.iaddr 4 [.int .i64, .int .i64, .str, .slice 4] (.t 12) (.t 13)),
 zi 15 (.load true 4 [.int .i64, .int .i64, .str, .slice 4] (.t 14)),
 zi 16 (.callv (.t 11) [.t 15])] none) (
 .cond (.t 16) (
 .seq (
 .region [zj 17 5,
 zj 4 17] none) (
 .ret)) (
 .skip))))) (
 .region [zi 18 (.bin .add (.t 8) (.c (.int .i64 1))),
 zj 8 18] none))))))) (
 .seq (
 .region [zi 4 (.mov (.c (.int .i64 (-1))))] none) (
 .ret)))⟩
def K133 : List (List Nat) := [[1013300, 0, 1, 7, 8, 2000000, 4]]
def Hn133 : List (Nat × Nat) := []
def F134 : Fun := ⟨1, 47, [(2, none), (3, none), (4, none)],
 .seq (
 .region [zi 2 (.mov (.c (.nils 3))),
 zi 3 (.mov (.c (.int .i64 0))),
 zi 4 (.mov (.c (.int .i64 0)))] none) (
 .seq (
 .seq (
 .region [zj 10 0,
 zi 11 (.len .s (.t 10)),
 zi 12 (.bin .gtr (.t 11) (.c (.int .i64 2048)))] none) (
 .cond (.t 12) (
 .seq (
 .region [zi 2 (.mov (.c (.nils 3))),
 zi 3 (.mov (.c (.int .i64 0))),
 zi 4 (.mov (.c (.int .i64 5)))] none) (
 .ret)) (
 .skip))) (
 .seq (
 .region [zi 5 (.mov (.c (.nils 3)))] none) (
 .seq (
 .region [zi 6 (.mov (.c (.int .i64 1)))] none) (
 .block 0 (
 .loop [1013400, 0, 5, 6, 2000000, 2, 3, 4] (
 .block 1 (
 .seq (
 .region [zj 13 0,
 zi 14 (.call 151 [.t 13]),
 zj 7 14] none) (
 .seq (
 .region [zj 15 6,
 zj 16 0,
 zj 17 7,
 zi 18 (.slcs (.t 16) none (some (.t 17))),
 zi 19 (.call 152 [.t 18, .c (.str [10])]),
 zi 20 (.bin .add (.t 15) (.t 19)),
 zj 6 20] none) (
 .seq (
 .region [zj 21 0,
 zj 22 7,
 zi 23 (.slcs (.t 21) (some (.t 22)) none),
 zj 0 23] none) (
 .seq (
 .seq (
 .region [zj 24 0,
 zi 25 (.bin .eql (.t 24) (.c (.str [])))] none) (
 .cond (.t 25) (
 .seq (
 .region [zj 26 5,
 zj 2 26,
 zi 3 (.mov (.c (.int .i64 0))),
 zi 4 (.mov (.c (.int .i64 0)))] none) (
 .ret)) (
 .skip))) (
 .seq (
 .region [zj 28 0,
 zi 29 (.call 153 [.t 28]),
 zj 27 29,
 zi 30 (.ext (.t 27) 0),
 zi 31 (.ext (.t 27) 1),
 zi 8 (.alloc (.agg [.int .i64 0, .int .i64 0, .str []])),
 ⟨none, .store 3 (.t 8) (.t 30), none⟩,
 zj 9 31] none) (
 .seq (
 .seq (
 .region [zj 32 9,
 zi 33 (.bin .neq (.t 32) (.c (.int .i64 0)))] none) (
 .cond (.t 33) (
 .seq (
 .region [zj 34 6,
 zj 35 9,
 zi 2 (.mov (.c (.nils 3))),
 zj 3 34,
 zj 4 35] none) (
 .ret)) (
 .skip))) (
 .seq (
 .region [zj 36 6,
 zi 37 (.faddr 1 (.t 8)),
 ⟨none, .store 1 (.t 37) (.t 36), none⟩] none) (
 .seq (
 .region [zj 38 5,
 zi 39 (.load true 3 [.int .i64, .int .i64, .str] (.t 8)),
 zi 40 (.bslice 3 (.agg [.int .i64 0, .int .i64 0, .str []]) 1 [(0, (.t 39))]),
 zi 41 (.app 3 32 (.t 38) (.t 40)),
 zj 5 41] none) (
 .region [zj 42 0,
 zi 43 (.faddr 2 (.t 8)),
 zi 44 (.load false 1 [.str] (.t 43)),
 zi 45 (.len .s (.t 44)),
 zi 46 (.slcs (.t 42) (some (.t 45)) none),
 zj 0 46] none)))))))))))))))⟩
def K134 : List (List Nat) := [[1013400, 0, 5, 6, 2000000, 2, 3, 4]]
def Hn134 : List (Nat × Nat) := [(2, 3), (5, 3)]
def F135 : Fun := ⟨0, 49, [(0, none)],
 .seq (
 .region [zi 0 (.mov (.c (.nilm)))] none) (
 .seq (
 .region [zi 6 (.mkm),
 zi 7 (.build [.int .i64 0, .int .i64 0, .int .i64 0] [(0, 1, (.c (.int .i64 5))), (1, 1, (.c (.int .i64 4))), (2, 1, (.c (.int .i64 1)))]),
 ⟨none, .mupd (true, [.i, .i, .i]) (.t 6) (.t 7) (.c (.int .i64 4)), none⟩,
 zi 8 (.build [.int .i64 0, .int .i64 0, .int .i64 0] [(0, 1, (.c (.int .i64 6))), (1, 1, (.c (.int .i64 4))), (2, 1, (.c (.int .i64 1)))]),
 ⟨none, .mupd (true, [.i, .i, .i]) (.t 6) (.t 8) (.c (.int .i64 4)), none⟩,
 zi 9 (.build [.int .i64 0, .int .i64 0, .int .i64 0] [(0, 1, (.c (.int .i64 6))), (1, 1, (.c (.int .i64 4))), (2, 1, (.c (.int .i64 4)))]),
 ⟨none, .mupd (true, [.i, .i, .i]) (.t 6) (.t 9) (.c (.int .i64 1)), none⟩,
 zi 10 (.build [.int .i64 0, .int .i64 0, .int .i64 0] [(0, 1, (.c (.int .i64 7))), (1, 1, (.c (.int .i64 1))), (2, 1, (.c (.int .i64 1)))]),
 ⟨none, .mupd (true, [.i, .i, .i]) (.t 6) (.t 10) (.c (.int .i64 1)), none⟩,
 zi 11 (.build [.int .i64 0, .int .i64 0, .int .i64 0] [(0, 1, (.c (.int .i64 7))), (1, 1, (.c (.int .i64 2))), (2, 1, (.c (.int .i64 3)))]),
 ⟨none, .mupd (true, [.i, .i, .i]) (.t 6) (.t 11) (.c (.int .i64 2)), none⟩,
 zi 12 (.build [.int .i64 0, .int .i64 0, .int .i64 0] [(0, 1, (.c (.int .i64 7))), (1, 1, (.c (.int .i64 3))), (2, 1, (.c (.int .i64 2)))]),
 ⟨none, .mupd (true, [.i, .i, .i]) (.t 6) (.t 12) (.c (.int .i64 2)), none⟩,
 zi 13 (.build [.int .i64 0, .int .i64 0, .int .i64 0] [(0, 1, (.c (.int .i64 8))), (1, 1, (.c (.int .i64 1))), (2, 1, (.c (.int .i64 1)))]),
 ⟨none, .mupd (true, [.i, .i, .i]) (.t 6) (.t 13) (.c (.int .i64 1)), none⟩,
 zi 14 (.build [.int .i64 0, .int .i64 0, .int .i64 0] [(0, 1, (.c (.int .i64 8))), (1, 1, (.c (.int .i64 2))), (2, 1, (.c (.int .i64 2)))]),
 ⟨none, .mupd (true, [.i, .i, .i]) (.t 6) (.t 14) (.c (.int .i64 1)), none⟩,
 zj 15 6,
 zj 1 15] (some [[], [], [0, 1], [], [0, 3], [], [0, 5], [], [0, 7], [], [0, 9], [], [0, 11], [], [0, 13], [], [0, 15], [2, 1, 4, 3, 6, 5, 8, 7, 10, 9, 12, 11, 14, 13, 16, 0, 15], [17, 2, 1, 4, 3, 6, 5, 8, 7, 10, 9, 12, 11, 14, 13, 16, 0, 15]])) (
 .seq (
 .seq (
 .region [zi 16 (.build [.int .i64 0, .int .i64 0] [(0, 1, (.c (.int .i64 2))), (1, 1, (.c (.int .i64 3)))]),
 zi 17 (.mov (.c (.int .i64 0)))] none) (
 .block 0 (
 .loop [1013500, 1, 16, 17, 2000000, 1] (
 .seq (
 .region [zi 18 (.bin .lss (.t 17) (.c (.int .i64 2)))] none) (
 .seq (
 .cond (.t 18) (
 .skip) (
 .exit 0)) (
 .seq (
 .block 1 (
 .seq (
 .region [zi 19 (.idxa false 2 1 (.t 16) (.t 17)),
 zj 3 19] none) (
 .seq (
 .region [zj 20 1,
 zj 21 3,
 zi 22 (.build [.int .i64 0, .int .i64 0, .int .i64 0] [(0, 1, (.c (.int .i64 7))), (1, 1, (.c (.int .i64 1))), (2, 1, (.t 21))]),
 zj 23 3,
 ⟨none, .mupd (true, [.i, .i, .i]) (.t 20) (.t 22) (.t 23), none⟩] none) (
 .seq (
 .region [zj 24 1,
 zj 25 3,
 zi 26 (.build [.int .i64 0, .int .i64 0, .int .i64 0] [(0, 1, (.c (.int .i64 7))), (1, 1, (.t 25)), (2, 1, (.c (.int .i64 1)))]),
 zj 27 3,
 ⟨none, .mupd (true, [.i, .i, .i]) (.t 24) (.t 26) (.t 27), none⟩] none) (
 .region [zj 28 1,
 zj 29 3,
 zi 30 (.build [.int .i64 0, .int .i64 0, .int .i64 0] [(0, 1, (.c (.int .i64 8))), (1, 1, (.t 29)), (2, 1, (.c (.int .i64 1)))]),
 zj 31 3,
 ⟨none, .mupd (true, [.i, .i, .i]) (.t 28) (.t 30) (.t 31), none⟩] none))))) (
 .region [zi 32 (.bin .add (.t 17) (.c (.int .i64 1))),
 zj 17 32] none))))))) (
 .seq (
 .seq (
 .region [zi 33 (.build [.int .i64 0, .int .i64 0, .int .i64 0] [(0, 1, (.c (.int .i64 1))), (1, 1, (.c (.int .i64 2))), (2, 1, (.c (.int .i64 3)))]),
 zi 34 (.mov (.c (.int .i64 0)))] none) (
 .block 2 (
 .loop [1013501, 1, 33, 34, 2000000, 1] (
 .seq (
 .region [zi 35 (.bin .lss (.t 34) (.c (.int .i64 3)))] none) (
 .seq (
 .cond (.t 35) (
 .skip) (
 .exit 2)) (
 .seq (
 .block 3 (
 .seq (
 .region [zi 36 (.idxa false 3 1 (.t 33) (.t 34)),
 zj 5 36] none) (
 .seq (
 .region [zj 37 1,
 zj 38 5,
 zj 39 5,
 zi 40 (.build [.int .i64 0, .int .i64 0, .int .i64 0] [(0, 1, (.c (.int .i64 5))), (1, 1, (.t 38)), (2, 1, (.t 39))]),
 zj 41 5,
 ⟨none, .mupd (true, [.i, .i, .i]) (.t 37) (.t 40) (.t 41), none⟩] none) (
 .region [zj 42 1,
 zj 43 5,
 zj 44 5,
 zi 45 (.build [.int .i64 0, .int .i64 0, .int .i64 0] [(0, 1, (.c (.int .i64 6))), (1, 1, (.t 43)), (2, 1, (.t 44))]),
 zj 46 5,
 ⟨none, .mupd (true, [.i, .i, .i]) (.t 42) (.t 45) (.t 46), none⟩] none)))) (
 .region [zi 47 (.bin .add (.t 34) (.c (.int .i64 1))),
 zj 34 47] none))))))) (
 .seq (
 .region [zj 48 1,
 zj 0 48] none) (
 .ret)))))⟩
def K135 : List (List Nat) := [[1013500, 1, 16, 17, 2000000, 1], [1013501, 1, 33, 34, 2000000, 1]]
def Hn135 : List (Nat × Nat) := []
def F151 : Fun := ⟨1, 28, [(2, none)],
 .seq (
 .region [zi 2 (.mov (.c (.int .i64 0)))] none) (
 .seq (
 .region [zi 3 (.mov (.c (.int .i64 0)))] none) (
 .seq (
 .block 0 (
 .loop [1015100, 0, 3, 2000000, 2, 3] (
 .seq (
 .seq (
 .region [zj 4 3,
 zj 5 0,
 zi 6 (.len .s (.t 5)),
 zi 7 (.bin .lss (.t 4) (.t 6))] none) (
 .cond (.t 7) (
 .skip) (
 .exit 0))) (
 .block 1 (
 .seq (
 .region [zj 8 0,
 zj 9 3,
 zi 10 (.idxs (.t 8) (.t 9))] none) (
 .block 2 (
 .seq (
 .seq (
 .region [zi 13 (.bin .eql (.t 10) (.c (.int .u8 32))),
 zj 12 13] none) (
 .cond (.t 12) (
 .skip) (
 .seq (
 .region [zi 14 (.bin .eql (.t 10) (.c (.int .u8 9))),
 zj 12 14] none) (
 .cond (.t 12) (
 .skip) (
 .region [zi 15 (.bin .eql (.t 10) (.c (.int .u8 10))),
 zj 12 15] none))))) (
 .cond (.t 12) (
 .region [zj 16 3,
 zi 17 (.bin .add (.t 16) (.c (.int .i64 1))),
 zj 3 17] none) (
 .seq (
 .region [zi 19 (.bin .eql (.t 10) (.c (.int .u8 35))),
 zj 18 19] none) (
 .cond (.t 18) (
 .region [zj 20 3,
 zj 21 0,
 zj 22 3,
 zi 23 (.slcs (.t 21) (some (.t 22)) none),
 zi 24 (.call 164 [.t 23, .f 165]),
 zi 25 (.len .s (.t 24)),
 zi 26 (.bin .add (.t 20) (.t 25)),
 zj 3 26] none) (
 .seq (
 .region [zj 11 3,
 zj 2 11] none) (
 .ret)))))))))))) (
 .seq (
 .region [zj 27 3,
 zj 2 27] none) (
 .ret))))⟩
def K151 : List (List Nat) := [[1015100, 0, 3, 2000000, 2, 3]]
def Hn151 : List (Nat × Nat) := []
def F153 : Fun := ⟨1, 47, [(2, some (true, 3)), (3, none)],
 .seq (
 .region [zi 2 (.alloc (.agg [.int .i64 0, .int .i64 0, .str []])),
 zi 3 (.mov (.c (.int .i64 0)))] none) (
 .seq (
 .seq (
 .region [zj 8 0,
 zi 9 (.idxs (.t 8) (.c (.int .i64 0))),
 zi 10 (.conv .i32 (.t 9)),
 zj 4 10] none) (
 .block 0 (
 .seq (
 .region [zj 12 4,
 zi 13 (.call 169 [.t 12]),
 zj 11 13] none) (
 .cond (.t 11) (
 .seq (
 .region [zj 14 0,
 zi 15 (.call 164 [.t 14, .f 170]),
 zj 5 15] none) (
 .seq (
 .seq (
 .region [zj 16 5,
 zi 17 (.call 171 [.t 16])] none) (
 .cond (.t 17) (
 .seq (
 .region [zj 18 5,
 zi 19 (.build [.int .i64 0, .int .i64 0, .str []] [(0, 1, (.c (.int .i64 5))), (2, 1, (.t 18))]),
 ⟨none, .store 3 (.t 2) (.t 19), none⟩,
 zi 3 (.mov (.c (.int .i64 0)))] none) (
 .ret)) (
 .skip))) (
 .seq (
 .seq (
 .region [zj 20 5,
 zi 21 (.len .s (.t 20)),
 zi 22 (.bin .gtr (.t 21) (.c (.int .i64 16)))] none) (
 .cond (.t 22) (
 .seq (
 .region [zi 23 (.build [.int .i64 0, .int .i64 0, .str []] []),
 ⟨none, .store 3 (.t 2) (.t 23), none⟩,
 zi 3 (.mov (.c (.int .i64 4)))] none) (
 .ret)) (
 .skip))) (
 .seq (
 .region [zj 24 5,
 zi 25 (.build [.int .i64 0, .int .i64 0, .str []] [(0, 1, (.c (.int .i64 1))), (2, 1, (.t 24))]),
 ⟨none, .store 3 (.t 2) (.t 25), none⟩,
 zi 3 (.mov (.c (.int .i64 0)))] none) (
 .ret))))) (
 .seq (
 .region [zj 27 4,
 zi 28 (.call 172 [.t 27]),
 zj 26 28] none) (
 .cond (.t 26) (
 .seq (
 .region [zj 29 0,
 zi 30 (.call 164 [.t 29, .f 174]),
 zi 31 (.call 173 [.t 30]),
 zi 32 (.ext (.t 31) 0),
 zi 33 (.ext (.t 31) 1),
 ⟨none, .store 3 (.t 2) (.t 32), none⟩,
 zj 3 33] none) (
 .ret)) (
 .skip))))))) (
 .seq (
 .seq (
 .region [zi 34 (.call 175 []),
 zi 35 (.len .l (.t 34)),
 zi 36 (.mov (.c (.int .i64 0)))] none) (
 .block 1 (
 .loop [1015300, 0, 2, 34, 35, 36, 2000000, 2, 3] (
 .seq (
 .region [zi 37 (.bin .lss (.t 36) (.t 35))] none) (
 .seq (
 .cond (.t 37) (
 .skip) (
 .exit 1)) (
 .seq (
 .block 2 (
 .seq (
 .region [zi 38 (.iaddr 1 [.str] (.t 34) (.t 36)),
 zi 39 (.load false 1 [.str] (.t 38)),
 zj 7 39] none) (
 .seq (
 .region [zj 40 0,
 zj 41 7,
 zi 42 (.call 176 [.t 40, .t 41])] none) (
 .cond (.t 42) (
 .seq (
 .region [zj 43 7,
 zi 44 (.build [.int .i64 0, .int .i64 0, .str []] [(0, 1, (.c (.int .i64 4))), (2, 1, (.t 43))]),
 ⟨none, .store 3 (.t 2) (.t 44), none⟩,
 zi 3 (.mov (.c (.int .i64 0)))] none) (
 .ret)) (
 .skip))))) (
 .region [zi 45 (.bin .add (.t 36) (.c (.int .i64 1))),
 zj 36 45] none))))))) (
 .seq (
 .region [zi 46 (.build [.int .i64 0, .int .i64 0, .str []] []),
 ⟨none, .store 3 (.t 2) (.t 46), none⟩,
 zi 3 (.mov (.c (.int .i64 2)))] none) (
 .ret))))⟩
def K153 : List (List Nat) := [[1015300, 0, 2, 34, 35, 36, 2000000, 2, 3]]
def Hn153 : List (Nat × Nat) := []
def F164 : Fun := ⟨2, 23, [(4, none)],
 .seq (
 .region [zi 4 (.mov (.c (.str [])))] none) (
 .seq (
 .region [zi 5 (.mov (.c (.int .i64 0)))] none) (
 .seq (
 .block 0 (
 .loop [1016400, 0, 1, 5, 2000000, 0, 5] (
 .seq (
 .seq (
 .region [zj 6 5,
 zj 7 0,
 zi 8 (.len .s (.t 7)),
 zi 9 (.bin .lss (.t 6) (.t 8)),
 zj 10 9,
 ⟨some 11, .mov (.t 1), some (10, true)⟩,
 ⟨some 12, .mov (.t 0), some (10, true)⟩,
 ⟨some 13, .mov (.t 5), some (10, true)⟩,
 ⟨some 14, .idxs (.t 12) (.t 13), some (10, true)⟩,
 ⟨some 15, .conv .i32 (.t 14), some (10, true)⟩,
 ⟨some 16, .callv (.t 11) [.t 15], some (10, true)⟩,
 zi 17 (.pick (.t 10) (.t 16) (.c (.bool false)))] none) (
 .cond (.t 17) (
 .skip) (
 .exit 0))) (
 .block 1 (
 .region [zj 18 5,
 zi 19 (.bin .add (.t 18) (.c (.int .i64 1))),
 zj 5 19] none))))) (
 .seq (
 .region [zj 20 0,
 zj 21 5,
 zi 22 (.slcs (.t 20) none (some (.t 21))),
 zj 4 22] none) (
 .ret))))⟩
def K164 : List (List Nat) := [[1016400, 0, 1, 5, 2000000, 0, 5]]
def Hn164 : List (Nat × Nat) := []
def F165 : Fun := ⟨1, 5, [(2, none)],
 .seq (
 .region [zi 2 (.mov (.c (.bool false)))] none) (
 .seq (
 .region [zj 3 0,
 zi 4 (.bin .neq (.t 3) (.c (.int .i32 10))),
 zj 2 4] none) (
 .ret))⟩
def K165 : List (List Nat) := []
def Hn165 : List (Nat × Nat) := []
def F169 : Fun := ⟨1, 9, [(2, none)],
 .seq (
 .region [zi 2 (.mov (.c (.bool false)))] none) (
 .seq (
 .region [zj 3 0,
 zi 4 (.bin .geq (.t 3) (.c (.int .i32 97))),
 zj 5 4,
 ⟨some 6, .mov (.t 0), some (5, true)⟩,
 ⟨some 7, .bin .leq (.t 6) (.c (.int .i32 122)), some (5, true)⟩,
 zi 8 (.pick (.t 5) (.t 7) (.c (.bool false))),
 zj 2 8] none) (
 .ret))⟩
def K169 : List (List Nat) := []
def Hn169 : List (Nat × Nat) := []
def F170 : Fun := ⟨1, 13, [(2, none)],
 .seq (
 .region [zi 2 (.mov (.c (.bool false)))] none) (
 .seq (
 .region [zj 3 0,
 zi 4 (.call 169 [.t 3]),
 zj 5 4,
 ⟨some 6, .mov (.t 0), some (5, false)⟩,
 ⟨some 7, .call 172 [.t 6], some (5, false)⟩,
 zi 8 (.pick (.t 5) (.c (.bool true)) (.t 7)),
 zj 9 8,
 ⟨some 10, .mov (.t 0), some (9, false)⟩,
 ⟨some 11, .bin .eql (.t 10) (.c (.int .i32 95)), some (9, false)⟩,
 zi 12 (.pick (.t 9) (.c (.bool true)) (.t 11)),
 zj 2 12] none) (
 .ret))⟩
def K170 : List (List Nat) := []
def Hn170 : List (Nat × Nat) := []
def F171 : Fun := ⟨1, 6, [(2, none)],
 .seq (
 .region [zi 2 (.mov (.c (.bool false)))] none) (
 .seq (
 .region [zi 3 (.call 184 []),
 zj 4 0,
 zi 5 (.call 183 [.t 3, .t 4]),
 zj 2 5] none) (
 .ret))⟩
def K171 : List (List Nat) := []
def Hn171 : List (Nat × Nat) := []
def F172 : Fun := ⟨1, 9, [(2, none)],
 .seq (
 .region [zi 2 (.mov (.c (.bool false)))] none) (
 .seq (
 .region [zj 3 0,
 zi 4 (.bin .geq (.t 3) (.c (.int .i32 48))),
 zj 5 4,
 ⟨some 6, .mov (.t 0), some (5, true)⟩,
 ⟨some 7, .bin .leq (.t 6) (.c (.int .i32 57)), some (5, true)⟩,
 zi 8 (.pick (.t 5) (.t 7) (.c (.bool false))),
 zj 2 8] none) (
 .ret))⟩
def K172 : List (List Nat) := []
def Hn172 : List (Nat × Nat) := []
def F174 : Fun := ⟨1, 13, [(2, none)],
 .seq (
 .region [zi 2 (.mov (.c (.bool false)))] none) (
 .seq (
 .region [zj 3 0,
 zi 4 (.call 170 [.t 3]),
 zj 5 4,
 ⟨some 6, .mov (.t 0), some (5, false)⟩,
 ⟨some 7, .bin .eql (.t 6) (.c (.int .i32 46)), some (5, false)⟩,
 zi 8 (.pick (.t 5) (.c (.bool true)) (.t 7)),
 zj 9 8,
 ⟨some 10, .mov (.t 0), some (9, false)⟩,
 ⟨some 11, .bin .eql (.t 10) (.c (.int .i32 37)), some (9, false)⟩,
 zi 12 (.pick (.t 9) (.c (.bool true)) (.t 11)),
 zj 2 12] none) (
 .ret))⟩
def K174 : List (List Nat) := []
def Hn174 : List (Nat × Nat) := []
def F173 : Fun := ⟨1, 34, [(2, some (true, 3)), (3, none)],
 .seq (
 .region [zi 2 (.alloc (.agg [.int .i64 0, .int .i64 0, .str []])),
 zi 3 (.mov (.c (.int .i64 0)))] none) (
 .seq (
 .seq (
 .region [zj 8 0,
 zi 9 (.call 185 [.t 8])] none) (
 .cond (.t 9) (
 .seq (
 .seq (
 .region [zj 11 0,
 zi 12 (.call 186 [.t 11, .c (.int .i64 10), .c (.int .i64 64)]),
 zj 10 12,
 zi 13 (.ext (.t 10) 0),
 zi 14 (.ext (.t 10) 1),
 zj 4 13,
 zj 5 14] none) (
 .seq (
 .region [zj 15 5,
 zi 16 (.eqn .i true (.t 15) (.c (.nili)))] none) (
 .cond (.t 16) (
 .seq (
 .region [zi 17 (.build [.int .i64 0, .int .i64 0, .str []] []),
 ⟨none, .store 3 (.t 2) (.t 17), none⟩,
 zi 3 (.mov (.c (.int .i64 6)))] none) (
 .ret)) (
 .skip)))) (
 .seq (
 .region [zj 18 0,
 zi 19 (.build [.int .i64 0, .int .i64 0, .str []] [(0, 1, (.c (.int .i64 2))), (2, 1, (.t 18))]),
 ⟨none, .store 3 (.t 2) (.t 19), none⟩,
 zi 3 (.mov (.c (.int .i64 0)))] none) (
 .ret))) (
 .skip))) (
 .seq (
 .seq (
 .region [zj 21 0,
 zi 22 (.call 187 [.t 21]),
 zj 20 22,
 zi 23 (.ext (.t 20) 0),
 zi 24 (.ext (.t 20) 1),
 zj 6 23,
 zj 7 24] none) (
 .seq (
 .region [zj 25 7] none) (
 .block 0 (
 .seq (
 .region [zi 27 (.bin .eql (.t 25) (.c (.int .i64 0))),
 zj 26 27] none) (
 .cond (.t 26) (
 .seq (
 .region [zj 28 0,
 zi 29 (.build [.int .i64 0, .int .i64 0, .str []] [(0, 1, (.c (.int .i64 3))), (2, 1, (.t 28))]),
 ⟨none, .store 3 (.t 2) (.t 29), none⟩,
 zi 3 (.mov (.c (.int .i64 0)))] none) (
 .ret)) (
 .seq (
 .region [zi 31 (.bin .eql (.t 25) (.c (.int .i64 1))),
 zj 30 31] none) (
 .cond (.t 30) (
 .seq (
 .region [zi 32 (.build [.int .i64 0, .int .i64 0, .str []] []),
 ⟨none, .store 3 (.t 2) (.t 32), none⟩,
 zi 3 (.mov (.c (.int .i64 6)))] none) (
 .ret)) (
 .skip)))))))) (
 .seq (
 .region [zi 33 (.build [.int .i64 0, .int .i64 0, .str []] []),
 ⟨none, .store 3 (.t 2) (.t 33), none⟩,
 zi 3 (.mov (.c (.int .i64 2)))] none) (
 .ret))))⟩
def K173 : List (List Nat) := []
def Hn173 : List (Nat × Nat) := []
def F175 : Fun := ⟨0, 2, [(0, none)],
 .seq (
 .region [zi 0 (.mov (.c (.nils 1)))] none) (
 .seq (
 .region [zi 1 (.call 188 [.c (.str [61, 61, 32, 33, 61, 32, 60, 61, 32, 123, 32, 125, 32, 40, 32, 41, 32, 44, 32, 59, 32, 58, 32, 36, 32, 43, 32, 45, 32, 42, 32, 47, 32, 60])]),
 zj 0 1] none) (
 .ret))⟩
def K175 : List (List Nat) := []
def Hn175 : List (Nat × Nat) := [(0, 1)]
def F176 : Fun := ⟨2, 8, [(4, none)],
 .seq (
 .region [zi 4 (.mov (.c (.bool false)))] none) (
 .seq (
 .region [zj 5 0,
 zj 6 1,
 zi 7 (.call 189 [.t 5, .t 6]),
 zj 4 7] none) (
 .ret))⟩
def K176 : List (List Nat) := []
def Hn176 : List (Nat × Nat) := []
def F184 : Fun := ⟨0, 2, [(0, none)],
 .seq (
 .region [zi 0 (.mov (.c (.nils 1)))] none) (
 .seq (
 .region [zi 1 (.call 188 [.c (.str [112, 114, 111, 100, 117, 99, 116, 32, 99, 117, 114, 114, 101, 110, 99, 121, 32, 99, 97, 108, 101, 110, 100, 97, 114, 32, 102, 114, 111, 109, 32, 101, 118, 101, 114, 121, 32, 111, 118, 101, 114, 100, 114, 97, 102, 116, 32, 116, 97, 120, 32, 99, 114, 101, 100, 105, 116, 32, 100, 101, 98, 105, 116, 32, 109, 97, 114, 103, 105, 110, 97, 108, 32, 119, 104, 111, 108, 101, 32, 97, 99, 116, 51, 54, 48, 32, 97, 99, 116, 51, 54, 53, 32, 97, 99, 116, 117, 97, 108, 32, 116, 104, 105, 114, 116, 121, 32, 100, 111, 119, 110, 32, 117, 112, 32, 102, 108, 111, 111, 114, 32, 99, 101, 105, 108, 32, 104, 97, 108, 102, 95, 117, 112, 32, 104, 97, 108, 102, 95, 101, 118, 101, 110, 32, 107, 101, 101, 112, 32, 100, 114, 111, 112, 32, 102, 101, 101, 32, 108, 105, 109, 105, 116, 32, 119, 104, 101, 110, 32, 97, 109, 111, 117, 110, 116, 95, 111, 102, 32, 115, 105, 110, 103, 108, 101, 32, 100, 97, 105, 108, 121, 32, 109, 111, 110, 116, 104, 108, 121, 32, 109, 111, 110, 116, 104, 32, 114, 101, 116, 117, 114, 110, 32, 99, 108, 111, 115, 101, 32, 101, 118, 101, 110, 116, 32, 105, 102, 32, 116, 104, 101, 110, 32, 101, 108, 115, 101, 32, 97, 110, 100, 32, 111, 114, 32, 110, 111, 116, 32, 109, 105, 110, 32, 109, 97, 120])]),
 zj 0 1] none) (
 .ret))⟩
def K184 : List (List Nat) := []
def Hn184 : List (Nat × Nat) := [(0, 1)]
def F183 : Fun := ⟨2, 9, [(4, none)],
 .seq (
 .region [zi 4 (.mov (.c (.bool false)))] none) (
 .seq (
 .region [zj 5 0,
 zj 6 1,
 zi 7 (.call 195 [.t 5, .t 6]),
 zi 8 (.bin .geq (.t 7) (.c (.int .i64 0))),
 zj 4 8] none) (
 .ret))⟩
def K183 : List (List Nat) := []
def Hn183 : List (Nat × Nat) := []
def F185 : Fun := ⟨1, 21, [(2, none)],
 .seq (
 .region [zi 2 (.mov (.c (.bool false)))] none) (
 .seq (
 .region [zj 3 0,
 zi 4 (.bin .neq (.t 3) (.c (.str []))),
 zj 5 4,
 ⟨some 6, .mov (.t 0), some (5, true)⟩,
 ⟨some 7, .call 164 [.t 6, .f 172], some (5, true)⟩,
 ⟨some 8, .mov (.t 0), some (5, true)⟩,
 ⟨some 9, .bin .eql (.t 7) (.t 8), some (5, true)⟩,
 zi 10 (.pick (.t 5) (.t 9) (.c (.bool false))),
 zj 11 10,
 ⟨some 12, .mov (.t 0), some (11, true)⟩,
 ⟨some 13, .len .s (.t 12), some (11, true)⟩,
 ⟨some 14, .bin .eql (.t 13) (.c (.int .i64 1)), some (11, true)⟩,
 ⟨some 15, .mov (.t 14), some (11, true)⟩,
 ⟨some 16, .mov (.t 0), some (15, false)⟩,
 ⟨some 17, .idxs (.t 16) (.c (.int .i64 0)), some (15, false)⟩,
 ⟨some 18, .bin .neq (.t 17) (.c (.int .u8 48)), some (15, false)⟩,
 ⟨some 19, .pick (.t 15) (.c (.bool true)) (.t 18), some (11, true)⟩,
 zi 20 (.pick (.t 11) (.t 19) (.c (.bool false))),
 zj 2 20] none) (
 .ret))⟩
def K185 : List (List Nat) := []
def Hn185 : List (Nat × Nat) := []
def F187 : Fun := ⟨1, 73, [(2, none), (3, none)],
 .seq (
 .region [zi 2 (.mov (.c (.int .i64 0))),
 zi 3 (.mov (.c (.int .i64 0)))] none) (
 .seq (
 .region [zj 12 0,
 zi 13 (.call 198 [.t 12, .c (.str [37])]),
 zj 11 13,
 zi 14 (.ext (.t 11) 0),
 zi 15 (.ext (.t 11) 1),
 zj 4 14,
 zj 5 15] none) (
 .seq (
 .region [zj 17 4,
 zi 18 (.call 199 [.t 17, .c (.str [46])]),
 zj 16 18,
 zi 19 (.ext (.t 16) 0),
 zi 20 (.ext (.t 16) 1),
 zi 21 (.ext (.t 16) 2),
 zj 6 19,
 zj 7 20,
 zj 8 21] none) (
 .seq (
 .seq (
 .region [zj 22 5,
 zi 23 (.un .not (.t 22)),
 zj 24 23,
 ⟨some 25, .mov (.t 6), some (24, false)⟩,
 ⟨some 26, .call 185 [.t 25], some (24, false)⟩,
 ⟨some 27, .un .not (.t 26), some (24, false)⟩,
 zi 28 (.pick (.t 24) (.c (.bool true)) (.t 27)),
 zj 29 28,
 ⟨some 30, .mov (.t 8), some (29, false)⟩,
 ⟨some 31, .mov (.t 30), some (29, false)⟩,
 ⟨some 32, .mov (.t 7), some (31, true)⟩,
 ⟨some 33, .bin .eql (.t 32) (.c (.str [])), some (31, true)⟩,
 ⟨some 34, .mov (.t 33), some (31, true)⟩,
 ⟨some 35, .mov (.t 7), some (34, false)⟩,
 ⟨some 36, .len .s (.t 35), some (34, false)⟩,
 ⟨some 37, .bin .gtr (.t 36) (.c (.int .i64 4)), some (34, false)⟩,
 ⟨some 38, .pick (.t 34) (.c (.bool true)) (.t 37), some (31, true)⟩,
 ⟨some 39, .mov (.t 38), some (31, true)⟩,
 ⟨some 40, .mov (.t 7), some (39, false)⟩,
 ⟨some 41, .call 164 [.t 40, .f 172], some (39, false)⟩,
 ⟨some 42, .mov (.t 7), some (39, false)⟩,
 ⟨some 43, .bin .neq (.t 41) (.t 42), some (39, false)⟩,
 ⟨some 44, .pick (.t 39) (.c (.bool true)) (.t 43), some (31, true)⟩,
 ⟨some 45, .mov (.t 44), some (31, true)⟩,
 ⟨some 46, .mov (.t 7), some (45, false)⟩,
 ⟨some 47, .mov (.t 7), some (45, false)⟩,
 ⟨some 48, .len .s (.t 47), some (45, false)⟩,
 ⟨some 49, .bin .sub (.t 48) (.c (.int .i64 1)), some (45, false)⟩,
 ⟨some 50, .idxs (.t 46) (.t 49), some (45, false)⟩,
 ⟨some 51, .bin .eql (.t 50) (.c (.int .u8 48)), some (45, false)⟩,
 ⟨some 52, .pick (.t 45) (.c (.bool true)) (.t 51), some (31, true)⟩,
 ⟨some 53, .pick (.t 31) (.t 52) (.c (.bool false)), some (29, false)⟩,
 zi 54 (.pick (.t 29) (.c (.bool true)) (.t 53))] none) (
 .cond (.t 54) (
 .seq (
 .region [zi 2 (.mov (.c (.int .i64 0))),
 zi 3 (.mov (.c (.int .i64 2)))] none) (
 .ret)) (
 .skip))) (
 .seq (
 .seq (
 .region [zj 55 6,
 zi 56 (.len .s (.t 55)),
 zi 57 (.bin .gtr (.t 56) (.c (.int .i64 3)))] none) (
 .cond (.t 57) (
 .seq (
 .region [zi 2 (.mov (.c (.int .i64 0))),
 zi 3 (.mov (.c (.int .i64 1)))] none) (
 .ret)) (
 .skip))) (
 .seq (
 .block 0 (
 .loop [1018700, 6, 7, 2000000, 6, 7] (
 .seq (
 .seq (
 .region [zj 58 7,
 zi 59 (.len .s (.t 58)),
 zi 60 (.bin .lss (.t 59) (.c (.int .i64 4)))] none) (
 .cond (.t 60) (
 .skip) (
 .exit 0))) (
 .block 1 (
 .region [zj 61 7,
 zi 62 (.bin .add (.t 61) (.c (.str [48]))),
 zj 7 62] none))))) (
 .seq (
 .region [zj 64 6,
 zj 65 7,
 zi 66 (.bin .add (.t 64) (.t 65)),
 zi 67 (.call 200 [.t 66]),
 zj 63 67,
 zi 68 (.ext (.t 63) 0),
 zi 69 (.ext (.t 63) 1),
 zj 9 68,
 zj 10 69] none) (
 .seq (
 .seq (
 .region [zj 70 9,
 zi 71 (.bin .gtr (.t 70) (.c (.int .i64 1000000)))] none) (
 .cond (.t 71) (
 .seq (
 .region [zi 2 (.mov (.c (.int .i64 0))),
 zi 3 (.mov (.c (.int .i64 1)))] none) (
 .ret)) (
 .skip))) (
 .seq (
 .region [zj 72 9,
 zj 2 72,
 zi 3 (.mov (.c (.int .i64 0)))] none) (
 .ret)))))))))⟩
def K187 : List (List Nat) := [[1018700, 6, 7, 2000000, 6, 7]]
def Hn187 : List (Nat × Nat) := []
def F189 : Fun := ⟨2, 18, [(4, none)],
 .seq (
 .region [zi 4 (.mov (.c (.bool false)))] none) (
 .seq (
 .region [zj 5 0,
 zi 6 (.len .s (.t 5)),
 zj 7 1,
 zi 8 (.len .s (.t 7)),
 zi 9 (.bin .geq (.t 6) (.t 8)),
 zj 10 9,
 ⟨some 11, .mov (.t 0), some (10, true)⟩,
 ⟨some 12, .mov (.t 1), some (10, true)⟩,
 ⟨some 13, .len .s (.t 12), some (10, true)⟩,
 ⟨some 14, .slcs (.t 11) none (some (.t 13)), some (10, true)⟩,
 ⟨some 15, .mov (.t 1), some (10, true)⟩,
 ⟨some 16, .bin .eql (.t 14) (.t 15), some (10, true)⟩,
 zi 17 (.pick (.t 10) (.t 16) (.c (.bool false))),
 zj 4 17] none) (
 .ret))⟩
def K189 : List (List Nat) := []
def Hn189 : List (Nat × Nat) := []
def F195 : Fun := ⟨2, 19, [(4, none)],
 .seq (
 .region [zi 4 (.mov (.c (.int .i64 0)))] none) (
 .seq (
 .seq (
 .region [zj 6 0,
 zi 7 (.len .l (.t 6)),
 zi 8 (.mov (.c (.int .i64 0)))] none) (
 .block 0 (
 .loop [1019500, 0, 1, 7, 8, 2000000, 4] (
 .seq (
 .region [zi 9 (.bin .lss (.t 8) (.t 7))] none) (
 .seq (
 .cond (.t 9) (
 .skip) (
 .exit 0)) (
 .seq (
 .block 1 (
 .seq (
 .region [zj 10 8,
 zj 5 10] none) (
 .seq (
 .region [zj 11 1,
 zj 12 0,
 zj 13 5,
 zi 14 (.iaddr 1 [.str] (.t 12) (.t 13)),
 zi 15 (.load false 1 [.str] (.t 14)),
 zi 16 (.bin .eql (.t 11) (.t 15))] none) (
 .cond (.t 16) (
 .seq (
 .region [zj 17 5,
 zj 4 17] none) (
 .ret)) (
 .skip))))) (
 .region [zi 18 (.bin .add (.t 8) (.c (.int .i64 1))),
 zj 8 18] none))))))) (
 .seq (
 .region [zi 4 (.mov (.c (.int .i64 (-1))))] none) (
 .ret)))⟩
def K195 : List (List Nat) := [[1019500, 0, 1, 7, 8, 2000000, 4]]
def Hn195 : List (Nat × Nat) := []
def F198 : Fun := ⟨2, 11, [(4, none), (5, none)],
 .seq (
 .region [zi 4 (.mov (.c (.str []))),
 zi 5 (.mov (.c (.bool false)))] none) (
 .seq (
 .region [zj 6 0,
 zj 7 1,
 zi 8 (.call 211 [.t 6, .t 7]),
 zi 9 (.ext (.t 8) 0),
 zi 10 (.ext (.t 8) 1),
 zj 4 9,
 zj 5 10] none) (
 .ret))⟩
def K198 : List (List Nat) := []
def Hn198 : List (Nat × Nat) := []
def F199 : Fun := ⟨2, 13, [(4, none), (5, none), (6, none)],
 .seq (
 .region [zi 4 (.mov (.c (.str []))),
 zi 5 (.mov (.c (.str []))),
 zi 6 (.mov (.c (.bool false)))] none) (
 .seq (
 .region [zj 7 0,
 zj 8 1,
 zi 9 (.call 212 [.t 7, .t 8]),
 zi 10 (.ext (.t 9) 0),
 zi 11 (.ext (.t 9) 1),
 zi 12 (.ext (.t 9) 2),
 zj 4 10,
 zj 5 11,
 zj 6 12] none) (
 .ret))⟩
def K199 : List (List Nat) := []
def Hn199 : List (Nat × Nat) := []
def F211 : Fun := ⟨2, 18, [(4, none), (5, none)],
 .seq (
 .region [zi 4 (.mov (.c (.str []))),
 zi 5 (.mov (.c (.bool false)))] none) (
 .seq (
 .seq (
 .region [zj 6 0,
 zj 7 1,
 zi 8 (.call 221 [.t 6, .t 7]),
 zi 9 (.un .not (.t 8))] none) (
 .cond (.t 9) (
 .seq (
 .region [zj 10 0,
 zj 4 10,
 zi 5 (.mov (.c (.bool false)))] none) (
 .ret)) (
 .skip))) (
 .seq (
 .region [zj 11 0,
 zj 12 0,
 zi 13 (.len .s (.t 12)),
 zj 14 1,
 zi 15 (.len .s (.t 14)),
 zi 16 (.bin .sub (.t 13) (.t 15)),
 zi 17 (.slcs (.t 11) none (some (.t 16))),
 zj 4 17,
 zi 5 (.mov (.c (.bool true)))] none) (
 .ret)))⟩
def K211 : List (List Nat) := []
def Hn211 : List (Nat × Nat) := []
def F212 : Fun := ⟨2, 23, [(4, none), (5, none), (6, none)],
 .seq (
 .region [zi 4 (.mov (.c (.str []))),
 zi 5 (.mov (.c (.str []))),
 zi 6 (.mov (.c (.bool false)))] none) (
 .seq (
 .seq (
 .region [zj 8 0,
 zj 9 1,
 zi 10 (.call 182 [.t 8, .t 9]),
 zj 7 10] none) (
 .seq (
 .region [zj 11 7,
 zi 12 (.bin .geq (.t 11) (.c (.int .i64 0)))] none) (
 .cond (.t 12) (
 .seq (
 .region [zj 13 0,
 zj 14 7,
 zi 15 (.slcs (.t 13) none (some (.t 14))),
 zj 16 0,
 zj 17 7,
 zj 18 1,
 zi 19 (.len .s (.t 18)),
 zi 20 (.bin .add (.t 17) (.t 19)),
 zi 21 (.slcs (.t 16) (some (.t 20)) none),
 zj 4 15,
 zj 5 21,
 zi 6 (.mov (.c (.bool true)))] (some [[], [], [0, 1], [], [], [], [5], [4, 6, 5], [3, 7, 4, 6, 5], [2, 0, 1], [8, 3, 7, 4, 6, 5, 9, 2, 0, 1], [10, 8, 3, 7, 4, 6, 5, 9, 2, 0, 1]])) (
 .ret)) (
 .skip)))) (
 .seq (
 .region [zj 22 0,
 zj 4 22,
 zi 5 (.mov (.c (.str []))),
 zi 6 (.mov (.c (.bool false)))] none) (
 .ret)))⟩
def K212 : List (List Nat) := []
def Hn212 : List (Nat × Nat) := []
def F221 : Fun := ⟨2, 21, [(4, none)],
 .seq (
 .region [zi 4 (.mov (.c (.bool false)))] none) (
 .seq (
 .region [zj 5 0,
 zi 6 (.len .s (.t 5)),
 zj 7 1,
 zi 8 (.len .s (.t 7)),
 zi 9 (.bin .geq (.t 6) (.t 8)),
 zj 10 9,
 ⟨some 11, .mov (.t 0), some (10, true)⟩,
 ⟨some 12, .mov (.t 0), some (10, true)⟩,
 ⟨some 13, .len .s (.t 12), some (10, true)⟩,
 ⟨some 14, .mov (.t 1), some (10, true)⟩,
 ⟨some 15, .len .s (.t 14), some (10, true)⟩,
 ⟨some 16, .bin .sub (.t 13) (.t 15), some (10, true)⟩,
 ⟨some 17, .slcs (.t 11) (some (.t 16)) none, some (10, true)⟩,
 ⟨some 18, .mov (.t 1), some (10, true)⟩,
 ⟨some 19, .bin .eql (.t 17) (.t 18), some (10, true)⟩,
 zi 20 (.pick (.t 10) (.t 19) (.c (.bool false))),
 zj 4 20] none) (
 .ret))⟩
def K221 : List (List Nat) := []
def Hn221 : List (Nat × Nat) := []
def F182 : Fun := ⟨2, 143, [(4, none)],
 .seq (
 .region [zi 4 (.mov (.c (.int .i64 0)))] none) (
 .seq (
 .region [zj 14 1,
 zi 15 (.len .s (.t 14)),
 zj 5 15] none) (
 .seq (
 .block 0 (
 .seq (
 .region [zj 17 5,
 zi 18 (.bin .eql (.t 17) (.c (.int .i64 0))),
 zj 19 18,
 ⟨some 20, .mov (.t 1), some (19, false)⟩,
 ⟨some 21, .mov (.t 0), some (19, false)⟩,
 ⟨some 22, .bin .eql (.t 20) (.t 21), some (19, false)⟩,
 zi 23 (.pick (.t 19) (.c (.bool true)) (.t 22)),
 zj 16 23] none) (
 .cond (.t 16) (
 .seq (
 .region [zi 4 (.mov (.c (.int .i64 0)))] none) (
 .ret)) (
 .seq (
 .region [zj 25 5,
 zi 26 (.bin .eql (.t 25) (.c (.int .i64 1))),
 zj 24 26] none) (
 .cond (.t 24) (
 .seq (
 .region [zj 27 0,
 zj 28 1,
 zi 29 (.idxs (.t 28) (.c (.int .i64 0))),
 zi 30 (.call 191 [.t 27, .t 29]),
 zj 4 30] none) (
 .ret)) (
 .seq (
 .region [zj 32 5,
 zj 33 0,
 zi 34 (.len .s (.t 33)),
 zi 35 (.bin .geq (.t 32) (.t 34)),
 zj 31 35] none) (
 .cond (.t 31) (
 .seq (
 .region [zi 4 (.mov (.c (.int .i64 (-1))))] none) (
 .ret)) (
 .seq (
 .region [zj 37 5,
 zi 38 (.pan (.c (.junk))),
 zi 39 (.bin .leq (.t 37) (.t 38)),
 zj 40 39,
 ⟨some 41, .mov (.t 0), some (40, true)⟩,
 ⟨some 42, .len .s (.t 41), some (40, true)⟩,
 ⟨some 43, .bin .leq (.t 42) (.c (.int .i64 64)), some (40, true)⟩,
 zi 44 (.pick (.t 40) (.t 43) (.c (.bool false))),
 zj 36 44] none) (
 .cond (.t 36) (
 .seq (
 .region [zj 45 0,
 zj 46 1,
 zi 47 (.call 192 [.t 45, .t 46]),
 zj 4 47] none) (
 .ret)) (
 .skip)))))))))) (
 .seq (
 .region [zj 48 1,
 zi 49 (.idxs (.t 48) (.c (.int .i64 0))),
 zj 6 49] none) (
 .seq (
 .region [zj 50 1,
 zi 51 (.idxs (.t 50) (.c (.int .i64 1))),
 zj 7 51] none) (
 .seq (
 .region [zi 8 (.mov (.c (.int .i64 0)))] none) (
 .seq (
 .region [zj 52 0,
 zi 53 (.len .s (.t 52)),
 zj 54 5,
 zi 55 (.bin .sub (.t 53) (.t 54)),
 zi 56 (.bin .add (.t 55) (.c (.int .i64 1))),
 zj 9 56] none) (
 .seq (
 .region [zi 10 (.mov (.c (.int .i64 0)))] none) (
 .seq (
 .block 1 (
 .loop [1018200, 0, 1, 5, 6, 7, 8, 9, 10, 2000000, 4] (
 .seq (
 .seq (
 .region [zj 57 8,
 zj 58 9,
 zi 59 (.bin .lss (.t 57) (.t 58))] none) (
 .cond (.t 59) (
 .skip) (
 .exit 1))) (
 .block 2 (
 .seq (
 .seq (
 .region [zj 60 0,
 zj 61 8,
 zi 62 (.idxs (.t 60) (.t 61)),
 zj 63 6,
 zi 64 (.bin .neq (.t 62) (.t 63))] none) (
 .cond (.t 64) (
 .seq (
 .region [zj 65 0,
 zj 66 8,
 zi 67 (.bin .add (.t 66) (.c (.int .i64 1))),
 zj 68 9,
 zi 69 (.slcs (.t 65) (some (.t 67)) (some (.t 68))),
 zj 70 6,
 zi 71 (.call 191 [.t 69, .t 70]),
 zj 11 71] none) (
 .seq (
 .seq (
 .region [zj 72 11,
 zi 73 (.bin .lss (.t 72) (.c (.int .i64 0)))] none) (
 .cond (.t 73) (
 .seq (
 .region [zi 4 (.mov (.c (.int .i64 (-1))))] none) (
 .ret)) (
 .skip))) (
 .region [zj 74 8,
 zj 75 11,
 zi 76 (.bin .add (.t 75) (.c (.int .i64 1))),
 zi 77 (.bin .add (.t 74) (.t 76)),
 zj 8 77] none))) (
 .skip))) (
 .seq (
 .seq (
 .region [zj 78 0,
 zj 79 8,
 zi 80 (.bin .add (.t 79) (.c (.int .i64 1))),
 zi 81 (.idxs (.t 78) (.t 80)),
 zj 82 7,
 zi 83 (.bin .eql (.t 81) (.t 82)),
 zj 84 83,
 ⟨some 85, .mov (.t 0), some (84, true)⟩,
 ⟨some 86, .mov (.t 8), some (84, true)⟩,
 ⟨some 87, .mov (.t 8), some (84, true)⟩,
 ⟨some 88, .mov (.t 5), some (84, true)⟩,
 ⟨some 89, .bin .add (.t 87) (.t 88), some (84, true)⟩,
 ⟨some 90, .slcs (.t 85) (some (.t 86)) (some (.t 89)), some (84, true)⟩,
 ⟨some 91, .mov (.t 1), some (84, true)⟩,
 ⟨some 92, .bin .eql (.t 90) (.t 91), some (84, true)⟩,
 zi 93 (.pick (.t 84) (.t 92) (.c (.bool false)))] none) (
 .cond (.t 93) (
 .seq (
 .region [zj 94 8,
 zj 4 94] none) (
 .ret)) (
 .skip))) (
 .seq (
 .region [zj 95 8,
 zi 96 (.bin .add (.t 95) (.c (.int .i64 1))),
 zj 8 96] none) (
 .seq (
 .region [zj 97 10,
 zi 98 (.bin .add (.t 97) (.c (.int .i64 1))),
 zj 10 98] none) (
 .seq (
 .region [zj 99 5,
 zi 100 (.pan (.c (.junk))),
 zi 101 (.bin .leq (.t 99) (.t 100)),
 zj 102 101,
 ⟨some 103, .mov (.t 10), some (102, true)⟩,
 ⟨some 104, .mov (.t 8), some (102, true)⟩,
 ⟨some 105, .call 193 [.t 104], some (102, true)⟩,
 ⟨some 106, .bin .gtr (.t 103) (.t 105), some (102, true)⟩,
 zi 107 (.pick (.t 102) (.t 106) (.c (.bool false)))] none) (
 .cond (.t 107) (
 .seq (
 .region [zj 108 0,
 zj 109 8,
 zi 110 (.slcs (.t 108) (some (.t 109)) none),
 zj 111 1,
 zi 112 (.call 192 [.t 110, .t 111]),
 zj 12 112] none) (
 .seq (
 .seq (
 .region [zj 113 12,
 zi 114 (.bin .geq (.t 113) (.c (.int .i64 0)))] none) (
 .cond (.t 114) (
 .seq (
 .region [zj 115 12,
 zj 116 8,
 zi 117 (.bin .add (.t 115) (.t 116)),
 zj 4 117] none) (
 .ret)) (
 .skip))) (
 .seq (
 .region [zi 4 (.mov (.c (.int .i64 (-1))))] none) (
 .ret)))) (
 .seq (
 .region [zj 118 5,
 zi 119 (.pan (.c (.junk))),
 zi 120 (.bin .gtr (.t 118) (.t 119)),
 zj 121 120,
 ⟨some 122, .mov (.t 10), some (121, true)⟩,
 ⟨some 123, .mov (.t 8), some (121, true)⟩,
 ⟨some 124, .bin .shr (.t 123) (.c (.int .u64 4)), some (121, true)⟩,
 ⟨some 125, .bin .add (.c (.int .i64 4)) (.t 124), some (121, true)⟩,
 ⟨some 126, .bin .geq (.t 122) (.t 125), some (121, true)⟩,
 zi 127 (.pick (.t 121) (.t 126) (.c (.bool false))),
 zj 128 127,
 ⟨some 129, .mov (.t 8), some (128, true)⟩,
 ⟨some 130, .mov (.t 9), some (128, true)⟩,
 ⟨some 131, .bin .lss (.t 129) (.t 130), some (128, true)⟩,
 zi 132 (.pick (.t 128) (.t 131) (.c (.bool false)))] none) (
 .cond (.t 132) (
 .seq (
 .region [zj 133 0,
 zj 134 8,
 zi 135 (.slcs (.t 133) (some (.t 134)) none),
 zj 136 1,
 zi 137 (.call 194 [.t 135, .t 136]),
 zj 13 137] none) (
 .seq (
 .seq (
 .region [zj 138 13,
 zi 139 (.bin .lss (.t 138) (.c (.int .i64 0)))] none) (
 .cond (.t 139) (
 .seq (
 .region [zi 4 (.mov (.c (.int .i64 (-1))))] none) (
 .ret)) (
 .skip))) (
 .seq (
 .region [zj 140 8,
 zj 141 13,
 zi 142 (.bin .add (.t 140) (.t 141)),
 zj 4 142] none) (
 .ret)))) (
 .skip))))))))))))) (
 .seq (
 .region [zi 4 (.mov (.c (.int .i64 (-1))))] none) (
 .ret))))))))))⟩
def K182 : List (List Nat) := [[1018200, 0, 1, 5, 6, 7, 8, 9, 10, 2000000, 4]]
def Hn182 : List (Nat × Nat) := []
def F193 : Fun := ⟨1, 6, [(2, none)],
 .seq (
 .region [zi 2 (.mov (.c (.int .i64 0)))] none) (
 .seq (
 .region [zj 3 0,
 zi 4 (.bin .add (.t 3) (.c (.int .i64 16))),
 zi 5 (.bin .quo (.t 4) (.c (.int .i64 8))),
 zj 2 5] none) (
 .ret))⟩
def K193 : List (List Nat) := []
def Hn193 : List (Nat × Nat) := []
def F194 : Fun := ⟨2, 81, [(4, none)],
 .seq (
 .region [zi 4 (.mov (.c (.int .i64 0)))] none) (
 .seq (
 .region [zj 12 1,
 zi 13 (.call 205 [.t 12]),
 zj 11 13,
 zi 14 (.ext (.t 11) 0),
 zi 15 (.ext (.t 11) 1),
 zj 5 14,
 zj 6 15] none) (
 .seq (
 .region [zj 16 1,
 zi 17 (.len .s (.t 16)),
 zj 7 17] none) (
 .seq (
 .region [zi 8 (.mov (.c (.int .u32 0)))] none) (
 .seq (
 .seq (
 .region [zi 9 (.mov (.c (.int .i64 0)))] none) (
 .block 0 (
 .loop [1019400, 0, 1, 5, 6, 7, 8, 9, 2000000, 0, 1, 5, 6, 7, 8] (
 .seq (
 .seq (
 .region [zj 18 9,
 zj 19 7,
 zi 20 (.bin .lss (.t 18) (.t 19))] none) (
 .cond (.t 20) (
 .skip) (
 .exit 0))) (
 .seq (
 .block 1 (
 .region [zj 23 8,
 zi 24 (.bin .mul (.t 23) (.c (.int .u32 16777619))),
 zj 25 0,
 zj 26 9,
 zi 27 (.idxs (.t 25) (.t 26)),
 zi 28 (.conv .u32 (.t 27)),
 zi 29 (.bin .add (.t 24) (.t 28)),
 zj 8 29] none)) (
 .region [zj 21 9,
 zi 22 (.bin .add (.t 21) (.c (.int .i64 1))),
 zj 9 22] none)))))) (
 .seq (
 .seq (
 .region [zj 30 8,
 zj 31 5,
 zi 32 (.bin .eql (.t 30) (.t 31)),
 zj 33 32,
 ⟨some 34, .mov (.t 0), some (33, true)⟩,
 ⟨some 35, .mov (.t 7), some (33, true)⟩,
 ⟨some 36, .slcs (.t 34) none (some (.t 35)), some (33, true)⟩,
 ⟨some 37, .mov (.t 1), some (33, true)⟩,
 ⟨some 38, .bin .eql (.t 36) (.t 37), some (33, true)⟩,
 zi 39 (.pick (.t 33) (.t 38) (.c (.bool false)))] none) (
 .cond (.t 39) (
 .seq (
 .region [zi 4 (.mov (.c (.int .i64 0)))] none) (
 .ret)) (
 .skip))) (
 .seq (
 .seq (
 .region [zj 40 7,
 zj 10 40] none) (
 .block 2 (
 .loop [1019401, 0, 1, 5, 6, 7, 8, 10, 2000000, 4] (
 .seq (
 .seq (
 .region [zj 41 10,
 zj 42 0,
 zi 43 (.len .s (.t 42)),
 zi 44 (.bin .lss (.t 41) (.t 43))] none) (
 .cond (.t 44) (
 .skip) (
 .exit 2))) (
 .block 3 (
 .seq (
 .region [zj 45 8,
 zi 46 (.bin .mul (.t 45) (.c (.int .u32 16777619))),
 zj 8 46] none) (
 .seq (
 .region [zj 47 8,
 zj 48 0,
 zj 49 10,
 zi 50 (.idxs (.t 48) (.t 49)),
 zi 51 (.conv .u32 (.t 50)),
 zi 52 (.bin .add (.t 47) (.t 51)),
 zj 8 52] none) (
 .seq (
 .region [zj 53 8,
 zj 54 6,
 zj 55 0,
 zj 56 10,
 zj 57 7,
 zi 58 (.bin .sub (.t 56) (.t 57)),
 zi 59 (.idxs (.t 55) (.t 58)),
 zi 60 (.conv .u32 (.t 59)),
 zi 61 (.bin .mul (.t 54) (.t 60)),
 zi 62 (.bin .sub (.t 53) (.t 61)),
 zj 8 62] none) (
 .seq (
 .region [zj 63 10,
 zi 64 (.bin .add (.t 63) (.c (.int .i64 1))),
 zj 10 64] none) (
 .seq (
 .region [zj 65 8,
 zj 66 5,
 zi 67 (.bin .eql (.t 65) (.t 66)),
 zj 68 67,
 ⟨some 69, .mov (.t 0), some (68, true)⟩,
 ⟨some 70, .mov (.t 10), some (68, true)⟩,
 ⟨some 71, .mov (.t 7), some (68, true)⟩,
 ⟨some 72, .bin .sub (.t 70) (.t 71), some (68, true)⟩,
 ⟨some 73, .mov (.t 10), some (68, true)⟩,
 ⟨some 74, .slcs (.t 69) (some (.t 72)) (some (.t 73)), some (68, true)⟩,
 ⟨some 75, .mov (.t 1), some (68, true)⟩,
 ⟨some 76, .bin .eql (.t 74) (.t 75), some (68, true)⟩,
 zi 77 (.pick (.t 68) (.t 76) (.c (.bool false)))] none) (
 .cond (.t 77) (
 .seq (
 .region [zj 78 10,
 zj 79 7,
 zi 80 (.bin .sub (.t 78) (.t 79)),
 zj 4 80] none) (
 .ret)) (
 .skip)))))))))))) (
 .seq (
 .region [zi 4 (.mov (.c (.int .i64 (-1))))] none) (
 .ret))))))))⟩
def K194 : List (List Nat) := [[1019400, 0, 1, 5, 6, 7, 8, 9, 2000000, 0, 1, 5, 6, 7, 8], [1019401, 0, 1, 5, 6, 7, 8, 10, 2000000, 4]]
def Hn194 : List (Nat × Nat) := []
def F205 : Fun := ⟨1, 39, [(2, none), (3, none)],
 .seq (
 .region [zi 2 (.mov (.c (.int .u32 0))),
 zi 3 (.mov (.c (.int .u32 0)))] none) (
 .seq (
 .region [zi 4 (.mov (.c (.int .u32 0)))] none) (
 .seq (
 .seq (
 .region [zi 5 (.mov (.c (.int .i64 0)))] none) (
 .block 0 (
 .loop [1020500, 0, 4, 5, 2000000, 0, 4] (
 .seq (
 .seq (
 .region [zj 9 5,
 zj 10 0,
 zi 11 (.len .s (.t 10)),
 zi 12 (.bin .lss (.t 9) (.t 11))] none) (
 .cond (.t 12) (
 .skip) (
 .exit 0))) (
 .seq (
 .block 1 (
 .region [zj 15 4,
 zi 16 (.bin .mul (.t 15) (.c (.int .u32 16777619))),
 zj 17 0,
 zj 18 5,
 zi 19 (.idxs (.t 17) (.t 18)),
 zi 20 (.conv .u32 (.t 19)),
 zi 21 (.bin .add (.t 16) (.t 20)),
 zj 4 21] none)) (
 .region [zj 13 5,
 zi 14 (.bin .add (.t 13) (.c (.int .i64 1))),
 zj 5 14] none)))))) (
 .seq (
 .region [zi 6 (.mov (.c (.int .u32 1))),
 zi 7 (.mov (.c (.int .u32 16777619)))] none) (
 .seq (
 .seq (
 .region [zj 22 0,
 zi 23 (.len .s (.t 22)),
 zj 8 23] none) (
 .block 2 (
 .loop [1020501, 4, 6, 7, 8, 2000000, 4, 6] (
 .seq (
 .seq (
 .region [zj 24 8,
 zi 25 (.bin .gtr (.t 24) (.c (.int .i64 0)))] none) (
 .cond (.t 25) (
 .skip) (
 .exit 2))) (
 .seq (
 .block 3 (
 .seq (
 .seq (
 .region [zj 28 8,
 zi 29 (.bin .and (.t 28) (.c (.int .i64 1))),
 zi 30 (.bin .neq (.t 29) (.c (.int .i64 0)))] none) (
 .cond (.t 30) (
 .region [zj 31 6,
 zj 32 7,
 zi 33 (.bin .mul (.t 31) (.t 32)),
 zj 6 33] none) (
 .skip))) (
 .region [zj 34 7,
 zj 35 7,
 zi 36 (.bin .mul (.t 34) (.t 35)),
 zj 7 36] none))) (
 .region [zj 26 8,
 zi 27 (.bin .shr (.t 26) (.c (.int .u64 1))),
 zj 8 27] none)))))) (
 .seq (
 .region [zj 37 4,
 zj 38 6,
 zj 2 37,
 zj 3 38] none) (
 .ret))))))⟩
def K205 : List (List Nat) := [[1020500, 0, 4, 5, 2000000, 0, 4], [1020501, 4, 6, 7, 8, 2000000, 4, 6]]
def Hn205 : List (Nat × Nat) := []
def hintF : List (Nat × Nat) → Nat → Nat
 | [], _ => 0
 | (i, n) :: l, d => if d = i then n else hintF l d
def tab : List (Nat × Fun) := [(6, F6), (10, F10), (11, F11), (25, F25), (26, F26), (20, F20), (21, F21), (8, F8), (12, F12), (18, F18), (15, F15), (41, F41), (42, F42), (43, F43), (45, F45), (46, F46), (14, F14), (17, F17), (39, F39), (27, F27), (28, F28), (29, F29), (30, F30), (40, F40), (44, F44), (50, F50), (51, F51), (52, F52), (53, F53), (54, F54), (55, F55), (59, F59), (69, F69), (68, F68), (71, F71), (72, F72), (62, F62), (73, F73), (75, F75), (84, F84), (85, F85), (86, F86), (87, F87), (88, F88), (89, F89), (90, F90), (109, F109), (108, F108), (110, F110), (111, F111), (74, F74), (112, F112), (113, F113), (133, F133), (134, F134), (135, F135), (151, F151), (153, F153), (164, F164), (165, F165), (169, F169), (170, F170), (171, F171), (172, F172), (174, F174), (173, F173), (175, F175), (176, F176), (184, F184), (183, F183), (185, F185), (187, F187), (189, F189), (195, F195), (198, F198), (199, F199), (211, F211), (212, F212), (221, F221), (182, F182), (193, F193), (194, F194), (205, F205)]
def lookF : List (Nat × Fun) → Nat → Option Fun
 | [], _ => none
 | (i, F) :: l, f => if f = i then some F else lookF l f
end Go.Proofs.H15e

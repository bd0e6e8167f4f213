/- The intermediate code of the functions reached. Printed by a program of mine. -/
import Derived.Test.YtoeknkhpjdomhaaGreatDoorE4
import Derived.Test.YtoeknkhpjdomhaaGreatDoorProg
set_option linter.unusedVariables false
set_option linter.unusedSimpArgs false
set_option linter.unnecessarySimpa false
namespace Go.Proofs.H09
open Go Go.Eng
noncomputable section
def F3 : Fun := qbD Tryz.prog [] [[1000300, 0, 3, 4, 2000000, 0, 2]] Tryz.f3
def F4 : Fun := qbD Tryz.prog [] [] Tryz.f4
def F5 : Fun := qbD Tryz.prog [] [] Tryz.f5
def F6 : Fun := qbD Tryz.prog [] [] Tryz.f6
def F7 : Fun := qbD Tryz.prog [] [] Tryz.f7
def F8 : Fun := qbD Tryz.prog [] [] Tryz.f8
def F9 : Fun := qbD Tryz.prog [] [[1000900, 0, 3, 4, 5, 6, 9, 2000000, 0, 2, 3, 4, 5]] Tryz.f9
def F10 : Fun := qbD Tryz.prog [] [] Tryz.f10
def F17 : Fun := qbD Tryz.prog [] [[1001700, 0, 3, 2000000, 2]] Tryz.f17
def F30 : Fun := qbD Tryz.prog [] [] Tryz.f30
def F11 : Fun := qbD Tryz.prog [(0, 1)] [] Tryz.f11
def F12 : Fun := qbD Tryz.prog [] [] Tryz.f12
def F13 : Fun := qbD Tryz.prog [] [[1001300, 0, 3, 4, 2000000, 2]] Tryz.f13
def F14 : Fun := qbD Tryz.prog [(2, 3), (5, 3)] [[1001400, 0, 5, 6, 2000000, 2, 3, 4]] Tryz.f14
def F15 : Fun := qbD Tryz.prog [(2, 3), (5, 3)] [[1001500, 0, 5, 6, 7, 2000000, 2, 3, 4, 5], [1001501, 0, 5, 6, 7, 2000000, 0, 5, 6, 7]] Tryz.f15
def F16 : Fun := qbD Tryz.prog [] [[1001600, 0, 1, 5, 2000000, 4]] Tryz.f16
def F19 : Fun := qbD Tryz.prog [] [[1001900, 0, 4, 5, 2000000, 0, 2, 3, 4], [1001901, 0, 4, 6, 7, 2000000, 2, 3, 6], [1001902, 0, 4, 6, 7, 2000000, 0, 4, 6, 7]] Tryz.f19
def F20 : Fun := qbD Tryz.prog [] [[1002000, 6, 7, 2000000, 6, 7]] Tryz.f20
def F21 : Fun := qbD Tryz.prog [] [[1002100, 0, 4, 5, 6, 7, 2000000, 2, 3, 5, 6], [1002101, 5, 6, 2000000, 5]] Tryz.f21
def F22 : Fun := qbD Tryz.prog [] [] Tryz.f22
def F23 : Fun := qbD Tryz.prog [] [[1002300, 4, 5, 2000000, 4, 5]] Tryz.f23
def F25 : Fun := qbD Tryz.prog [(0, 1)] [] Tryz.f25
def F24 : Fun := qbD Tryz.prog [] [] Tryz.f24
def F26 : Fun := qbD Tryz.prog [] [[1002600, 0, 3, 2000000, 2, 3]] Tryz.f26
def F28 : Fun := qbD Tryz.prog [] [[1002800, 0, 2, 34, 35, 36, 2000000, 2, 3]] Tryz.f28
def F29 : Fun := qbD Tryz.prog [] [] Tryz.f29
def F36 : Fun := qbD Tryz.prog [] [] Tryz.f36
def F37 : Fun := qbD Tryz.prog [] [] Tryz.f37
def F38 : Fun := qbD Tryz.prog [] [] Tryz.f38
def F39 : Fun := qbD Tryz.prog [] [] Tryz.f39
def F40 : Fun := qbD Tryz.prog [] [[1004000, 0, 1, 5, 2000000, 0, 5]] Tryz.f40
def F41 : Fun := qbD Tryz.prog [] [] Tryz.f41
def F43 : Fun := qbD Tryz.prog [] [[1004300, 0, 4, 2000000, 2]] Tryz.f43
def F44 : Fun := qbD Tryz.prog [] [[1004400, 0, 3, 2000000, 0, 3]] Tryz.f44
def F45 : Fun := qbD Tryz.prog [] [] Tryz.f45
def F48 : Fun := qbD Tryz.prog [] [[1004800, 0, 1, 5, 2000000, 5]] Tryz.f48
def F49 : Fun := qbD Tryz.prog [] [[1004900, 0, 1, 7, 8, 2000000, 4]] Tryz.f49
def F51 : Fun := qbD Tryz.prog [] [] Tryz.f51
def F55 : Fun := qbD Tryz.prog [] [] Tryz.f55
def F56 : Fun := qbD Tryz.prog [] [] Tryz.f56
def F58 : Fun := qbD Tryz.prog [] [] Tryz.f58
def F57 : Fun := qbD Tryz.prog [] [] Tryz.f57
def F59 : Fun := qbD Tryz.prog [(0, 1)] [] Tryz.f59
def F60 : Fun := qbD Tryz.prog [] [] Tryz.f60
def F61 : Fun := qbD Tryz.prog [] [] Tryz.f61
def F62 : Fun := qbD Tryz.prog [] [[1006200, 0, 1, 2, 2000000, 1]] Tryz.f62
def F63 : Fun := qbD Tryz.prog [] [] Tryz.f63
def F64 : Fun := qbD Tryz.prog [] [[1006400, 0, 1, 5, 6, 2000000, 4]] Tryz.f64
def F68 : Fun := qbD Tryz.prog [] [] Tryz.f68
def F69 : Fun := qbD Tryz.prog [] [] Tryz.f69
def F81 : Fun := qbD Tryz.prog [] [] Tryz.f81
def F86 : Fun := qbD Tryz.prog [] [] Tryz.f86
def F79 : Fun := qbD Tryz.prog [] [[1007900, 0, 1, 5, 6, 7, 8, 9, 10, 2000000, 4]] Tryz.f79
def F99 : Fun := qbD Tryz.prog [] [] Tryz.f99
def qD1 : Fun := qbD Tryz.prog [] [[1010000, 0, 1, 5, 6, 7, 8, 9, 2000000, 0, 1, 5, 6, 7, 8], [1010001, 0, 1, 5, 6, 7, 8, 10, 2000000, 4]] Tryz.f100
def qD2 : Fun := qbD Tryz.prog [] [[1011500, 0, 4, 5, 2000000, 0, 4], [1011501, 4, 6, 7, 8, 2000000, 4, 6]] Tryz.f115
def tab : List (Nat × Fun) := [(3, F3), (4, F4), (5, F5), (6, F6), (7, F7), (8, F8), (9, F9), (10, F10), (17, F17), (30, F30), (11, F11), (12, F12), (13, F13), (14, F14), (15, F15), (16, F16), (19, F19), (20, F20), (21, F21), (22, F22), (23, F23), (25, F25), (24, F24), (26, F26), (28, F28), (29, F29), (36, F36), (37, F37), (38, F38), (39, F39), (40, F40), (41, F41), (43, F43), (44, F44), (45, F45), (48, F48), (49, F49), (51, F51), (55, F55), (56, F56), (58, F58), (57, F57), (59, F59), (60, F60), (61, F61), (62, F62), (63, F63), (64, F64), (68, F68), (69, F69), (81, F81), (86, F86), (79, F79), (99, F99), (100, qD1), (115, qD2)]
end
end Go.Proofs.H09

/- It is the program's code. -/
import Derived.Test.YtbhffafppahmjaaGreatDoorChecked
import Derived.KernelRfl
import Derived.Test.YtbhffafppahmjaaGreatDoorE2
import Derived.Test.YtbhffafppahmjaaGreatDoorIr11
set_option linter.unusedVariables false
set_option linter.unusedSimpArgs false
set_option linter.unnecessarySimpa false
namespace Go.Proofs.H11
open Go Go.Eng
set_option maxRecDepth 1000000
theorem ok3 : FunOk Tryz.prog 3 F3 := ⟨Tryz.f3, _, hintF Hn3, K3, [], Tryz.func3, by kernel_rfl, rfl, by kernel_rfl, by kernel_rfl⟩
theorem ok4 : FunOk Tryz.prog 4 F4 := ⟨Tryz.f4, _, hintF Hn4, K4, [], Tryz.func4, by kernel_rfl, rfl, by kernel_rfl, by kernel_rfl⟩
theorem ok5 : FunOk Tryz.prog 5 F5 := ⟨Tryz.f5, _, hintF Hn5, K5, [], Tryz.func5, by kernel_rfl, rfl, by kernel_rfl, by kernel_rfl⟩
theorem ok6 : FunOk Tryz.prog 6 F6 := ⟨Tryz.f6, _, hintF Hn6, K6, [], Tryz.func6, by kernel_rfl, rfl, by kernel_rfl, by kernel_rfl⟩
theorem ok7 : FunOk Tryz.prog 7 F7 := ⟨Tryz.f7, _, hintF Hn7, K7, [], Tryz.func7, by kernel_rfl, rfl, by kernel_rfl, by kernel_rfl⟩
theorem ok10 : FunOk Tryz.prog 10 F10 := ⟨Tryz.f10, _, hintF Hn10, K10, [], Tryz.func10, by kernel_rfl, rfl, by kernel_rfl, by kernel_rfl⟩
theorem ok8 : FunOk Tryz.prog 8 F8 := ⟨Tryz.f8, _, hintF Hn8, K8, [], Tryz.func8, by kernel_rfl, rfl, by kernel_rfl, by kernel_rfl⟩
theorem ok9 : FunOk Tryz.prog 9 F9 := ⟨Tryz.f9, _, hintF Hn9, K9, [], Tryz.func9, by kernel_rfl, rfl, by kernel_rfl, by kernel_rfl⟩
theorem ok11 : FunOk Tryz.prog 11 F11 := ⟨Tryz.f11, _, hintF Hn11, K11, [], Tryz.func11, by kernel_rfl, rfl, by kernel_rfl, by kernel_rfl⟩
theorem ok12 : FunOk Tryz.prog 12 F12 := ⟨Tryz.f12, _, hintF Hn12, K12, [], Tryz.func12, by kernel_rfl, rfl, by kernel_rfl, by kernel_rfl⟩
theorem ok13 : FunOk Tryz.prog 13 F13 := ⟨Tryz.f13, _, hintF Hn13, K13, [], Tryz.func13, by kernel_rfl, rfl, by kernel_rfl, by kernel_rfl⟩
theorem ok14 : FunOk Tryz.prog 14 F14 := ⟨Tryz.f14, _, hintF Hn14, K14, [], Tryz.func14, by kernel_rfl, rfl, by kernel_rfl, by kernel_rfl⟩
theorem ok15 : FunOk Tryz.prog 15 F15 := ⟨Tryz.f15, _, hintF Hn15, K15, [], Tryz.func15, by kernel_rfl, rfl, by kernel_rfl, by kernel_rfl⟩
theorem ok16 : FunOk Tryz.prog 16 F16 := ⟨Tryz.f16, _, hintF Hn16, K16, [], Tryz.func16, by kernel_rfl, rfl, by kernel_rfl, by kernel_rfl⟩
theorem ok17 : FunOk Tryz.prog 17 F17 := ⟨Tryz.f17, _, hintF Hn17, K17, [], Tryz.func17, by kernel_rfl, rfl, by kernel_rfl, by kernel_rfl⟩
theorem ok18 : FunOk Tryz.prog 18 F18 := ⟨Tryz.f18, _, hintF Hn18, K18, [], Tryz.func18, by kernel_rfl, rfl, by kernel_rfl, by kernel_rfl⟩
theorem ok19 : FunOk Tryz.prog 19 F19 := ⟨Tryz.f19, _, hintF Hn19, K19, [], Tryz.func19, by kernel_rfl, rfl, by kernel_rfl, by kernel_rfl⟩
theorem ok20 : FunOk Tryz.prog 20 F20 := ⟨Tryz.f20, _, hintF Hn20, K20, [], Tryz.func20, by kernel_rfl, rfl, by kernel_rfl, by kernel_rfl⟩
theorem ok21 : FunOk Tryz.prog 21 F21 := ⟨Tryz.f21, _, hintF Hn21, K21, [], Tryz.func21, by kernel_rfl, rfl, by kernel_rfl, by kernel_rfl⟩
theorem ok22 : FunOk Tryz.prog 22 F22 := ⟨Tryz.f22, _, hintF Hn22, K22, [], Tryz.func22, by kernel_rfl, rfl, by kernel_rfl, by kernel_rfl⟩
theorem ok23 : FunOk Tryz.prog 23 F23 := ⟨Tryz.f23, _, hintF Hn23, K23, [], Tryz.func23, by kernel_rfl, rfl, by kernel_rfl, by kernel_rfl⟩
theorem ok24 : FunOk Tryz.prog 24 F24 := ⟨Tryz.f24, _, hintF Hn24, K24, [], Tryz.func24, by kernel_rfl, rfl, by kernel_rfl, by kernel_rfl⟩
theorem ok25 : FunOk Tryz.prog 25 F25 := ⟨Tryz.f25, _, hintF Hn25, K25, [], Tryz.func25, by kernel_rfl, rfl, by kernel_rfl, by kernel_rfl⟩
theorem ok26 : FunOk Tryz.prog 26 F26 := ⟨Tryz.f26, _, hintF Hn26, K26, [], Tryz.func26, by kernel_rfl, rfl, by kernel_rfl, by kernel_rfl⟩
theorem ok27 : FunOk Tryz.prog 27 F27 := ⟨Tryz.f27, _, hintF Hn27, K27, [], Tryz.func27, by kernel_rfl, rfl, by kernel_rfl, by kernel_rfl⟩
theorem ok28 : FunOk Tryz.prog 28 F28 := ⟨Tryz.f28, _, hintF Hn28, K28, [], Tryz.func28, by kernel_rfl, rfl, by kernel_rfl, by kernel_rfl⟩
theorem ok29 : FunOk Tryz.prog 29 F29 := ⟨Tryz.f29, _, hintF Hn29, K29, [], Tryz.func29, by kernel_rfl, rfl, by kernel_rfl, by kernel_rfl⟩
theorem ok30 : FunOk Tryz.prog 30 F30 := ⟨Tryz.f30, _, hintF Hn30, K30, [], Tryz.func30, by kernel_rfl, rfl, by kernel_rfl, by kernel_rfl⟩
theorem ok31 : FunOk Tryz.prog 31 F31 := ⟨Tryz.f31, _, hintF Hn31, K31, [], Tryz.func31, by kernel_rfl, rfl, by kernel_rfl, by kernel_rfl⟩
theorem ok32 : FunOk Tryz.prog 32 F32 := ⟨Tryz.f32, _, hintF Hn32, K32, [], Tryz.func32, by kernel_rfl, rfl, by kernel_rfl, by kernel_rfl⟩
theorem ok33 : FunOk Tryz.prog 33 F33 := ⟨Tryz.f33, _, hintF Hn33, K33, [], Tryz.func33, by kernel_rfl, rfl, by kernel_rfl, by kernel_rfl⟩
theorem ok34 : FunOk Tryz.prog 34 F34 := ⟨Tryz.f34, _, hintF Hn34, K34, [], Tryz.func34, by kernel_rfl, rfl, by kernel_rfl, by kernel_rfl⟩
theorem ok35 : FunOk Tryz.prog 35 F35 := ⟨Tryz.f35, _, hintF Hn35, K35, [], Tryz.func35, by kernel_rfl, rfl, by kernel_rfl, by kernel_rfl⟩
theorem ok36 : FunOk Tryz.prog 36 F36 := ⟨Tryz.f36, _, hintF Hn36, K36, [], Tryz.func36, by kernel_rfl, rfl, by kernel_rfl, by kernel_rfl⟩
theorem ok37 : FunOk Tryz.prog 37 F37 := ⟨Tryz.f37, _, hintF Hn37, K37, [], Tryz.func37, by kernel_rfl, rfl, by kernel_rfl, by kernel_rfl⟩
theorem ok38 : FunOk Tryz.prog 38 F38 := ⟨Tryz.f38, _, hintF Hn38, K38, [], Tryz.func38, by kernel_rfl, rfl, by kernel_rfl, by kernel_rfl⟩
theorem ok39 : FunOk Tryz.prog 39 F39 := ⟨Tryz.f39, _, hintF Hn39, K39, [], Tryz.func39, by kernel_rfl, rfl, by kernel_rfl, by kernel_rfl⟩
theorem ok40 : FunOk Tryz.prog 40 F40 := ⟨Tryz.f40, _, hintF Hn40, K40, [], Tryz.func40, by kernel_rfl, rfl, by kernel_rfl, by kernel_rfl⟩
theorem ok41 : FunOk Tryz.prog 41 F41 := ⟨Tryz.f41, _, hintF Hn41, K41, [], Tryz.func41, by kernel_rfl, rfl, by kernel_rfl, by kernel_rfl⟩
theorem ok42 : FunOk Tryz.prog 42 F42 := ⟨Tryz.f42, _, hintF Hn42, K42, [], Tryz.func42, by kernel_rfl, rfl, by kernel_rfl, by kernel_rfl⟩
theorem ok44 : FunOk Tryz.prog 44 F44 := ⟨Tryz.f44, _, hintF Hn44, K44, [], Tryz.func44, by kernel_rfl, rfl, by kernel_rfl, by kernel_rfl⟩
theorem ok43 : FunOk Tryz.prog 43 F43 := ⟨Tryz.f43, _, hintF Hn43, K43, [], Tryz.func43, by kernel_rfl, rfl, by kernel_rfl, by kernel_rfl⟩
theorem ok45 : FunOk Tryz.prog 45 F45 := ⟨Tryz.f45, _, hintF Hn45, K45, [], Tryz.func45, by kernel_rfl, rfl, by kernel_rfl, by kernel_rfl⟩
theorem ok46 : FunOk Tryz.prog 46 F46 := ⟨Tryz.f46, _, hintF Hn46, K46, [], Tryz.func46, by kernel_rfl, rfl, by kernel_rfl, by kernel_rfl⟩
theorem ok47 : FunOk Tryz.prog 47 F47 := ⟨Tryz.f47, _, hintF Hn47, K47, [], Tryz.func47, by kernel_rfl, rfl, by kernel_rfl, by kernel_rfl⟩
theorem ok48 : FunOk Tryz.prog 48 F48 := ⟨Tryz.f48, _, hintF Hn48, K48, [], Tryz.func48, by kernel_rfl, rfl, by kernel_rfl, by kernel_rfl⟩
theorem ok49 : FunOk Tryz.prog 49 F49 := ⟨Tryz.f49, _, hintF Hn49, K49, [], Tryz.func49, by kernel_rfl, rfl, by kernel_rfl, by kernel_rfl⟩
theorem ok50 : FunOk Tryz.prog 50 F50 := ⟨Tryz.f50, _, hintF Hn50, K50, [], Tryz.func50, by kernel_rfl, rfl, by kernel_rfl, by kernel_rfl⟩
theorem ok51 : FunOk Tryz.prog 51 F51 := ⟨Tryz.f51, _, hintF Hn51, K51, [], Tryz.func51, by kernel_rfl, rfl, by kernel_rfl, by kernel_rfl⟩
theorem ok52 : FunOk Tryz.prog 52 F52 := ⟨Tryz.f52, _, hintF Hn52, K52, [], Tryz.func52, by kernel_rfl, rfl, by kernel_rfl, by kernel_rfl⟩
theorem ok53 : FunOk Tryz.prog 53 F53 := ⟨Tryz.f53, _, hintF Hn53, K53, [], Tryz.func53, by kernel_rfl, rfl, by kernel_rfl, by kernel_rfl⟩
theorem ok55 : FunOk Tryz.prog 55 F55 := ⟨Tryz.f55, _, hintF Hn55, K55, [], Tryz.func55, by kernel_rfl, rfl, by kernel_rfl, by kernel_rfl⟩
theorem ok56 : FunOk Tryz.prog 56 F56 := ⟨Tryz.f56, _, hintF Hn56, K56, [], Tryz.func56, by kernel_rfl, rfl, by kernel_rfl, by kernel_rfl⟩
theorem ok57 : FunOk Tryz.prog 57 F57 := ⟨Tryz.f57, _, hintF Hn57, K57, [], Tryz.func57, by kernel_rfl, rfl, by kernel_rfl, by kernel_rfl⟩
theorem ok58 : FunOk Tryz.prog 58 F58 := ⟨Tryz.f58, _, hintF Hn58, K58, [], Tryz.func58, by kernel_rfl, rfl, by kernel_rfl, by kernel_rfl⟩
theorem ok62 : FunOk Tryz.prog 62 F62 := ⟨Tryz.f62, _, hintF Hn62, K62, [], Tryz.func62, by kernel_rfl, rfl, by kernel_rfl, by kernel_rfl⟩
theorem ok63 : FunOk Tryz.prog 63 F63 := ⟨Tryz.f63, _, hintF Hn63, K63, [], Tryz.func63, by kernel_rfl, rfl, by kernel_rfl, by kernel_rfl⟩
theorem ok64 : FunOk Tryz.prog 64 F64 := ⟨Tryz.f64, _, hintF Hn64, K64, [], Tryz.func64, by kernel_rfl, rfl, by kernel_rfl, by kernel_rfl⟩
theorem ok65 : FunOk Tryz.prog 65 F65 := ⟨Tryz.f65, _, hintF Hn65, K65, [], Tryz.func65, by kernel_rfl, rfl, by kernel_rfl, by kernel_rfl⟩
theorem ok67 : FunOk Tryz.prog 67 F67 := ⟨Tryz.f67, _, hintF Hn67, K67, [], Tryz.func67, by kernel_rfl, rfl, by kernel_rfl, by kernel_rfl⟩
theorem ok66 : FunOk Tryz.prog 66 F66 := ⟨Tryz.f66, _, hintF Hn66, K66, [], Tryz.func66, by kernel_rfl, rfl, by kernel_rfl, by kernel_rfl⟩
theorem ok68 : FunOk Tryz.prog 68 F68 := ⟨Tryz.f68, _, hintF Hn68, K68, [], Tryz.func68, by kernel_rfl, rfl, by kernel_rfl, by kernel_rfl⟩
theorem ok69 : FunOk Tryz.prog 69 F69 := ⟨Tryz.f69, _, hintF Hn69, K69, [], Tryz.func69, by kernel_rfl, rfl, by kernel_rfl, by kernel_rfl⟩
theorem ok72 : FunOk Tryz.prog 72 F72 := ⟨Tryz.f72, _, hintF Hn72, K72, [], Tryz.func72, by kernel_rfl, rfl, by kernel_rfl, by kernel_rfl⟩
theorem ok71 : FunOk Tryz.prog 71 F71 := ⟨Tryz.f71, _, hintF Hn71, K71, [], Tryz.func71, by kernel_rfl, rfl, by kernel_rfl, by kernel_rfl⟩
theorem ok73 : FunOk Tryz.prog 73 F73 := ⟨Tryz.f73, _, hintF Hn73, K73, [], Tryz.func73, by kernel_rfl, rfl, by kernel_rfl, by kernel_rfl⟩
theorem ok75 : FunOk Tryz.prog 75 F75 := ⟨Tryz.f75, _, hintF Hn75, K75, [], Tryz.func75, by kernel_rfl, rfl, by kernel_rfl, by kernel_rfl⟩
theorem ok77 : FunOk Tryz.prog 77 F77 := ⟨Tryz.f77, _, hintF Hn77, K77, [], Tryz.func77, by kernel_rfl, rfl, by kernel_rfl, by kernel_rfl⟩
theorem ok82 : FunOk Tryz.prog 82 F82 := ⟨Tryz.f82, _, hintF Hn82, K82, [], Tryz.func82, by kernel_rfl, rfl, by kernel_rfl, by kernel_rfl⟩
theorem ok85 : FunOk Tryz.prog 85 F85 := ⟨Tryz.f85, _, hintF Hn85, K85, [], Tryz.func85, by kernel_rfl, rfl, by kernel_rfl, by kernel_rfl⟩
theorem ok86 : FunOk Tryz.prog 86 F86 := ⟨Tryz.f86, _, hintF Hn86, K86, [], Tryz.func86, by kernel_rfl, rfl, by kernel_rfl, by kernel_rfl⟩
theorem ok97 : FunOk Tryz.prog 97 F97 := ⟨Tryz.f97, _, hintF Hn97, K97, [], Tryz.func97, by kernel_rfl, rfl, by kernel_rfl, by kernel_rfl⟩
theorem ok98 : FunOk Tryz.prog 98 F98 := ⟨Tryz.f98, _, hintF Hn98, K98, [], Tryz.func98, by kernel_rfl, rfl, by kernel_rfl, by kernel_rfl⟩
theorem ok106 : FunOk Tryz.prog 106 F106 := ⟨Tryz.f106, _, hintF Hn106, K106, [], Tryz.func106, by kernel_rfl, rfl, by kernel_rfl, by kernel_rfl⟩
theorem ok70 : FunOk Tryz.prog 70 F70 := ⟨Tryz.f70, _, hintF Hn70, K70, [], Tryz.func70, by kernel_rfl, rfl, by kernel_rfl, by kernel_rfl⟩
theorem ok80 : FunOk Tryz.prog 80 F80 := ⟨Tryz.f80, _, hintF Hn80, K80, [], Tryz.func80, by kernel_rfl, rfl, by kernel_rfl, by kernel_rfl⟩
theorem ok81 : FunOk Tryz.prog 81 F81 := ⟨Tryz.f81, _, hintF Hn81, K81, [], Tryz.func81, by kernel_rfl, rfl, by kernel_rfl, by kernel_rfl⟩
theorem ok91 : FunOk Tryz.prog 91 F91 := ⟨Tryz.f91, _, hintF Hn91, K91, [], Tryz.func91, by kernel_rfl, rfl, by kernel_rfl, by kernel_rfl⟩
theorem tab_ok : ∀ (l : List (Nat × Fun)), (∀ p ∈ l, FunOk Tryz.prog p.1 p.2) → ∀ f F, lookF l f = some F → FunOk Tryz.prog f F
  | [], _, f, F, h => by simp [lookF] at h
  | (i, G) :: l, hl, f, F, h => by
    simp only [lookF] at h
    split at h
    · rename_i e; subst e; cases h; exact hl (_, _) List.mem_cons_self
    · exact tab_ok l (fun p hp => hl p (by simp [hp])) f F h
theorem tab_all : ∀ p ∈ tab, FunOk Tryz.prog p.1 p.2 := by
  intro p hp
  simp only [tab, List.mem_cons, List.not_mem_nil, or_false] at hp
  rcases hp with rfl | rfl | rfl | rfl | rfl | rfl | rfl | rfl | rfl | rfl | rfl | rfl | rfl | rfl | rfl | rfl | rfl | rfl | rfl | rfl | rfl | rfl | rfl | rfl | rfl | rfl | rfl | rfl | rfl | rfl | rfl | rfl | rfl | rfl | rfl | rfl | rfl | rfl | rfl | rfl | rfl | rfl | rfl | rfl | rfl | rfl | rfl | rfl | rfl | rfl | rfl | rfl | rfl | rfl | rfl | rfl | rfl | rfl | rfl | rfl | rfl | rfl | rfl | rfl | rfl | rfl | rfl | rfl | rfl | rfl | rfl | rfl | rfl | rfl | rfl | rfl | rfl | rfl
  · exact ok3
  · exact ok4
  · exact ok5
  · exact ok6
  · exact ok7
  · exact ok10
  · exact ok8
  · exact ok9
  · exact ok11
  · exact ok12
  · exact ok13
  · exact ok14
  · exact ok15
  · exact ok16
  · exact ok17
  · exact ok18
  · exact ok19
  · exact ok20
  · exact ok21
  · exact ok22
  · exact ok23
  · exact ok24
  · exact ok25
  · exact ok26
  · exact ok27
  · exact ok28
  · exact ok29
  · exact ok30
  · exact ok31
  · exact ok32
  · exact ok33
  · exact ok34
  · exact ok35
  · exact ok36
  · exact ok37
  · exact ok38
  · exact ok39
  · exact ok40
  · exact ok41
  · exact ok42
  · exact ok44
  · exact ok43
  · exact ok45
  · exact ok46
  · exact ok47
  · exact ok48
  · exact ok49
  · exact ok50
  · exact ok51
  · exact ok52
  · exact ok53
  · exact ok55
  · exact ok56
  · exact ok57
  · exact ok58
  · exact ok62
  · exact ok63
  · exact ok64
  · exact ok65
  · exact ok67
  · exact ok66
  · exact ok68
  · exact ok69
  · exact ok72
  · exact ok71
  · exact ok73
  · exact ok75
  · exact ok77
  · exact ok82
  · exact ok85
  · exact ok86
  · exact ok97
  · exact ok98
  · exact ok106
  · exact ok70
  · exact ok80
  · exact ok81
  · exact ok91
end Go.Proofs.H11

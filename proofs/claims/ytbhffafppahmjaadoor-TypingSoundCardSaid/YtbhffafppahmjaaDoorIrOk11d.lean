/- It is the program's code. -/
import Derived.Test.YtbhffafppahmjaaDoorChecked
import Derived.KernelRfl
import Derived.Test.YtbhffafppahmjaaDoorE2
import Derived.Test.YtbhffafppahmjaaDoorIr11d
set_option linter.unusedVariables false
set_option linter.unusedSimpArgs false
set_option linter.unnecessarySimpa false
namespace Go.Proofs.H11d
open Go Go.Eng
set_option maxRecDepth 1000000
theorem ok3 : FunOk Tryd.prog 3 F3 := ⟨Tryd.f3, _, hintF Hn3, K3, [], Tryd.func3, by kernel_rfl, rfl, by kernel_rfl, by kernel_rfl⟩
theorem ok4 : FunOk Tryd.prog 4 F4 := ⟨Tryd.f4, _, hintF Hn4, K4, [], Tryd.func4, by kernel_rfl, rfl, by kernel_rfl, by kernel_rfl⟩
theorem ok5 : FunOk Tryd.prog 5 F5 := ⟨Tryd.f5, _, hintF Hn5, K5, [], Tryd.func5, by kernel_rfl, rfl, by kernel_rfl, by kernel_rfl⟩
theorem ok6 : FunOk Tryd.prog 6 F6 := ⟨Tryd.f6, _, hintF Hn6, K6, [], Tryd.func6, by kernel_rfl, rfl, by kernel_rfl, by kernel_rfl⟩
theorem ok7 : FunOk Tryd.prog 7 F7 := ⟨Tryd.f7, _, hintF Hn7, K7, [], Tryd.func7, by kernel_rfl, rfl, by kernel_rfl, by kernel_rfl⟩
theorem ok8 : FunOk Tryd.prog 8 F8 := ⟨Tryd.f8, _, hintF Hn8, K8, [], Tryd.func8, by kernel_rfl, rfl, by kernel_rfl, by kernel_rfl⟩
theorem ok9 : FunOk Tryd.prog 9 F9 := ⟨Tryd.f9, _, hintF Hn9, K9, [], Tryd.func9, by kernel_rfl, rfl, by kernel_rfl, by kernel_rfl⟩
theorem ok10 : FunOk Tryd.prog 10 F10 := ⟨Tryd.f10, _, hintF Hn10, K10, [], Tryd.func10, by kernel_rfl, rfl, by kernel_rfl, by kernel_rfl⟩
theorem ok11 : FunOk Tryd.prog 11 F11 := ⟨Tryd.f11, _, hintF Hn11, K11, [], Tryd.func11, by kernel_rfl, rfl, by kernel_rfl, by kernel_rfl⟩
theorem ok12 : FunOk Tryd.prog 12 F12 := ⟨Tryd.f12, _, hintF Hn12, K12, [], Tryd.func12, by kernel_rfl, rfl, by kernel_rfl, by kernel_rfl⟩
theorem ok13 : FunOk Tryd.prog 13 F13 := ⟨Tryd.f13, _, hintF Hn13, K13, [], Tryd.func13, by kernel_rfl, rfl, by kernel_rfl, by kernel_rfl⟩
theorem ok14 : FunOk Tryd.prog 14 F14 := ⟨Tryd.f14, _, hintF Hn14, K14, [], Tryd.func14, by kernel_rfl, rfl, by kernel_rfl, by kernel_rfl⟩
theorem ok15 : FunOk Tryd.prog 15 F15 := ⟨Tryd.f15, _, hintF Hn15, K15, [], Tryd.func15, by kernel_rfl, rfl, by kernel_rfl, by kernel_rfl⟩
theorem ok16 : FunOk Tryd.prog 16 F16 := ⟨Tryd.f16, _, hintF Hn16, K16, [], Tryd.func16, by kernel_rfl, rfl, by kernel_rfl, by kernel_rfl⟩
theorem ok17 : FunOk Tryd.prog 17 F17 := ⟨Tryd.f17, _, hintF Hn17, K17, [], Tryd.func17, by kernel_rfl, rfl, by kernel_rfl, by kernel_rfl⟩
theorem ok18 : FunOk Tryd.prog 18 F18 := ⟨Tryd.f18, _, hintF Hn18, K18, [], Tryd.func18, by kernel_rfl, rfl, by kernel_rfl, by kernel_rfl⟩
theorem ok19 : FunOk Tryd.prog 19 F19 := ⟨Tryd.f19, _, hintF Hn19, K19, [], Tryd.func19, by kernel_rfl, rfl, by kernel_rfl, by kernel_rfl⟩
theorem ok20 : FunOk Tryd.prog 20 F20 := ⟨Tryd.f20, _, hintF Hn20, K20, [], Tryd.func20, by kernel_rfl, rfl, by kernel_rfl, by kernel_rfl⟩
theorem ok21 : FunOk Tryd.prog 21 F21 := ⟨Tryd.f21, _, hintF Hn21, K21, [], Tryd.func21, by kernel_rfl, rfl, by kernel_rfl, by kernel_rfl⟩
theorem ok22 : FunOk Tryd.prog 22 F22 := ⟨Tryd.f22, _, hintF Hn22, K22, [], Tryd.func22, by kernel_rfl, rfl, by kernel_rfl, by kernel_rfl⟩
theorem ok23 : FunOk Tryd.prog 23 F23 := ⟨Tryd.f23, _, hintF Hn23, K23, [], Tryd.func23, by kernel_rfl, rfl, by kernel_rfl, by kernel_rfl⟩
theorem ok24 : FunOk Tryd.prog 24 F24 := ⟨Tryd.f24, _, hintF Hn24, K24, [], Tryd.func24, by kernel_rfl, rfl, by kernel_rfl, by kernel_rfl⟩
theorem ok25 : FunOk Tryd.prog 25 F25 := ⟨Tryd.f25, _, hintF Hn25, K25, [], Tryd.func25, by kernel_rfl, rfl, by kernel_rfl, by kernel_rfl⟩
theorem ok26 : FunOk Tryd.prog 26 F26 := ⟨Tryd.f26, _, hintF Hn26, K26, [], Tryd.func26, by kernel_rfl, rfl, by kernel_rfl, by kernel_rfl⟩
theorem ok27 : FunOk Tryd.prog 27 F27 := ⟨Tryd.f27, _, hintF Hn27, K27, [], Tryd.func27, by kernel_rfl, rfl, by kernel_rfl, by kernel_rfl⟩
theorem ok28 : FunOk Tryd.prog 28 F28 := ⟨Tryd.f28, _, hintF Hn28, K28, [], Tryd.func28, by kernel_rfl, rfl, by kernel_rfl, by kernel_rfl⟩
theorem ok29 : FunOk Tryd.prog 29 F29 := ⟨Tryd.f29, _, hintF Hn29, K29, [], Tryd.func29, by kernel_rfl, rfl, by kernel_rfl, by kernel_rfl⟩
theorem ok30 : FunOk Tryd.prog 30 F30 := ⟨Tryd.f30, _, hintF Hn30, K30, [], Tryd.func30, by kernel_rfl, rfl, by kernel_rfl, by kernel_rfl⟩
theorem ok32 : FunOk Tryd.prog 32 F32 := ⟨Tryd.f32, _, hintF Hn32, K32, [], Tryd.func32, by kernel_rfl, rfl, by kernel_rfl, by kernel_rfl⟩
theorem ok31 : FunOk Tryd.prog 31 F31 := ⟨Tryd.f31, _, hintF Hn31, K31, [], Tryd.func31, by kernel_rfl, rfl, by kernel_rfl, by kernel_rfl⟩
theorem ok33 : FunOk Tryd.prog 33 F33 := ⟨Tryd.f33, _, hintF Hn33, K33, [], Tryd.func33, by kernel_rfl, rfl, by kernel_rfl, by kernel_rfl⟩
theorem ok34 : FunOk Tryd.prog 34 F34 := ⟨Tryd.f34, _, hintF Hn34, K34, [], Tryd.func34, by kernel_rfl, rfl, by kernel_rfl, by kernel_rfl⟩
theorem ok35 : FunOk Tryd.prog 35 F35 := ⟨Tryd.f35, _, hintF Hn35, K35, [], Tryd.func35, by kernel_rfl, rfl, by kernel_rfl, by kernel_rfl⟩
theorem ok36 : FunOk Tryd.prog 36 F36 := ⟨Tryd.f36, _, hintF Hn36, K36, [], Tryd.func36, by kernel_rfl, rfl, by kernel_rfl, by kernel_rfl⟩
theorem ok37 : FunOk Tryd.prog 37 F37 := ⟨Tryd.f37, _, hintF Hn37, K37, [], Tryd.func37, by kernel_rfl, rfl, by kernel_rfl, by kernel_rfl⟩
theorem ok39 : FunOk Tryd.prog 39 F39 := ⟨Tryd.f39, _, hintF Hn39, K39, [], Tryd.func39, by kernel_rfl, rfl, by kernel_rfl, by kernel_rfl⟩
theorem ok40 : FunOk Tryd.prog 40 F40 := ⟨Tryd.f40, _, hintF Hn40, K40, [], Tryd.func40, by kernel_rfl, rfl, by kernel_rfl, by kernel_rfl⟩
theorem ok41 : FunOk Tryd.prog 41 F41 := ⟨Tryd.f41, _, hintF Hn41, K41, [], Tryd.func41, by kernel_rfl, rfl, by kernel_rfl, by kernel_rfl⟩
theorem ok45 : FunOk Tryd.prog 45 F45 := ⟨Tryd.f45, _, hintF Hn45, K45, [], Tryd.func45, by kernel_rfl, rfl, by kernel_rfl, by kernel_rfl⟩
theorem ok46 : FunOk Tryd.prog 46 F46 := ⟨Tryd.f46, _, hintF Hn46, K46, [], Tryd.func46, by kernel_rfl, rfl, by kernel_rfl, by kernel_rfl⟩
theorem ok47 : FunOk Tryd.prog 47 F47 := ⟨Tryd.f47, _, hintF Hn47, K47, [], Tryd.func47, by kernel_rfl, rfl, by kernel_rfl, by kernel_rfl⟩
theorem ok48 : FunOk Tryd.prog 48 F48 := ⟨Tryd.f48, _, hintF Hn48, K48, [], Tryd.func48, by kernel_rfl, rfl, by kernel_rfl, by kernel_rfl⟩
theorem ok50 : FunOk Tryd.prog 50 F50 := ⟨Tryd.f50, _, hintF Hn50, K50, [], Tryd.func50, by kernel_rfl, rfl, by kernel_rfl, by kernel_rfl⟩
theorem ok49 : FunOk Tryd.prog 49 F49 := ⟨Tryd.f49, _, hintF Hn49, K49, [], Tryd.func49, by kernel_rfl, rfl, by kernel_rfl, by kernel_rfl⟩
theorem ok51 : FunOk Tryd.prog 51 F51 := ⟨Tryd.f51, _, hintF Hn51, K51, [], Tryd.func51, by kernel_rfl, rfl, by kernel_rfl, by kernel_rfl⟩
theorem ok52 : FunOk Tryd.prog 52 F52 := ⟨Tryd.f52, _, hintF Hn52, K52, [], Tryd.func52, by kernel_rfl, rfl, by kernel_rfl, by kernel_rfl⟩
theorem ok55 : FunOk Tryd.prog 55 F55 := ⟨Tryd.f55, _, hintF Hn55, K55, [], Tryd.func55, by kernel_rfl, rfl, by kernel_rfl, by kernel_rfl⟩
theorem ok54 : FunOk Tryd.prog 54 F54 := ⟨Tryd.f54, _, hintF Hn54, K54, [], Tryd.func54, by kernel_rfl, rfl, by kernel_rfl, by kernel_rfl⟩
theorem ok56 : FunOk Tryd.prog 56 F56 := ⟨Tryd.f56, _, hintF Hn56, K56, [], Tryd.func56, by kernel_rfl, rfl, by kernel_rfl, by kernel_rfl⟩
theorem ok58 : FunOk Tryd.prog 58 F58 := ⟨Tryd.f58, _, hintF Hn58, K58, [], Tryd.func58, by kernel_rfl, rfl, by kernel_rfl, by kernel_rfl⟩
theorem ok60 : FunOk Tryd.prog 60 F60 := ⟨Tryd.f60, _, hintF Hn60, K60, [], Tryd.func60, by kernel_rfl, rfl, by kernel_rfl, by kernel_rfl⟩
theorem ok65 : FunOk Tryd.prog 65 F65 := ⟨Tryd.f65, _, hintF Hn65, K65, [], Tryd.func65, by kernel_rfl, rfl, by kernel_rfl, by kernel_rfl⟩
theorem ok68 : FunOk Tryd.prog 68 F68 := ⟨Tryd.f68, _, hintF Hn68, K68, [], Tryd.func68, by kernel_rfl, rfl, by kernel_rfl, by kernel_rfl⟩
theorem ok69 : FunOk Tryd.prog 69 F69 := ⟨Tryd.f69, _, hintF Hn69, K69, [], Tryd.func69, by kernel_rfl, rfl, by kernel_rfl, by kernel_rfl⟩
theorem ok80 : FunOk Tryd.prog 80 F80 := ⟨Tryd.f80, _, hintF Hn80, K80, [], Tryd.func80, by kernel_rfl, rfl, by kernel_rfl, by kernel_rfl⟩
theorem ok81 : FunOk Tryd.prog 81 F81 := ⟨Tryd.f81, _, hintF Hn81, K81, [], Tryd.func81, by kernel_rfl, rfl, by kernel_rfl, by kernel_rfl⟩
theorem ok89 : FunOk Tryd.prog 89 F89 := ⟨Tryd.f89, _, hintF Hn89, K89, [], Tryd.func89, by kernel_rfl, rfl, by kernel_rfl, by kernel_rfl⟩
theorem ok53 : FunOk Tryd.prog 53 F53 := ⟨Tryd.f53, _, hintF Hn53, K53, [], Tryd.func53, by kernel_rfl, rfl, by kernel_rfl, by kernel_rfl⟩
theorem ok63 : FunOk Tryd.prog 63 F63 := ⟨Tryd.f63, _, hintF Hn63, K63, [], Tryd.func63, by kernel_rfl, rfl, by kernel_rfl, by kernel_rfl⟩
theorem ok64 : FunOk Tryd.prog 64 F64 := ⟨Tryd.f64, _, hintF Hn64, K64, [], Tryd.func64, by kernel_rfl, rfl, by kernel_rfl, by kernel_rfl⟩
theorem ok74 : FunOk Tryd.prog 74 F74 := ⟨Tryd.f74, _, hintF Hn74, K74, [], Tryd.func74, by kernel_rfl, rfl, by kernel_rfl, by kernel_rfl⟩
theorem tab_ok : ∀ (l : List (Nat × Fun)), (∀ p ∈ l, FunOk Tryd.prog p.1 p.2) → ∀ f F, lookF l f = some F → FunOk Tryd.prog f F
  | [], _, f, F, h => by simp [lookF] at h
  | (i, G) :: l, hl, f, F, h => by
    simp only [lookF] at h
    split at h
    · rename_i e; subst e; cases h; exact hl (_, _) List.mem_cons_self
    · exact tab_ok l (fun p hp => hl p (by simp [hp])) f F h
theorem tab_all : ∀ p ∈ tab, FunOk Tryd.prog p.1 p.2 := by
  intro p hp
  simp only [tab, List.mem_cons, List.not_mem_nil, or_false] at hp
  rcases hp with rfl | rfl | rfl | rfl | rfl | rfl | rfl | rfl | rfl | rfl | rfl | rfl | rfl | rfl | rfl | rfl | rfl | rfl | rfl | rfl | rfl | rfl | rfl | rfl | rfl | rfl | rfl | rfl | rfl | rfl | rfl | rfl | rfl | rfl | rfl | rfl | rfl | rfl | rfl | rfl | rfl | rfl | rfl | rfl | rfl | rfl | rfl | rfl | rfl | rfl | rfl | rfl | rfl | rfl | rfl | rfl | rfl | rfl | rfl | rfl | rfl
  · exact ok3
  · exact ok4
  · exact ok5
  · exact ok6
  · exact ok7
  · exact ok8
  · exact ok9
  · exact ok10
  · exact ok11
  · exact ok12
  · exact ok13
  · exact ok14
  · exact ok15
  · exact ok16
  · exact ok17
  · exact ok18
  · exact ok19
  · exact ok20
  · exact ok21
  · exact ok22
  · exact ok23
  · exact ok24
  · exact ok25
  · exact ok26
  · exact ok27
  · exact ok28
  · exact ok29
  · exact ok30
  · exact ok32
  · exact ok31
  · exact ok33
  · exact ok34
  · exact ok35
  · exact ok36
  · exact ok37
  · exact ok39
  · exact ok40
  · exact ok41
  · exact ok45
  · exact ok46
  · exact ok47
  · exact ok48
  · exact ok50
  · exact ok49
  · exact ok51
  · exact ok52
  · exact ok55
  · exact ok54
  · exact ok56
  · exact ok58
  · exact ok60
  · exact ok65
  · exact ok68
  · exact ok69
  · exact ok80
  · exact ok81
  · exact ok89
  · exact ok53
  · exact ok63
  · exact ok64
  · exact ok74
end Go.Proofs.H11d

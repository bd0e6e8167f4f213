/- It is the program's code. -/
import Derived.Test.YtpoebijgpbaccaaChecked
import Derived.KernelRfl
import Derived.Test.YtpoebijgpbaccaaE2
import Derived.Test.YtpoebijgpbaccaaIr53
set_option linter.unusedVariables false
set_option linter.unusedSimpArgs false
set_option linter.unnecessarySimpa false
namespace Go.Proofs.H53
open Go Go.Eng
set_option maxRecDepth 1000000

theorem ok3 : FunOk Try.prog 3 F3 := ⟨Try.f3, _, hintF Hn3, K3, [], Try.func3, by kernel_rfl, rfl, by kernel_rfl, by kernel_rfl⟩
theorem ok4 : FunOk Try.prog 4 F4 := ⟨Try.f4, _, hintF Hn4, K4, [], Try.func4, by kernel_rfl, rfl, by kernel_rfl, by kernel_rfl⟩
theorem ok5 : FunOk Try.prog 5 F5 := ⟨Try.f5, _, hintF Hn5, K5, [], Try.func5, by kernel_rfl, rfl, by kernel_rfl, by kernel_rfl⟩
theorem ok6 : FunOk Try.prog 6 F6 := ⟨Try.f6, _, hintF Hn6, K6, [], Try.func6, by kernel_rfl, rfl, by kernel_rfl, by kernel_rfl⟩
theorem ok7 : FunOk Try.prog 7 F7 := ⟨Try.f7, _, hintF Hn7, K7, [], Try.func7, by kernel_rfl, rfl, by kernel_rfl, by kernel_rfl⟩
theorem ok8 : FunOk Try.prog 8 F8 := ⟨Try.f8, _, hintF Hn8, K8, [], Try.func8, by kernel_rfl, rfl, by kernel_rfl, by kernel_rfl⟩
theorem ok9 : FunOk Try.prog 9 F9 := ⟨Try.f9, _, hintF Hn9, K9, [], Try.func9, by kernel_rfl, rfl, by kernel_rfl, by kernel_rfl⟩
theorem ok10 : FunOk Try.prog 10 F10 := ⟨Try.f10, _, hintF Hn10, K10, [], Try.func10, by kernel_rfl, rfl, by kernel_rfl, by kernel_rfl⟩
theorem ok11 : FunOk Try.prog 11 F11 := ⟨Try.f11, _, hintF Hn11, K11, [], Try.func11, by kernel_rfl, rfl, by kernel_rfl, by kernel_rfl⟩
theorem ok12 : FunOk Try.prog 12 F12 := ⟨Try.f12, _, hintF Hn12, K12, [], Try.func12, by kernel_rfl, rfl, by kernel_rfl, by kernel_rfl⟩
theorem ok13 : FunOk Try.prog 13 F13 := ⟨Try.f13, _, hintF Hn13, K13, [], Try.func13, by kernel_rfl, rfl, by kernel_rfl, by kernel_rfl⟩
theorem ok14 : FunOk Try.prog 14 F14 := ⟨Try.f14, _, hintF Hn14, K14, [], Try.func14, by kernel_rfl, rfl, by kernel_rfl, by kernel_rfl⟩
theorem ok15 : FunOk Try.prog 15 F15 := ⟨Try.f15, _, hintF Hn15, K15, [], Try.func15, by kernel_rfl, rfl, by kernel_rfl, by kernel_rfl⟩
theorem ok16 : FunOk Try.prog 16 F16 := ⟨Try.f16, _, hintF Hn16, K16, [], Try.func16, by kernel_rfl, rfl, by kernel_rfl, by kernel_rfl⟩
theorem ok17 : FunOk Try.prog 17 F17 := ⟨Try.f17, _, hintF Hn17, K17, [], Try.func17, by kernel_rfl, rfl, by kernel_rfl, by kernel_rfl⟩
theorem ok18 : FunOk Try.prog 18 F18 := ⟨Try.f18, _, hintF Hn18, K18, [], Try.func18, by kernel_rfl, rfl, by kernel_rfl, by kernel_rfl⟩
theorem ok19 : FunOk Try.prog 19 F19 := ⟨Try.f19, _, hintF Hn19, K19, [], Try.func19, by kernel_rfl, rfl, by kernel_rfl, by kernel_rfl⟩
theorem ok20 : FunOk Try.prog 20 F20 := ⟨Try.f20, _, hintF Hn20, K20, [], Try.func20, by kernel_rfl, rfl, by kernel_rfl, by kernel_rfl⟩
theorem ok21 : FunOk Try.prog 21 F21 := ⟨Try.f21, _, hintF Hn21, K21, [], Try.func21, by kernel_rfl, rfl, by kernel_rfl, by kernel_rfl⟩
theorem ok22 : FunOk Try.prog 22 F22 := ⟨Try.f22, _, hintF Hn22, K22, [], Try.func22, by kernel_rfl, rfl, by kernel_rfl, by kernel_rfl⟩
theorem ok23 : FunOk Try.prog 23 F23 := ⟨Try.f23, _, hintF Hn23, K23, [], Try.func23, by kernel_rfl, rfl, by kernel_rfl, by kernel_rfl⟩
theorem ok24 : FunOk Try.prog 24 F24 := ⟨Try.f24, _, hintF Hn24, K24, [], Try.func24, by kernel_rfl, rfl, by kernel_rfl, by kernel_rfl⟩
theorem ok25 : FunOk Try.prog 25 F25 := ⟨Try.f25, _, hintF Hn25, K25, [], Try.func25, by kernel_rfl, rfl, by kernel_rfl, by kernel_rfl⟩
theorem ok26 : FunOk Try.prog 26 F26 := ⟨Try.f26, _, hintF Hn26, K26, [], Try.func26, by kernel_rfl, rfl, by kernel_rfl, by kernel_rfl⟩
theorem ok27 : FunOk Try.prog 27 F27 := ⟨Try.f27, _, hintF Hn27, K27, [], Try.func27, by kernel_rfl, rfl, by kernel_rfl, by kernel_rfl⟩
theorem ok28 : FunOk Try.prog 28 F28 := ⟨Try.f28, _, hintF Hn28, K28, [], Try.func28, by kernel_rfl, rfl, by kernel_rfl, by kernel_rfl⟩
theorem ok29 : FunOk Try.prog 29 F29 := ⟨Try.f29, _, hintF Hn29, K29, [], Try.func29, by kernel_rfl, rfl, by kernel_rfl, by kernel_rfl⟩
theorem ok30 : FunOk Try.prog 30 F30 := ⟨Try.f30, _, hintF Hn30, K30, [], Try.func30, by kernel_rfl, rfl, by kernel_rfl, by kernel_rfl⟩
theorem ok32 : FunOk Try.prog 32 F32 := ⟨Try.f32, _, hintF Hn32, K32, [], Try.func32, by kernel_rfl, rfl, by kernel_rfl, by kernel_rfl⟩
theorem ok31 : FunOk Try.prog 31 F31 := ⟨Try.f31, _, hintF Hn31, K31, [], Try.func31, by kernel_rfl, rfl, by kernel_rfl, by kernel_rfl⟩
theorem ok33 : FunOk Try.prog 33 F33 := ⟨Try.f33, _, hintF Hn33, K33, [], Try.func33, by kernel_rfl, rfl, by kernel_rfl, by kernel_rfl⟩
theorem ok78 : FunOk Try.prog 78 F78 := ⟨Try.f78, _, hintF Hn78, K78, [], Try.func78, by kernel_rfl, rfl, by kernel_rfl, by kernel_rfl⟩
theorem ok77 : FunOk Try.prog 77 F77 := ⟨Try.f77, _, hintF Hn77, K77, [], Try.func77, by kernel_rfl, rfl, by kernel_rfl, by kernel_rfl⟩
theorem ok34 : FunOk Try.prog 34 F34 := ⟨Try.f34, _, hintF Hn34, K34, [], Try.func34, by kernel_rfl, rfl, by kernel_rfl, by kernel_rfl⟩
theorem ok35 : FunOk Try.prog 35 F35 := ⟨Try.f35, _, hintF Hn35, K35, [], Try.func35, by kernel_rfl, rfl, by kernel_rfl, by kernel_rfl⟩
theorem ok36 : FunOk Try.prog 36 F36 := ⟨Try.f36, _, hintF Hn36, K36, [], Try.func36, by kernel_rfl, rfl, by kernel_rfl, by kernel_rfl⟩
theorem ok37 : FunOk Try.prog 37 F37 := ⟨Try.f37, _, hintF Hn37, K37, [], Try.func37, by kernel_rfl, rfl, by kernel_rfl, by kernel_rfl⟩
theorem ok38 : FunOk Try.prog 38 F38 := ⟨Try.f38, _, hintF Hn38, K38, [], Try.func38, by kernel_rfl, rfl, by kernel_rfl, by kernel_rfl⟩
theorem ok39 : FunOk Try.prog 39 F39 := ⟨Try.f39, _, hintF Hn39, K39, [], Try.func39, by kernel_rfl, rfl, by kernel_rfl, by kernel_rfl⟩
theorem ok40 : FunOk Try.prog 40 F40 := ⟨Try.f40, _, hintF Hn40, K40, [], Try.func40, by kernel_rfl, rfl, by kernel_rfl, by kernel_rfl⟩
theorem ok41 : FunOk Try.prog 41 F41 := ⟨Try.f41, _, hintF Hn41, K41, [], Try.func41, by kernel_rfl, rfl, by kernel_rfl, by kernel_rfl⟩
theorem ok42 : FunOk Try.prog 42 F42 := ⟨Try.f42, _, hintF Hn42, K42, [], Try.func42, by kernel_rfl, rfl, by kernel_rfl, by kernel_rfl⟩
theorem ok43 : FunOk Try.prog 43 F43 := ⟨Try.f43, _, hintF Hn43, K43, [], Try.func43, by kernel_rfl, rfl, by kernel_rfl, by kernel_rfl⟩
theorem ok45 : FunOk Try.prog 45 F45 := ⟨Try.f45, _, hintF Hn45, K45, [], Try.func45, by kernel_rfl, rfl, by kernel_rfl, by kernel_rfl⟩
theorem ok44 : FunOk Try.prog 44 F44 := ⟨Try.f44, _, hintF Hn44, K44, [], Try.func44, by kernel_rfl, rfl, by kernel_rfl, by kernel_rfl⟩
theorem ok46 : FunOk Try.prog 46 F46 := ⟨Try.f46, _, hintF Hn46, K46, [], Try.func46, by kernel_rfl, rfl, by kernel_rfl, by kernel_rfl⟩
theorem ok47 : FunOk Try.prog 47 F47 := ⟨Try.f47, _, hintF Hn47, K47, [], Try.func47, by kernel_rfl, rfl, by kernel_rfl, by kernel_rfl⟩
theorem ok48 : FunOk Try.prog 48 F48 := ⟨Try.f48, _, hintF Hn48, K48, [], Try.func48, by kernel_rfl, rfl, by kernel_rfl, by kernel_rfl⟩
theorem ok49 : FunOk Try.prog 49 F49 := ⟨Try.f49, _, hintF Hn49, K49, [], Try.func49, by kernel_rfl, rfl, by kernel_rfl, by kernel_rfl⟩
theorem ok50 : FunOk Try.prog 50 F50 := ⟨Try.f50, _, hintF Hn50, K50, [], Try.func50, by kernel_rfl, rfl, by kernel_rfl, by kernel_rfl⟩
theorem ok51 : FunOk Try.prog 51 F51 := ⟨Try.f51, _, hintF Hn51, K51, [], Try.func51, by kernel_rfl, rfl, by kernel_rfl, by kernel_rfl⟩
theorem ok53 : FunOk Try.prog 53 F53 := ⟨Try.f53, _, hintF Hn53, K53, [], Try.func53, by kernel_rfl, rfl, by kernel_rfl, by kernel_rfl⟩
theorem ok54 : FunOk Try.prog 54 F54 := ⟨Try.f54, _, hintF Hn54, K54, [], Try.func54, by kernel_rfl, rfl, by kernel_rfl, by kernel_rfl⟩
theorem ok55 : FunOk Try.prog 55 F55 := ⟨Try.f55, _, hintF Hn55, K55, [], Try.func55, by kernel_rfl, rfl, by kernel_rfl, by kernel_rfl⟩
theorem ok56 : FunOk Try.prog 56 F56 := ⟨Try.f56, _, hintF Hn56, K56, [], Try.func56, by kernel_rfl, rfl, by kernel_rfl, by kernel_rfl⟩
theorem ok57 : FunOk Try.prog 57 F57 := ⟨Try.f57, _, hintF Hn57, K57, [], Try.func57, by kernel_rfl, rfl, by kernel_rfl, by kernel_rfl⟩
theorem ok58 : FunOk Try.prog 58 F58 := ⟨Try.f58, _, hintF Hn58, K58, [], Try.func58, by kernel_rfl, rfl, by kernel_rfl, by kernel_rfl⟩
theorem ok60 : FunOk Try.prog 60 F60 := ⟨Try.f60, _, hintF Hn60, K60, [], Try.func60, by kernel_rfl, rfl, by kernel_rfl, by kernel_rfl⟩
theorem ok59 : FunOk Try.prog 59 F59 := ⟨Try.f59, _, hintF Hn59, K59, [], Try.func59, by kernel_rfl, rfl, by kernel_rfl, by kernel_rfl⟩
theorem ok61 : FunOk Try.prog 61 F61 := ⟨Try.f61, _, hintF Hn61, K61, [], Try.func61, by kernel_rfl, rfl, by kernel_rfl, by kernel_rfl⟩

theorem tab_ok : ∀ (l : List (Nat × Fun)), (∀ p ∈ l, FunOk Try.prog p.1 p.2) → ∀ f F, lookF l f = some F → FunOk Try.prog f F
  | [], _, f, F, h => by simp [lookF] at h
  | (i, G) :: l, hl, f, F, h => by
    simp only [lookF] at h
    split at h
    · rename_i e; subst e; cases h; exact hl (_, _) List.mem_cons_self
    · exact tab_ok l (fun p hp => hl p (by simp [hp])) f F h

theorem tab_all : ∀ p ∈ tab, FunOk Try.prog p.1 p.2 := by
  intro p hp
  simp only [tab, List.mem_cons, List.not_mem_nil, or_false] at hp
  rcases hp with rfl | rfl | rfl | rfl | rfl | rfl | rfl | rfl | rfl | rfl | rfl | rfl | rfl | rfl | rfl | rfl | rfl | rfl | rfl | rfl | rfl | rfl | rfl | rfl | rfl | rfl | rfl | rfl | rfl | rfl | rfl | rfl | rfl | rfl | rfl | rfl | rfl | rfl | rfl | rfl | rfl | rfl | rfl | rfl | rfl | rfl | rfl | rfl | rfl | rfl | rfl | rfl | rfl | rfl | rfl | rfl | rfl | rfl
  · exact ok3
  · exact ok4
  · exact ok5
  · exact ok6
  · exact ok7
  · exact ok8
  · exact ok9
  · exact ok10
  · exact ok11
  · exact ok12
  · exact ok13
  · exact ok14
  · exact ok15
  · exact ok16
  · exact ok17
  · exact ok18
  · exact ok19
  · exact ok20
  · exact ok21
  · exact ok22
  · exact ok23
  · exact ok24
  · exact ok25
  · exact ok26
  · exact ok27
  · exact ok28
  · exact ok29
  · exact ok30
  · exact ok32
  · exact ok31
  · exact ok33
  · exact ok78
  · exact ok77
  · exact ok36
  · exact ok37
  · exact ok38
  · exact ok39
  · exact ok40
  · exact ok41
  · exact ok42
  · exact ok43
  · exact ok45
  · exact ok44
  · exact ok46
  · exact ok47
  · exact ok48
  · exact ok49
  · exact ok50
  · exact ok51
  · exact ok53
  · exact ok54
  · exact ok55
  · exact ok56
  · exact ok57
  · exact ok58
  · exact ok60
  · exact ok59
  · exact ok61

end Go.Proofs.H53

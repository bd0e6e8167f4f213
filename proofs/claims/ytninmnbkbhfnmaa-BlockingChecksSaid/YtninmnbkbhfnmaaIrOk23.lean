/- It is the program's code. -/
import Derived.Test.YtninmnbkbhfnmaaChecked
import Derived.KernelRfl
import Derived.Test.YtninmnbkbhfnmaaE2
import Derived.Test.YtninmnbkbhfnmaaIr23
set_option linter.unusedVariables false
set_option linter.unusedSimpArgs false
set_option linter.unnecessarySimpa false
namespace Go.Proofs.H23
open Go Go.Eng
set_option maxRecDepth 1000000

theorem ok3 : FunOk Go.Proofs.Try.prog 3 F3 := ⟨Go.Proofs.Try.f3, _, K3, [], Go.Proofs.Try.func3, by kernel_rfl, rfl, by kernel_rfl, by kernel_rfl⟩
theorem ok4 : FunOk Go.Proofs.Try.prog 4 F4 := ⟨Go.Proofs.Try.f4, _, K4, [], Go.Proofs.Try.func4, by kernel_rfl, rfl, by kernel_rfl, by kernel_rfl⟩
theorem ok5 : FunOk Go.Proofs.Try.prog 5 F5 := ⟨Go.Proofs.Try.f5, _, K5, [], Go.Proofs.Try.func5, by kernel_rfl, rfl, by kernel_rfl, by kernel_rfl⟩
theorem ok6 : FunOk Go.Proofs.Try.prog 6 F6 := ⟨Go.Proofs.Try.f6, _, K6, [], Go.Proofs.Try.func6, by kernel_rfl, rfl, by kernel_rfl, by kernel_rfl⟩
theorem ok7 : FunOk Go.Proofs.Try.prog 7 F7 := ⟨Go.Proofs.Try.f7, _, K7, [], Go.Proofs.Try.func7, by kernel_rfl, rfl, by kernel_rfl, by kernel_rfl⟩
theorem ok8 : FunOk Go.Proofs.Try.prog 8 F8 := ⟨Go.Proofs.Try.f8, _, K8, [], Go.Proofs.Try.func8, by kernel_rfl, rfl, by kernel_rfl, by kernel_rfl⟩
theorem ok9 : FunOk Go.Proofs.Try.prog 9 F9 := ⟨Go.Proofs.Try.f9, _, K9, [], Go.Proofs.Try.func9, by kernel_rfl, rfl, by kernel_rfl, by kernel_rfl⟩
theorem ok10 : FunOk Go.Proofs.Try.prog 10 F10 := ⟨Go.Proofs.Try.f10, _, K10, [], Go.Proofs.Try.func10, by kernel_rfl, rfl, by kernel_rfl, by kernel_rfl⟩
theorem ok11 : FunOk Go.Proofs.Try.prog 11 F11 := ⟨Go.Proofs.Try.f11, _, K11, [], Go.Proofs.Try.func11, by kernel_rfl, rfl, by kernel_rfl, by kernel_rfl⟩
theorem ok12 : FunOk Go.Proofs.Try.prog 12 F12 := ⟨Go.Proofs.Try.f12, _, K12, [], Go.Proofs.Try.func12, by kernel_rfl, rfl, by kernel_rfl, by kernel_rfl⟩
theorem ok13 : FunOk Go.Proofs.Try.prog 13 F13 := ⟨Go.Proofs.Try.f13, _, K13, [], Go.Proofs.Try.func13, by kernel_rfl, rfl, by kernel_rfl, by kernel_rfl⟩
theorem ok14 : FunOk Go.Proofs.Try.prog 14 F14 := ⟨Go.Proofs.Try.f14, _, K14, [], Go.Proofs.Try.func14, by kernel_rfl, rfl, by kernel_rfl, by kernel_rfl⟩
theorem ok15 : FunOk Go.Proofs.Try.prog 15 F15 := ⟨Go.Proofs.Try.f15, _, K15, [], Go.Proofs.Try.func15, by kernel_rfl, rfl, by kernel_rfl, by kernel_rfl⟩
theorem ok16 : FunOk Go.Proofs.Try.prog 16 F16 := ⟨Go.Proofs.Try.f16, _, K16, [], Go.Proofs.Try.func16, by kernel_rfl, rfl, by kernel_rfl, by kernel_rfl⟩
theorem ok17 : FunOk Go.Proofs.Try.prog 17 F17 := ⟨Go.Proofs.Try.f17, _, K17, [], Go.Proofs.Try.func17, by kernel_rfl, rfl, by kernel_rfl, by kernel_rfl⟩
theorem ok18 : FunOk Go.Proofs.Try.prog 18 F18 := ⟨Go.Proofs.Try.f18, _, K18, [], Go.Proofs.Try.func18, by kernel_rfl, rfl, by kernel_rfl, by kernel_rfl⟩
theorem ok19 : FunOk Go.Proofs.Try.prog 19 F19 := ⟨Go.Proofs.Try.f19, _, K19, [], Go.Proofs.Try.func19, by kernel_rfl, rfl, by kernel_rfl, by kernel_rfl⟩
theorem ok20 : FunOk Go.Proofs.Try.prog 20 F20 := ⟨Go.Proofs.Try.f20, _, K20, [], Go.Proofs.Try.func20, by kernel_rfl, rfl, by kernel_rfl, by kernel_rfl⟩
theorem ok21 : FunOk Go.Proofs.Try.prog 21 F21 := ⟨Go.Proofs.Try.f21, _, K21, [], Go.Proofs.Try.func21, by kernel_rfl, rfl, by kernel_rfl, by kernel_rfl⟩
theorem ok22 : FunOk Go.Proofs.Try.prog 22 F22 := ⟨Go.Proofs.Try.f22, _, K22, [], Go.Proofs.Try.func22, by kernel_rfl, rfl, by kernel_rfl, by kernel_rfl⟩
theorem ok23 : FunOk Go.Proofs.Try.prog 23 F23 := ⟨Go.Proofs.Try.f23, _, K23, [], Go.Proofs.Try.func23, by kernel_rfl, rfl, by kernel_rfl, by kernel_rfl⟩
theorem ok24 : FunOk Go.Proofs.Try.prog 24 F24 := ⟨Go.Proofs.Try.f24, _, K24, [], Go.Proofs.Try.func24, by kernel_rfl, rfl, by kernel_rfl, by kernel_rfl⟩
theorem ok25 : FunOk Go.Proofs.Try.prog 25 F25 := ⟨Go.Proofs.Try.f25, _, K25, [], Go.Proofs.Try.func25, by kernel_rfl, rfl, by kernel_rfl, by kernel_rfl⟩
theorem ok26 : FunOk Go.Proofs.Try.prog 26 F26 := ⟨Go.Proofs.Try.f26, _, K26, [], Go.Proofs.Try.func26, by kernel_rfl, rfl, by kernel_rfl, by kernel_rfl⟩
theorem ok27 : FunOk Go.Proofs.Try.prog 27 F27 := ⟨Go.Proofs.Try.f27, _, K27, [], Go.Proofs.Try.func27, by kernel_rfl, rfl, by kernel_rfl, by kernel_rfl⟩
theorem ok28 : FunOk Go.Proofs.Try.prog 28 F28 := ⟨Go.Proofs.Try.f28, _, K28, [], Go.Proofs.Try.func28, by kernel_rfl, rfl, by kernel_rfl, by kernel_rfl⟩
theorem ok29 : FunOk Go.Proofs.Try.prog 29 F29 := ⟨Go.Proofs.Try.f29, _, K29, [], Go.Proofs.Try.func29, by kernel_rfl, rfl, by kernel_rfl, by kernel_rfl⟩
theorem ok31 : FunOk Go.Proofs.Try.prog 31 F31 := ⟨Go.Proofs.Try.f31, _, K31, [], Go.Proofs.Try.func31, by kernel_rfl, rfl, by kernel_rfl, by kernel_rfl⟩
theorem ok30 : FunOk Go.Proofs.Try.prog 30 F30 := ⟨Go.Proofs.Try.f30, _, K30, [], Go.Proofs.Try.func30, by kernel_rfl, rfl, by kernel_rfl, by kernel_rfl⟩
theorem ok32 : FunOk Go.Proofs.Try.prog 32 F32 := ⟨Go.Proofs.Try.f32, _, K32, [], Go.Proofs.Try.func32, by kernel_rfl, rfl, by kernel_rfl, by kernel_rfl⟩
theorem ok33 : FunOk Go.Proofs.Try.prog 33 F33 := ⟨Go.Proofs.Try.f33, _, K33, [], Go.Proofs.Try.func33, by kernel_rfl, rfl, by kernel_rfl, by kernel_rfl⟩
theorem ok35 : FunOk Go.Proofs.Try.prog 35 F35 := ⟨Go.Proofs.Try.f35, _, K35, [], Go.Proofs.Try.func35, by kernel_rfl, rfl, by kernel_rfl, by kernel_rfl⟩
theorem ok34 : FunOk Go.Proofs.Try.prog 34 F34 := ⟨Go.Proofs.Try.f34, _, K34, [], Go.Proofs.Try.func34, by kernel_rfl, rfl, by kernel_rfl, by kernel_rfl⟩
theorem ok37 : FunOk Go.Proofs.Try.prog 37 F37 := ⟨Go.Proofs.Try.f37, _, K37, [], Go.Proofs.Try.func37, by kernel_rfl, rfl, by kernel_rfl, by kernel_rfl⟩
theorem ok36 : FunOk Go.Proofs.Try.prog 36 F36 := ⟨Go.Proofs.Try.f36, _, K36, [], Go.Proofs.Try.func36, by kernel_rfl, rfl, by kernel_rfl, by kernel_rfl⟩

theorem tab_ok : ∀ (l : List (Nat × Fun)), (∀ p ∈ l, FunOk Go.Proofs.Try.prog p.1 p.2) → ∀ f F, lookF l f = some F → FunOk Go.Proofs.Try.prog f F
  | [], _, f, F, h => by simp [lookF] at h
  | (i, G) :: l, hl, f, F, h => by
    simp only [lookF] at h
    split at h
    · rename_i e; subst e; cases h; exact hl (_, _) List.mem_cons_self
    · exact tab_ok l (fun p hp => hl p (by simp [hp])) f F h

theorem tab_all : ∀ p ∈ tab, FunOk Go.Proofs.Try.prog p.1 p.2 := by
  intro p hp
  simp only [tab, List.mem_cons, List.not_mem_nil, or_false] at hp
  rcases hp with rfl | rfl | rfl | rfl | rfl | rfl | rfl | rfl | rfl | rfl | rfl | rfl | rfl | rfl | rfl | rfl | rfl | rfl | rfl | rfl | rfl | rfl | rfl | rfl | rfl | rfl | rfl | rfl | rfl | rfl | rfl | rfl | rfl | rfl | rfl
  · exact ok3
  · exact ok4
  · exact ok5
  · exact ok6
  · exact ok7
  · exact ok8
  · exact ok9
  · exact ok10
  · exact ok11
  · exact ok12
  · exact ok13
  · exact ok14
  · exact ok15
  · exact ok16
  · exact ok17
  · exact ok18
  · exact ok19
  · exact ok20
  · exact ok21
  · exact ok22
  · exact ok23
  · exact ok24
  · exact ok25
  · exact ok26
  · exact ok27
  · exact ok28
  · exact ok29
  · exact ok31
  · exact ok30
  · exact ok32
  · exact ok33
  · exact ok35
  · exact ok34
  · exact ok37
  · exact ok36

end Go.Proofs.H23

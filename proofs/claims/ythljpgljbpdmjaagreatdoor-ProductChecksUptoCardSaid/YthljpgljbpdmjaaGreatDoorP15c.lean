/- What the machine says holds of the program. -/
import Derived.Test.YthljpgljbpdmjaaGreatDoorIP15c
import Derived.Test.YthljpgljbpdmjaaGreatDoorIrOk15c
import Derived.Test.YthljpgljbpdmjaaGreatDoorSh15c
set_option linter.unusedVariables false
set_option linter.unusedSimpArgs false
set_option linter.unnecessarySimpa false
namespace Go.Proofs.H15c
open Go Go.Eng Go.Shelf
set_option maxRecDepth 100000
theorem progOk : qy8 Tryz.prog IP := by
 refine ⟨fun _ _ h => tab_all.look h, fun f g _ hs => ?_, fun _ _ _ _ h => by cases h⟩
 have hs' : qNh f = some g := hs
 unfold qNh at hs'
 split at hs'
 ·rename_i hf; subst hf; cases hs'
  exact qwl (ρ := Tryz.lays138_ren) Tryz.lays138 (by exact ⟨_, Tryz.func152, by kernel_rfl, by kernel_rfl⟩)
 split at hs'
 ·rename_i hf; subst hf; cases hs'
  exact qtT (ρ := Tryz.lays157_ren) Tryz.lays157 (by kernel_rfl) (by exact ⟨_, Tryz.func188, by kernel_rfl, by kernel_rfl⟩) rfl
 split at hs'
 ·rename_i hf; subst hf; cases hs'
  exact qGe (ρ := Tryz.lays217_ren) Tryz.lays217 (by exact ⟨_, Tryz.func191, by kernel_rfl, by kernel_rfl⟩)
 split at hs'
 ·rename_i hf; subst hf; cases hs'
  exact qya (ρ := Tryz.laysC174_ren) Tryz.laysC174 (by exact ⟨_, Tryz.func186, by kernel_rfl, by kernel_rfl⟩) (t1 := 250) (x1 := .ptr []) (t2 := 250) (x2 := .ptr []) rfl rfl
 split at hs'
 ·rename_i hf; subst hf; cases hs'
  exact qzS (ρ := Tryz.laysC172_ren) Tryz.laysC172 (by exact ⟨_, Tryz.func200, by kernel_rfl, by kernel_rfl⟩) (t1 := 250) (x1 := .ptr []) (t2 := 250) (x2 := .ptr []) rfl rfl
 split at hs'
 ·rename_i hf; subst hf; cases hs'
  exact qhv qVn qSO qSP qSQ
 split at hs'
 ·rename_i hf; subst hf; cases hs'
  exact qhv qVD qSR qSS qST
 split at hs'
 ·rename_i hf; subst hf; cases hs'
  exact qhv qVJ qSU qSV qSW
 ·cases hs'
end Go.Proofs.H15c

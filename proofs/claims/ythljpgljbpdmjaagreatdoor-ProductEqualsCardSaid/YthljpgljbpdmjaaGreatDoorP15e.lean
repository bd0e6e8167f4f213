/- What the machine says holds of the program. -/
import Derived.Test.YthljpgljbpdmjaaGreatDoorIP15e
import Derived.Test.YthljpgljbpdmjaaGreatDoorIrOk15e
import Derived.Test.YthljpgljbpdmjaaGreatDoorSh15e
set_option linter.unusedVariables false
set_option linter.unusedSimpArgs false
set_option linter.unnecessarySimpa false
namespace Go.Proofs.H15e
open Go Go.Eng Go.Shelf
set_option maxRecDepth 100000
theorem progOk : ProgOk Tryz.prog IP := by
  refine ⟨fun f F h => tab_ok tab tab_all f F h, fun f g _ hs => ?_⟩
  have hs' : specs f = some g := hs
  unfold specs at hs'
  split at hs'
  · rename_i hf; subst hf; cases hs'
    exact count_spec (ρ := Tryz.lays138_ren) Tryz.lays138 (by exact ⟨_, Tryz.func152, by kernel_rfl, by kernel_rfl⟩)
  split at hs'
  · rename_i hf; subst hf; cases hs'
    exact fields_spec (ρ := Tryz.lays157_ren) Tryz.lays157 (by kernel_rfl) (by exact ⟨_, Tryz.func188, by kernel_rfl, by kernel_rfl⟩) rfl
  split at hs'
  · rename_i hf; subst hf; cases hs'
    exact idx_spec (ρ := Tryz.lays217_ren) Tryz.lays217 (by exact ⟨_, Tryz.func191, by kernel_rfl, by kernel_rfl⟩)
  split at hs'
  · rename_i hf; subst hf; cases hs'
    exact parse_spec (ρ := Tryz.laysC174_ren) Tryz.laysC174 (by exact ⟨_, Tryz.func186, by kernel_rfl, by kernel_rfl⟩) (t1 := 250) (x1 := .ptr []) (t2 := 250) (x2 := .ptr []) rfl rfl
  split at hs'
  · rename_i hf; subst hf; cases hs'
    exact atoi_spec (ρ := Tryz.laysC172_ren) Tryz.laysC172 (by exact ⟨_, Tryz.func200, by kernel_rfl, by kernel_rfl⟩) (t1 := 250) (x1 := .ptr []) (t2 := 250) (x2 := .ptr []) rfl rfl
  split at hs'
  · rename_i hf; subst hf; cases hs'
    exact clone_spec ok38 cl38a cl38b cl38c
  split at hs'
  · rename_i hf; subst hf; cases hs'
    exact clone_spec ok58 cl58a cl58b cl58c
  split at hs'
  · rename_i hf; subst hf; cases hs'
    exact clone_spec ok70 cl70a cl70b cl70c
  · cases hs'
end Go.Proofs.H15e

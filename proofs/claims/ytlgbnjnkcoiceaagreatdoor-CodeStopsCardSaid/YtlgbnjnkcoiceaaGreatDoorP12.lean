/- What the machine says holds of the program. -/
import Derived.Test.YtlgbnjnkcoiceaaGreatDoorIP12
import Derived.Test.YtlgbnjnkcoiceaaGreatDoorIrOk12
import Derived.Test.YtlgbnjnkcoiceaaGreatDoorSh12
set_option linter.unusedVariables false
set_option linter.unusedSimpArgs false
set_option linter.unnecessarySimpa false
namespace Go.Proofs.H12
open Go Go.Eng Go.Shelf
set_option maxRecDepth 100000
theorem progOk : ProgOk Tryz.prog IP := by
  refine ⟨fun _ _ h => tab_all.look h, fun f g _ hs => ?_⟩
  have hs' : specs f = some g := hs
  unfold specs at hs'
  split at hs'
  · rename_i hf; subst hf; cases hs'
    exact count_spec (ρ := Tryz.lays138_ren) Tryz.lays138 (by exact ⟨_, Tryz.func104, by kernel_rfl, by kernel_rfl⟩)
  split at hs'
  · rename_i hf; subst hf; cases hs'
    exact fields_spec (ρ := Tryz.lays157_ren) Tryz.lays157 (by kernel_rfl) (by exact ⟨_, Tryz.func132, by kernel_rfl, by kernel_rfl⟩) rfl
  split at hs'
  · rename_i hf; subst hf; cases hs'
    exact idx_spec (ρ := Tryz.lays217_ren) Tryz.lays217 (by exact ⟨_, Tryz.func134, by kernel_rfl, by kernel_rfl⟩)
  split at hs'
  · rename_i hf; subst hf; cases hs'
    exact parse_spec (ρ := Tryz.laysC174_ren) Tryz.laysC174 (by exact ⟨_, Tryz.func130, by kernel_rfl, by kernel_rfl⟩) (t1 := 194) (x1 := .ptr []) (t2 := 194) (x2 := .ptr []) rfl rfl
  split at hs'
  · rename_i hf; subst hf; cases hs'
    exact atoi_spec (ρ := Tryz.laysC172_ren) Tryz.laysC172 (by exact ⟨_, Tryz.func143, by kernel_rfl, by kernel_rfl⟩) (t1 := 194) (x1 := .ptr []) (t2 := 194) (x2 := .ptr []) rfl rfl
  split at hs'
  · rename_i hf; subst hf; cases hs'
    exact itoa1_spec (ρ := Tryz.laysM171_ren) Tryz.laysM171 (by exact ⟨_, Tryz.func56, by kernel_rfl, by kernel_rfl⟩) (g := 0) (by kernel_rfl) rfl
  split at hs'
  · rename_i hf; subst hf; cases hs'
    exact clone_spec ok32 cl32a cl32b cl32c
  split at hs'
  · rename_i hf; subst hf; cases hs'
    exact clone_spec ok89 cl89a cl89b cl89c
  · cases hs'
end Go.Proofs.H12

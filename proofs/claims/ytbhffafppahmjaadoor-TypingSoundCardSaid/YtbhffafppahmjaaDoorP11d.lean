/- What the machine says holds of the program. -/
import Derived.Test.YtbhffafppahmjaaDoorIP11d
import Derived.Test.YtbhffafppahmjaaDoorIrOk11d
import Derived.Test.YtbhffafppahmjaaDoorSh11d
set_option linter.unusedVariables false
set_option linter.unusedSimpArgs false
set_option linter.unnecessarySimpa false
namespace Go.Proofs.H11d
open Go Go.Eng Go.Shelf
set_option maxRecDepth 100000
theorem progOk : ProgOk Tryd.prog IP := by
  refine ⟨fun f F h => tab_ok tab tab_all f F h, fun f g _ hs => ?_⟩
  have hs' : specs f = some g := hs
  unfold specs at hs'
  split at hs'
  · rename_i hf; subst hf; cases hs'
    exact count_spec (ρ := Tryd.lays138_ren) Tryd.lays138 (by exact ⟨_, Tryd.func38, by kernel_rfl, by kernel_rfl⟩)
  split at hs'
  · rename_i hf; subst hf; cases hs'
    exact fields_spec (ρ := Tryd.lays157_ren) Tryd.lays157 (by kernel_rfl) (by exact ⟨_, Tryd.func59, by kernel_rfl, by kernel_rfl⟩) rfl
  split at hs'
  · rename_i hf; subst hf; cases hs'
    exact idx_spec (ρ := Tryd.lays217_ren) Tryd.lays217 (by exact ⟨_, Tryd.func61, by kernel_rfl, by kernel_rfl⟩)
  split at hs'
  · rename_i hf; subst hf; cases hs'
    exact parse_spec (ρ := Tryd.laysC174_ren) Tryd.laysC174 (by exact ⟨_, Tryd.func57, by kernel_rfl, by kernel_rfl⟩) (t1 := 127) (x1 := .ptr []) (t2 := 127) (x2 := .ptr []) rfl rfl
  split at hs'
  · rename_i hf; subst hf; cases hs'
    exact atoi_spec (ρ := Tryd.laysC172_ren) Tryd.laysC172 (by exact ⟨_, Tryd.func70, by kernel_rfl, by kernel_rfl⟩) (t1 := 127) (x1 := .ptr []) (t2 := 127) (x2 := .ptr []) rfl rfl
  · cases hs'
end Go.Proofs.H11d

/- What the machine says holds of the program. -/
import Derived.Test.YtigchhcddgibhaaGreatDoorIP13
import Derived.Test.YtigchhcddgibhaaGreatDoorIrOk13
import Derived.Test.YtigchhcddgibhaaGreatDoorSh13
namespace Go.Proofs.H13
open Go Go.Eng Go.Shelf
set_option maxRecDepth 100000
set_option maxHeartbeats 2000000 in
theorem progOk : qXH Tryz.prog IP := by
 refine ⟨fun _ _ h => tab_all.look h, fun f g _ hs => ?_, fun _ _ _ _ h => by cases h⟩
 have hs' : qWr f = some g := hs
 unfold qWr at hs'
 split at hs'
 ·rename_i hf; subst hf; cases hs'
  exact qLn (ρ := Tryz.lays138_ren) Tryz.lays138 (by exact ⟨_, Tryz.func143, by kernel_rfl, by kernel_rfl⟩)
 split at hs'
 ·rename_i hf; subst hf; cases hs'
  exact qES (ρ := Tryz.lays157_ren) Tryz.lays157 (by kernel_rfl) (by exact ⟨_, Tryz.func166, by kernel_rfl, by kernel_rfl⟩) rfl
 split at hs'
 ·rename_i hf; subst hf; cases hs'
  exact qXU (ρ := Tryz.lays217_ren) Tryz.lays217 (by exact ⟨_, Tryz.func169, by kernel_rfl, by kernel_rfl⟩)
 split at hs'
 ·rename_i hf; subst hf; cases hs'
  exact qLO (ρ := Tryz.laysC174_ren) Tryz.laysC174 (by exact ⟨_, Tryz.func164, by kernel_rfl, by kernel_rfl⟩) (t1 := 253) (x1 := .ptr []) (t2 := 253) (x2 := .ptr []) rfl rfl
 split at hs'
 ·rename_i hf; subst hf; cases hs'
  exact qQx (ρ := Tryz.laysC172_ren) Tryz.laysC172 (by exact ⟨_, Tryz.func178, by kernel_rfl, by kernel_rfl⟩) (t1 := 253) (x1 := .ptr []) (t2 := 253) (x2 := .ptr []) rfl rfl
 split at hs'
 ·rename_i hf; subst hf; cases hs'
  exact qLz (ρ := Tryz.laysM171_ren) Tryz.laysM171 (by exact ⟨_, Tryz.func196, by kernel_rfl, by kernel_rfl⟩) (g := 8) (by kernel_rfl) rfl
 split at hs'
 ·rename_i hf; subst hf; cases hs'
  exact qLG (ρ := Tryz.lays264_ren) Tryz.lays264 (by exact ⟨_, Tryz.func115, by kernel_rfl, by kernel_rfl⟩)
 split at hs'
 ·rename_i hf; subst hf; cases hs'
  exact qQ4 (ρ := Tryz.lays134_ren) Tryz.lays134 (by exact ⟨_, Tryz.func159, by kernel_rfl, by kernel_rfl⟩)
 split at hs'
 ·rename_i hf; subst hf; cases hs'
  exact qLi ⟨⟨_, Tryz.func89, by kernel_rfl, by kernel_rfl, by kernel_rfl, by kernel_rfl⟩⟩
 split at hs'
 ·rename_i hf; subst hf; cases hs'
  exact qL1 ⟨⟨_, Tryz.func88, by kernel_rfl, by kernel_rfl, by kernel_rfl, by kernel_rfl⟩⟩
 split at hs'
 ·rename_i hf; subst hf; cases hs'
  exact qsJ zcw q6j q6k q6l
 split at hs'
 ·rename_i hf; subst hf; cases hs'
  exact qsJ q7r q0S q0T q0U
 ·cases hs'
end Go.Proofs.H13

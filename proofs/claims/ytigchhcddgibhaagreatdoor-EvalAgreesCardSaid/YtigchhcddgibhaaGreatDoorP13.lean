/- What the machine says holds of the program. -/
import Derived.Test.YtigchhcddgibhaaGreatDoorIP13
import Derived.Test.YtigchhcddgibhaaGreatDoorIrOk13
import Derived.Test.YtigchhcddgibhaaGreatDoorSh13
set_option linter.unusedVariables false
set_option linter.unusedSimpArgs false
set_option linter.unnecessarySimpa false
namespace Go.Proofs.H13
open Go Go.Eng Go.Shelf
set_option maxRecDepth 100000
set_option maxHeartbeats 2000000 in
theorem progOk : qHv Tryz.prog IP := by
 refine ⟨fun _ _ h => tab_all.look h, fun f g _ hs => ?_, fun _ _ _ _ h => by cases h⟩
 have hs' : q06 f = some g := hs
 unfold q06 at hs'
 split at hs'
 ·rename_i hf; subst hf; cases hs'
  exact qC3 (ρ := Tryz.lays138_ren) Tryz.lays138 (by exact ⟨_, Tryz.func143, by kernel_rfl, by kernel_rfl⟩)
 split at hs'
 ·rename_i hf; subst hf; cases hs'
  exact qzK (ρ := Tryz.lays157_ren) Tryz.lays157 (by kernel_rfl) (by exact ⟨_, Tryz.func166, by kernel_rfl, by kernel_rfl⟩) rfl
 split at hs'
 ·rename_i hf; subst hf; cases hs'
  exact qRT (ρ := Tryz.lays217_ren) Tryz.lays217 (by exact ⟨_, Tryz.func169, by kernel_rfl, by kernel_rfl⟩)
 split at hs'
 ·rename_i hf; subst hf; cases hs'
  exact qFo (ρ := Tryz.laysC174_ren) Tryz.laysC174 (by exact ⟨_, Tryz.func164, by kernel_rfl, by kernel_rfl⟩) (t1 := 253) (x1 := .ptr []) (t2 := 253) (x2 := .ptr []) rfl rfl
 split at hs'
 ·rename_i hf; subst hf; cases hs'
  exact qIU (ρ := Tryz.laysC172_ren) Tryz.laysC172 (by exact ⟨_, Tryz.func178, by kernel_rfl, by kernel_rfl⟩) (t1 := 253) (x1 := .ptr []) (t2 := 253) (x2 := .ptr []) rfl rfl
 split at hs'
 ·rename_i hf; subst hf; cases hs'
  exact qEX (ρ := Tryz.laysM171_ren) Tryz.laysM171 (by exact ⟨_, Tryz.func196, by kernel_rfl, by kernel_rfl⟩) (g := 8) (by kernel_rfl) rfl
 split at hs'
 ·rename_i hf; subst hf; cases hs'
  exact qFj (ρ := Tryz.lays264_ren) Tryz.lays264 (by exact ⟨_, Tryz.func115, by kernel_rfl, by kernel_rfl⟩)
 split at hs'
 ·rename_i hf; subst hf; cases hs'
  exact qLx (ρ := Tryz.lays134_ren) Tryz.lays134 (by exact ⟨_, Tryz.func159, by kernel_rfl, by kernel_rfl⟩)
 split at hs'
 ·rename_i hf; subst hf; cases hs'
  exact qCS ⟨⟨_, Tryz.func89, by kernel_rfl, by kernel_rfl, by kernel_rfl, by kernel_rfl⟩⟩
 split at hs'
 ·rename_i hf; subst hf; cases hs'
  exact qFw ⟨⟨_, Tryz.func88, by kernel_rfl, by kernel_rfl, by kernel_rfl, by kernel_rfl⟩⟩
 split at hs'
 ·rename_i hf; subst hf; cases hs'
  exact qrz zcP q8l q8m q8n
 split at hs'
 ·rename_i hf; subst hf; cases hs'
  exact qrz q9t q4y q4z q4A
 ·cases hs'
end Go.Proofs.H13

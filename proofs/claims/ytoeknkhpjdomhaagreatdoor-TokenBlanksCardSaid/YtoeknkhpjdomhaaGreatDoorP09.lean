/- What the machine says holds of the program. -/
import Derived.Test.YtoeknkhpjdomhaaGreatDoorIP09
import Derived.Test.YtoeknkhpjdomhaaGreatDoorIrOk09
import Derived.Test.YtoeknkhpjdomhaaGreatDoorSh09
import Derived.Test.YtoeknkhpjdomhaaGreatDoorW09
set_option linter.unusedVariables false
set_option linter.unusedSimpArgs false
set_option linter.unnecessarySimpa false
namespace Go.Proofs.H09
open Go Go.Eng Go.Shelf Go.Tk
set_option maxRecDepth 100000
theorem progOk : qpE Tryz.prog IP := by
 refine ⟨fun _ _ h => tab_all.look h, fun f g _ hs => ?_, fun f s _ _ hs => ?_⟩
 rotate_left
 ·have hs' : (if f = 18 then some (qeW 30) else none) = some s := hs
  split at hs'
  ·rename_i hf; subst hf; cases hs'; exact qzf
  ·cases hs'
 have hs' : qzy f = some g := hs
 unfold qzy at hs'
 split at hs'
 ·rename_i hf; subst hf; cases hs'
  exact qog (ρ := Tryz.lays138_ren) Tryz.lays138 (by exact ⟨_, Tryz.func27, by kernel_rfl, by kernel_rfl⟩)
 split at hs'
 ·rename_i hf; subst hf; cases hs'
  exact qmD (ρ := Tryz.lays157_ren) Tryz.lays157 (by kernel_rfl) (by exact ⟨_, Tryz.func50, by kernel_rfl, by kernel_rfl⟩) rfl
 split at hs'
 ·rename_i hf; subst hf; cases hs'
  exact qtZ (ρ := Tryz.lays217_ren) Tryz.lays217 (by exact ⟨_, Tryz.func97, by kernel_rfl, by kernel_rfl⟩)
 split at hs'
 ·rename_i hf; subst hf; cases hs'
  exact qpm (ρ := Tryz.laysC174_ren) Tryz.laysC174 (by exact ⟨_, Tryz.func80, by kernel_rfl, by kernel_rfl⟩) (t1 := 141) (x1 := .ptr []) (t2 := 141) (x2 := .ptr []) rfl rfl
 split at hs'
 ·rename_i hf; subst hf; cases hs'
  exact qp4 (ρ := Tryz.laysC172_ren) Tryz.laysC172 (by exact ⟨_, Tryz.func42, by kernel_rfl, by kernel_rfl⟩) (t1 := 141) (x1 := .ptr []) (t2 := 141) (x2 := .ptr []) rfl rfl
 split at hs'
 ·rename_i hf; subst hf; cases hs'
  exact qoJ (ρ := Tryz.laysM171_ren) Tryz.laysM171 (by exact ⟨_, Tryz.func46, by kernel_rfl, by kernel_rfl⟩) (g := 5) (by kernel_rfl) rfl
 split at hs'
 ·rename_i hf; subst hf; cases hs'
  exact qh5 (ρ := Tryz.lays162_ren) Tryz.lays162 (by exact ⟨_, Tryz.func47, by kernel_rfl, by kernel_rfl⟩)
 split at hs'
 ·rename_i hf; subst hf; cases hs'
  exact qpi (ρ := Tryz.lays264_ren) Tryz.lays264 (by exact ⟨_, Tryz.func84, by kernel_rfl, by kernel_rfl⟩)
 ·cases hs'
end Go.Proofs.H09

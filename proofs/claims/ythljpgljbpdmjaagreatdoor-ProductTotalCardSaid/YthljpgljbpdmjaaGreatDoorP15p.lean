/- What the machine says holds of the program. -/
import Derived.Test.YthljpgljbpdmjaaGreatDoorIP15p
import Derived.Test.YthljpgljbpdmjaaGreatDoorIrOk15p
import Derived.Test.YthljpgljbpdmjaaGreatDoorSh15p
set_option linter.unusedVariables false
set_option linter.unusedSimpArgs false
set_option linter.unnecessarySimpa false
namespace Go.Proofs.H15p
open Go Go.Eng Go.Shelf
set_option maxRecDepth 100000
theorem progOk:qHo Tryz.prog IP:=by
 refine ⟨fun _ _ h=>tab_all.look h,fun f g _ hs=>?_,fun _ _ _ _ h=>by cases h⟩
 have hs':q0c f = some g:=hs
 unfold q0c at hs'
 by_cases hf:f = 152
 ·subst hf; rw [if_pos rfl] at hs'; cases hs'
  exact qCV (ρ:=Tryz.lays138_ren) Tryz.lays138 (by exact ⟨_,Tryz.func152,by kernel_rfl,by kernel_rfl⟩)
 rw [if_neg hf] at hs'; clear hf
 by_cases hf:f = 188
 ·subst hf; rw [if_pos rfl] at hs'; cases hs'
  exact qzT (ρ:=Tryz.lays157_ren) Tryz.lays157 (by kernel_rfl) (by exact ⟨_,Tryz.func188,by kernel_rfl,by kernel_rfl⟩) rfl
 rw [if_neg hf] at hs'; clear hf
 by_cases hf:f = 191
 ·subst hf; rw [if_pos rfl] at hs'; cases hs'
  exact qRF (ρ:=Tryz.lays217_ren) Tryz.lays217 (by exact ⟨_,Tryz.func191,by kernel_rfl,by kernel_rfl⟩)
 rw [if_neg hf] at hs'; clear hf
 by_cases hf:f = 186
 ·subst hf; rw [if_pos rfl] at hs'; cases hs'
  exact qFv (ρ:=Tryz.laysC174_ren) Tryz.laysC174 (by exact ⟨_,Tryz.func186,by kernel_rfl,by kernel_rfl⟩) (t1:=250) (x1:=.ptr []) (t2:=250) (x2:=.ptr []) rfl rfl
 rw [if_neg hf] at hs'; clear hf
 by_cases hf:f = 200
 ·subst hf; rw [if_pos rfl] at hs'; cases hs'
  exact qIM (ρ:=Tryz.laysC172_ren) Tryz.laysC172 (by exact ⟨_,Tryz.func200,by kernel_rfl,by kernel_rfl⟩) (t1:=250) (x1:=.ptr []) (t2:=250) (x2:=.ptr []) rfl rfl
 rw [if_neg hf] at hs'; clear hf
 by_cases hf:f = 220
 ·subst hf; rw [if_pos rfl] at hs'; cases hs'
  exact qEX (ρ:=Tryz.laysM171_ren) Tryz.laysM171 (by exact ⟨_,Tryz.func220,by kernel_rfl,by kernel_rfl⟩) (g:=8) (by kernel_rfl) rfl
 rw [if_neg hf] at hs'; clear hf
 by_cases hf:f = 154
 ·subst hf; rw [if_pos rfl] at hs'; cases hs'
  exact qFq (ρ:=Tryz.lays264_ren) Tryz.lays264 (by exact ⟨_,Tryz.func154,by kernel_rfl,by kernel_rfl⟩)
 rw [if_neg hf] at hs'; clear hf
 by_cases hf:f = 203
 ·subst hf; rw [if_pos rfl] at hs'; cases hs'
  exact qLz (ρ:=Tryz.lays134_ren) Tryz.lays134 (by exact ⟨_,Tryz.func203,by kernel_rfl,by kernel_rfl⟩)
 rw [if_neg hf] at hs'; clear hf
 by_cases hf:f = 138
 ·subst hf; rw [if_pos rfl] at hs'; cases hs'
  exact qCK ⟨⟨_,Tryz.func138,by kernel_rfl,by kernel_rfl,by kernel_rfl,by kernel_rfl⟩⟩
 rw [if_neg hf] at hs'; clear hf
 by_cases hf:f = 137
 ·subst hf; rw [if_pos rfl] at hs'; cases hs'
  exact qFD ⟨⟨_,Tryz.func137,by kernel_rfl,by kernel_rfl,by kernel_rfl,by kernel_rfl⟩⟩
 rw [if_neg hf] at hs'; clear hf
 by_cases hf:f = 38
 ·subst hf; rw [if_pos rfl] at hs'; cases hs'
  exact qjA zbp q7b q7c q7d
 rw [if_neg hf] at hs'; clear hf
 by_cases hf:f = 58
 ·subst hf; rw [if_pos rfl] at hs'; cases hs'
  exact qjA zbG q7e q7f q7g
 rw [if_neg hf] at hs'; clear hf
 by_cases hf:f = 70
 ·subst hf; rw [if_pos rfl] at hs'; cases hs'
  exact qjA zbS q7h q7i q7j
 rw [if_neg hf] at hs'; cases hs'
end Go.Proofs.H15p

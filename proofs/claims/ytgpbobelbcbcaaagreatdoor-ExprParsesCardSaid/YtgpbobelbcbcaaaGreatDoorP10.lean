/- What the machine says holds of the program. -/
import Derived.Test.YtgpbobelbcbcaaaGreatDoorIP10
import Derived.Test.YtgpbobelbcbcaaaGreatDoorIrOk10
import Derived.Test.YtgpbobelbcbcaaaGreatDoorSh10
import Derived.Test.YtgpbobelbcbcaaaGreatDoorW10
import Derived.Test.YtgpbobelbcbcaaaGreatDoorE5
set_option linter.unusedVariables false
set_option linter.unusedSimpArgs false
set_option linter.unnecessarySimpa false
namespace Go.Proofs.H10
open Go Go.Eng Go.Shelf Go.Tk
set_option maxRecDepth 100000
theorem progOk:qCP Tryz.prog IP:=by
 refine ⟨fun _ _ h=>tab_all.look h,fun f g _ hs=>?_,fun f s _ _ hs=>?_⟩
 rotate_left
 ·have hs':(if f = 10 then some (qnR 29 17 53) else none) = some s:=hs
  split at hs'
  ·rename_i hf; subst hf; cases hs'; exact qKZ
  ·cases hs'
 have hs':qSH f = some g:=hs
 unfold qSH at hs'
 split at hs'
 ·rename_i hf; subst hf; cases hs'
  exact qzX (ρ:=Tryz.lays138_ren) Tryz.lays138 (by exact ⟨_,Tryz.func118,by kernel_rfl,by kernel_rfl⟩)
 split at hs'
 ·rename_i hf; subst hf; cases hs'
  exact qwR (ρ:=Tryz.lays157_ren) Tryz.lays157 (by kernel_rfl) (by exact ⟨_,Tryz.func135,by kernel_rfl,by kernel_rfl⟩) rfl
 split at hs'
 ·rename_i hf; subst hf; cases hs'
  exact qKD (ρ:=Tryz.lays217_ren) Tryz.lays217 (by exact ⟨_,Tryz.func180,by kernel_rfl,by kernel_rfl⟩)
 split at hs'
 ·rename_i hf; subst hf; cases hs'
  exact qBB (ρ:=Tryz.laysC174_ren) Tryz.laysC174 (by exact ⟨_,Tryz.func166,by kernel_rfl,by kernel_rfl⟩) (t1:=211) (x1:=.ptr []) (t2:=211) (x2:=.ptr []) rfl rfl
 split at hs'
 ·rename_i hf; subst hf; cases hs'
  exact qDw (ρ:=Tryz.laysC172_ren) Tryz.laysC172 (by exact ⟨_,Tryz.func152,by kernel_rfl,by kernel_rfl⟩) (t1:=211) (x1:=.ptr []) (t2:=211) (x2:=.ptr []) rfl rfl
 split at hs'
 ·rename_i hf; subst hf; cases hs'
  exact qA4 (ρ:=Tryz.laysM171_ren) Tryz.laysM171 (by exact ⟨_,Tryz.func55,by kernel_rfl,by kernel_rfl⟩) (g:=0) (by kernel_rfl) rfl
 split at hs'
 ·rename_i hf; subst hf; cases hs'
  exact qoQ (ρ:=Tryz.lays162_ren) Tryz.lays162 (by exact ⟨_,Tryz.func86,by kernel_rfl,by kernel_rfl⟩)
 split at hs'
 ·rename_i hf; subst hf; cases hs'
  exact qIG (ρ:=Tryz.lays190_ren) Tryz.lays190 (by exact ⟨_,Tryz.func42,by kernel_rfl,by kernel_rfl⟩)
 split at hs'
 ·rename_i hf; subst hf; cases hs'
  exact qDE (ρ:=Tryz.lays194_ren) Tryz.lays194 (by exact ⟨_,Tryz.func43,by kernel_rfl,by kernel_rfl⟩)
 ·cases hs'
end Go.Proofs.H10

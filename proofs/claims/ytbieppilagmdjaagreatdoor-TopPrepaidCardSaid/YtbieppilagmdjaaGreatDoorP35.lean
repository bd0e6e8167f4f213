/- What the machine says holds of the program. -/
import Derived.Test.YtbieppilagmdjaaGreatDoorIP35
import Derived.Test.YtbieppilagmdjaaGreatDoorIrOk35
import Derived.Test.YtbieppilagmdjaaGreatDoorSh35
import Derived.Test.YtbieppilagmdjaaGreatDoorW35a
import Derived.Test.YtbieppilagmdjaaGreatDoorW35b
import Derived.Test.YtbieppilagmdjaaGreatDoorW35c
import Derived.Test.YtbieppilagmdjaaGreatDoorW35d
set_option linter.unusedVariables false
set_option linter.unusedSimpArgs false
set_option linter.unnecessarySimpa false
namespace Go.Proofs.H35
open Go Go.Eng Go.Tk Go.Shelf
set_option maxRecDepth 100000
theorem pk1:∀ f F,IP.fn f = some F -> qag Tryz.prog f F:=fun f F h=>TabF.look (l:=tab) qOJ h
theorem pk3:∀ f s,IP.seen f = some s -> qyD Tryz.prog f s:=by
 intro f s hs
 have hs':qOv f = some s:=hs
 unfold qOv at hs'
 split at hs'
 ·rename_i hf; subst hf; cases hs'
  exact qOg
 ·cases hs'
set_option maxHeartbeats 4000000 in
theorem pk2:∀ f g,IP.spec f = some g -> qdU Tryz.prog f g:=by
 intro f g hs
 have hs':qOy f = some g:=hs
 unfold qOy at hs'
 split at hs'
 ·rename_i hf; subst hf; cases hs'
  exact qzA
 split at hs'
 ·rename_i hf; subst hf; cases hs'
  exact qN7
 split at hs'
 ·rename_i hf; subst hf; cases hs'
  exact qDh
 split at hs'
 ·rename_i hf; subst hf; cases hs'
  exact qw1 (ρ:=Tryz.laysM171_ren) Tryz.laysM171 (by exact ⟨_,Tryz.func219,by kernel_rfl,by kernel_rfl⟩) (g:=3) (by kernel_rfl) rfl
 split at hs'
 ·rename_i hf; subst hf; cases hs'
  exact qxe (ρ:=Tryz.lays264_ren) Tryz.lays264 (by exact ⟨_,Tryz.func157,by kernel_rfl,by kernel_rfl⟩)
 split at hs'
 ·rename_i hf; subst hf; cases hs'
  exact qCe (ρ:=Tryz.lays134_ren) Tryz.lays134 (by exact ⟨_,Tryz.func235,by kernel_rfl,by kernel_rfl⟩)
 split at hs'
 ·rename_i hf; subst hf; cases hs'
  exact qwf ⟨⟨_,Tryz.func195,by kernel_rfl,by kernel_rfl,by kernel_rfl,by kernel_rfl⟩⟩
 split at hs'
 ·rename_i hf; subst hf; cases hs'
  exact qxz ⟨⟨_,Tryz.func267,by kernel_rfl,by kernel_rfl,by kernel_rfl,by kernel_rfl⟩⟩
 split at hs'
 ·rename_i hf; subst hf; cases hs'
  exact qfF q3M qWl qWm qWn
 split at hs'
 ·rename_i hf; subst hf; cases hs'
  exact qfF q3N qWo qWp qWq
 split at hs'
 ·rename_i hf; subst hf; cases hs'
  exact qfF q4l qWr qWs qWt
 split at hs'
 ·rename_i hf; subst hf; cases hs'
  exact qfF qXY qRV qRW qRX
 ·cases hs'
theorem progOk:qyC Tryz.prog IP:=⟨pk1,fun f g _ h=>pk2 f g h,fun f s _ _ h=>pk3 f s h⟩
end Go.Proofs.H35

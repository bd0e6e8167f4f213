/- What the machine says holds of the program. -/
import Derived.Test.YtjhhnkemeegahaaGreatDoorIP16a
import Derived.Test.YtjhhnkemeegahaaGreatDoorIrOk16a
import Derived.Test.YtjhhnkemeegahaaGreatDoorSh16
set_option linter.all false
namespace Go.Proofs.H16a
open Go Go.Eng Go.Shelf
set_option maxRecDepth 100000
theorem progOk:qC8 Tryz.prog IP:=by
 refine⟨fun _ _ h=>tab_all.look h,fun f g _ hs=>?_,fun _ _ _ _ h=>by cases h⟩;have hs':qFk f=some g:=hs;unfold qFk at hs';split at hs'
 ·rename_i hf;subst hf;cases hs';exact quL (ρ:=Tryz.lays157_ren) Tryz.lays157 (by kernel_rfl) (by exact⟨_,Tryz.func62,by kernel_rfl,by kernel_rfl⟩) rfl
 ·cases hs'
end Go.Proofs.H16a

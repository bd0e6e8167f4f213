/- What the machine says holds of the program. -/
import Derived.Test.YtpoebijgpbaccaaGreatIP53z
import Derived.Test.YtpoebijgpbaccaaGreatIrOk53z
import Derived.Test.YtpoebijgpbaccaaGreatW53z
set_option linter.unusedVariables false
set_option linter.unusedSimpArgs false
set_option linter.unnecessarySimpa false
namespace Go.Proofs.H53z
open Go Go.Eng Go.Shelf
set_option maxRecDepth 100000
theorem progOk:qDY Tryz.prog IP:=by
 refine ⟨fun _ _ h=>tab_all.look h,fun f g _ hs=>?_,fun _ _ _ _ h=>by cases h⟩
 have hs':qVO f = some g:=hs
 unfold qVO at hs'
 split at hs'
 ·rename_i hf; subst hf; cases hs'
  exact qov q7y q3v q3w q3x
 split at hs'
 ·rename_i hf; subst hf; cases hs'
  exact qov q7z q3y q3z q3A
 split at hs'
 ·rename_i hf; subst hf; cases hs'
  exact qVq
 ·cases hs'
end Go.Proofs.H53z

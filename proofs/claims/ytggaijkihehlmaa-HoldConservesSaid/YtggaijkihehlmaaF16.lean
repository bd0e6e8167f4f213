/- The table of all functions that a call of the law reaches. -/
import Derived.Test.YtggaijkihehlmaaF15
set_option linter.unusedVariables false
set_option linter.unusedSimpArgs false
set_option linter.unnecessarySimpa false
namespace Go.Proofs.H22
open Go Go.Eng
set_option maxRecDepth 20000
def sE : Summ := addS 17 sPlace (addS 32 sPlace (addS 18 sUse (addS 34 sUseR (addS 19 sRel (addS 35 sRelR (addS 22 sExp (addS 36 sExp (addS 33 sSame (addS 37 sSameI sD)))))))))
theorem sE_ok : SummOk IP sE := addS_ok (addS_ok (addS_ok (addS_ok (addS_ok (addS_ok (addS_ok (addS_ok (addS_ok (addS_ok sD_ok s37_ok) s33_ok) s36_ok) s22_ok) s35_ok) s19_ok) s34_ok) s18_ok) s32_ok) s17_ok
end Go.Proofs.H22

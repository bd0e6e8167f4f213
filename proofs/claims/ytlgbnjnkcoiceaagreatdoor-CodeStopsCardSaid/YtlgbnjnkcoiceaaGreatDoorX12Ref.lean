/- The document's expressions (names, Validate): what the printed functions come to. -/
import Derived.Test.YtlgbnjnkcoiceaaGreatDoorX12Exp
set_option linter.unusedVariables false
set_option linter.unusedSimpArgs false
set_option linter.unnecessarySimpa false
namespace Go.Proofs.H12
open Go Go.Eng Go.Tk
set_option maxRecDepth 20000
end Go.Proofs.H12

/- Numbers of 128 bits over plain data: magnitudes (pairs of words), the reference's rounds. -/
import Derived.Test.YtigchhcddgibhaaGreatDoorEvA
set_option linter.unusedVariables false
set_option linter.unusedSimpArgs false
set_option linter.unnecessarySimpa false
namespace Go.Tk
open Go Go.Eng
set_option maxRecDepth 20000
abbrev Mg := Int × Int
def vM (a : Mg) : Int := a.1 * 18446744073709551616 + a.2
end Go.Tk

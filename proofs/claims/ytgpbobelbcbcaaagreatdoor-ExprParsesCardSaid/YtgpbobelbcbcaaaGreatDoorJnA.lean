/- token.Join over plain data, if it is known which tokens are valid. -/
import Derived.Test.YtgpbobelbcbcaaaGreatDoorTkA
import Derived.Test.YtgpbobelbcbcaaaGreatDoorE3
set_option linter.unusedVariables false
set_option linter.unusedSimpArgs false
set_option linter.unnecessarySimpa false
namespace Go.Tk
open Go Go.Eng
set_option maxRecDepth 20000
open Classical in
noncomputable def jS (IP:Prog) (f:Nat) (es:List AV):Bs:=if h:∃ s n,qbs IP f [.view 3 es] [] = some (.ret (.tup [.str s,.int .i64 n]),[]) then h.choose else []
open Classical in
noncomputable def jN (IP:Prog) (f:Nat) (es:List AV):Int:=if h:∃ s n,qbs IP f [.view 3 es] [] = some (.ret (.tup [.str s,.int .i64 n]),[]) then h.choose_spec.choose else 0
end Go.Tk

/- Expressions from tokens: what the document's reader comes to. -/
import Derived.Test.YtgpbobelbcbcaaaGreatDoorX10Int
set_option linter.unusedVariables false
set_option linter.unusedSimpArgs false
set_option linter.unnecessarySimpa false
namespace Go.Proofs.H10
open Go Go.Eng Go.Tk
set_option maxRecDepth 20000
section
variable {T:List Tok}
theorem qgh {s:Bs} {l:List Tok} {n:Int} (h:qdP l = some n):isW s l = false:=by
 cases l with
 | nil=>rfl
 | cons t l=>
  rw [qhG] at h
  cases hk:(t.kind == 2)
  ·rw [hk] at h; cases h
  ·have:t.kind = 2:=by simpa using hk
   rw [qbc,this]
   have:((2:Int) == qgB s) = false:=by unfold qgB; cases qeK s <;> decide
   rw [this,Bool.and_false]
theorem qrv (k:Int) (e:Ex) (r:List Tok):qX2 T k (.ok e r) = bif qaX e == 0 then (e.op,e.num,e.txt,EX e.args,pos T r,0) else qQV k (qaX e):=rfl
end
end Go.Proofs.H10

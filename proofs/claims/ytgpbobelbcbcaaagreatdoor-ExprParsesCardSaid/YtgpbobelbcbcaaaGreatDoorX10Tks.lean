/- The document's way of reading tokens is the program's. -/
import Derived.Test.YtgpbobelbcbcaaaGreatDoorD10_1
import Derived.Test.YtgpbobelbcbcaaaGreatDoorD10_2
import Derived.Test.YtgpbobelbcbcaaaGreatDoorD10_3
import Derived.Test.YtgpbobelbcbcaaaGreatDoorD10_4
import Derived.Test.YtgpbobelbcbcaaaGreatDoorD10_5
import Derived.Test.YtgpbobelbcbcaaaGreatDoorD10_6
import Derived.Test.YtgpbobelbcbcaaaGreatDoorD10_7
import Derived.Test.YtgpbobelbcbcaaaGreatDoorD10_8
import Derived.Test.YtgpbobelbcbcaaaGreatDoorD10_9
import Derived.Test.YtgpbobelbcbcaaaGreatDoorX10Tkr
set_option linter.unusedVariables false
set_option linter.unusedSimpArgs false
set_option linter.unnecessarySimpa false
namespace Go.Proofs.H10
open Go Go.Eng Go.Tk
set_option maxRecDepth 20000
theorem qij:qjT = some (ES wordsS):=by
 rw [qpr,qjA]; rfl
theorem qis (s:Bs):qj7 (s,ES wordsS,0) = some (qhf (s == ·) (fun _=>0) 1 wordsS,s,ES wordsS,((wordsS.findIdx (s == ·):Nat):Int)):=by
 rw [qj8]
 refine qa8 (hd:=fun n=>(s,ES wordsS,(n:Int))) (jx:=fun _=>0) (s == ·) 1 (fun n h=>?_) ?_
 ·have hb:wordsS.length <= big:=by decide
  have hl:decide ((n:Int) < ((ES wordsS).length:Int)) = true:=by rw [List.length_map]; exact qbn h
  simp only [qgt,qfH,hl,qBv h,qs0 h,ev_br,ev_at,cond_true,qat h hb]
  have:(wordsS[n] == s) = (s == wordsS[n]):=by rw [Bool.eq_iff_iff,beq_iff_eq,beq_iff_eq]; exact eq_comm
  rw [this]
  cases (s == wordsS[n]) <;> rfl
 ·simp [qgt,qfH]
theorem qmK (s:Bs):qil s = some (qeK s):=by
 rw [qps,qjB,qij,ev_bi_some,qis,qbG,qeK,has]
 cases wordsS.any (s == ·) <;> simp
end Go.Proofs.H10

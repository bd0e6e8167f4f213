/- Texts behind one another, each behind its length. -/
import Derived.Test.YtbieppilagmdjaaGreatDoorE4
set_option linter.unusedVariables false
set_option linter.unusedSimpArgs false
set_option linter.unnecessarySimpa false
namespace Go.Tk
open Go
def qdl (l:List (List UInt8)):List UInt8:=l.flatMap fun s=>Lib.itoa (s.length:Int) ++ 58 :: s
theorem qxl (l:List (List UInt8)) {k:Nat} (h:k < l.length):qdl (l.take (k + 1)) = qdl (l.take k) ++ (Lib.itoa (l[k].length:Int) ++ 58 :: l[k]):=by
 unfold qdl
 rw [List.take_succ_eq_append_getElem h,List.flatMap_append]
 simp
theorem qnK (l:List (List UInt8)) (k:Nat):(qdl (l.take k)).length <= (qdl l).length:=by
 have e:qdl l = qdl (l.take k) ++ qdl (l.drop k):=by
  unfold qdl
  rw [<- List.flatMap_append,List.take_append_drop]
 rw [e,List.length_append]; omega
open Go.Eng
def bsO:AV -> List UInt8
 | .str s=>s
 | _=>[]
def qUV:AV -> Bool
 | .str _=>true
 | _=>false
def qS8 (es:List AV):Bool:=es.all qUV && (decide (es.length <= 1000000) && decide ((qdl (es.map bsO)).length <= 1000000))
def qDg (a:List AV) (h:Heap):List (Bool × Res × Heap):=match a,h with
 | [.view 1 es],[]=>[(qS8 es,.ret (.str (qdl (es.map bsO))),[])]
 | _,_=>[]
end Go.Tk

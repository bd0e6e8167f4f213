/- A list from which elements are taken out in place. -/
import Derived.Test.YtbieppilagmdjaaGreatDoorLnC
import Derived.Test.YtbieppilagmdjaaGreatDoorE3
set_option linter.unusedVariables false
set_option linter.unusedSimpArgs false
set_option linter.unnecessarySimpa false
namespace Go.Tk
open Go Go.Eng
structure FI {τ:Type} (keep:τ -> Bool) (l:List τ) (i j:Nat) (b:List τ):Prop where
 len:b.length = l.length
 ij:i < j
 jn:j <= l.length
 tk:b.take i = (l.take j).filter keep
 dr:b.drop j = l.drop j
section
variable {τ:Type} {keep:τ -> Bool} {l b:List τ} {i j:Nat}
theorem FI.start (h:i < l.length) (ha:(l.take i).all keep = true) (hn:keep l[i] = false):FI keep l i (i + 1) l:=by
 refine ⟨rfl,by omega,h,?_,rfl⟩
 rw [List.take_succ_eq_append_getElem h,List.filter_append,List.filter_eq_self.2 (List.all_eq_true.1 ha)]
 simp [hn]
theorem FI.get (h:FI keep l i j b) (hj:j < l.length):b[j]'(by rw [h.len]; exact hj) = l[j]:=by
 have e:=h.dr
 rw [drop_at hj,drop_at (l:=b) (by rw [h.len]; exact hj)] at e
 exact (List.cons.inj e).1
theorem FI.more (h:FI keep l i j b) (hj:j < l.length) (hk:keep l[j] = true):FI keep l (i + 1) (j + 1) (b.set i l[j]):=by
 have hij:=h.ij
 have hl:=h.len
 refine ⟨by rw [List.length_set]; exact h.len,by omega,hj,?_,?_⟩
 ·rw [List.take_succ_eq_append_getElem (by rw [List.length_set]; omega),List.take_set_of_le (Nat.le_refl _),h.tk,List.take_succ_eq_append_getElem hj,List.filter_append]
  simp [hk]
 ·rw [List.drop_set_of_lt (by omega)]
  have e:=h.dr
  rw [drop_at hj,drop_at (l:=b) (by omega)] at e
  exact (List.cons.inj e).2
theorem FI.less (h:FI keep l i j b) (hj:j < l.length) (hk:keep l[j] = false):FI keep l i (j + 1) b:=by
 have hij:=h.ij
 have hl:=h.len
 refine ⟨h.len,by omega,hj,?_,?_⟩
 ·rw [h.tk,List.take_succ_eq_append_getElem hj,List.filter_append]
  simp [hk]
 ·have e:=h.dr
  rw [drop_at hj,drop_at (l:=b) (by omega)] at e
  exact (List.cons.inj e).2
theorem FI.fin (h:FI keep l i l.length b):b.take i = l.filter keep:=by
 rw [h.tk,List.take_length]
end
theorem qsn (w:List AV) (z:AV) {i:Nat} (h:i <= w.length):(List.take (0 + i) w ++ List.replicate (qa9 w.length (0 + i) none) z ++ List.drop (0 + i + qa9 w.length (0 + i) none) w).length = w.length /\ List.take i (List.take (0 + i) w ++ List.replicate (qa9 w.length (0 + i) none) z ++ List.drop (0 + i + qa9 w.length (0 + i) none) w) = List.take i w:=by
 have e:qa9 w.length (0 + i) none = w.length - (0 + i):=by cases hq:0 + i <;> rfl
 rw [e,Nat.zero_add]
 refine ⟨by simp only [List.length_append,List.length_take,List.length_replicate,List.length_drop]; omega,?_⟩
 rw [List.append_assoc,List.take_append_of_le_length (by rw [List.length_take]; omega),List.take_take,Nat.min_self]
end Go.Tk

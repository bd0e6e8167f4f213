/- Expressions compared. -/
import Derived.Test.YtgpbobelbcbcaaaGreatDoorExA
import Derived.Test.YtgpbobelbcbcaaaGreatDoorE3
set_option linter.unusedVariables false
set_option linter.unusedSimpArgs false
set_option linter.unnecessarySimpa false
namespace Go.Tk
open Go Go.Eng
mutual
def qhX:Ex -> Ex -> Bool
 | .mk o n s l,.mk p m t k=>o == p && (n == m && (s == t && qfa l k))
def qfa:List Ex -> List Ex -> Bool
 | [],[]=>true
 | a :: l,b :: k=>qhX a b && qfa l k
 | _,_=>false
end
mutual
theorem qfD:∀ e:Ex,qhX e e = true
 | .mk o n s l=>by simp [qhX,qqg l]
theorem qqg:∀ l:List Ex,qfa l l = true
 | []=>by simp [qfa]
 | a :: l=>by simp [qfa,qfD a,qqg l]
end
theorem qog:∀ {l k:List Ex},l.length ≠ k.length -> qfa l k = false
 | [],[],h=>absurd rfl h
 | [],_ :: _,_=>by simp [qfa]
 | _ :: _,[],_=>by simp [qfa]
 | a :: l,b :: k,h=>by
  rw [qfa,qog (l:=l) (k:=k) (by simpa using h),Bool.and_false]
theorem quM {τ:Type} {st:τ -> Option (Rd τ)} (hd:Nat -> τ) {l m:List Ex} (hlen:l.length = m.length) (hs:∀ n (h:n < l.length) (h':n < m.length),st (hd n) = some (bif qhX l[n] m[n] then .next (hd (n + 1)) else .done 0)) (he:st (hd l.length) = some (.done 1)):∃ w,qaw st (hd 0) = some (bif qfa l m then 1 else 0,w):=by
 have key:∀ k n,n + k = l.length -> ∃ w,qaw st (hd n) = some (bif qfa (l.drop n) (m.drop n) then 1 else 0,w):=by
  intro k
  induction k with
  | zero=>
   intro n hn
   have:n = l.length:=by omega
   subst this
   rw [List.drop_eq_nil_of_le (Nat.le_refl _),List.drop_eq_nil_of_le (by omega)]
   exact ⟨_,qaj he⟩
  | succ k ih=>
   intro n hn
   have h1:n < l.length:=by omega
   have h2:n < m.length:=by omega
   rw [List.drop_eq_getElem_cons h1,List.drop_eq_getElem_cons h2,qfa]
   have:=hs n h1 h2
   cases hq:qhX l[n] m[n]
   ·rw [hq] at this
    exact ⟨_,qaj this⟩
   ·rw [hq] at this
    rw [qau this]
    exact ih (n + 1) (by omega)
 have:=key l.length 0 (by omega)
 simpa using this
end Go.Tk

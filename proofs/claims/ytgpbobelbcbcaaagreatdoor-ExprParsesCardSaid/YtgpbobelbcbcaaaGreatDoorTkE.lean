/- Numbers that are too great. -/
import Derived.Test.YtgpbobelbcbcaaaGreatDoorTkD
import Derived.Lib.ParseIntBTie
set_option linter.unusedVariables false
set_option linter.unusedSimpArgs false
set_option linter.unnecessarySimpa false
namespace Go.Tk
open Go Go.Eng
set_option linter.unusedSimpArgs false
set_option linter.unusedVariables false
theorem qqT {l:Bs} (h:l.all (at8 qbd) = true):qa1 0 l < 10 ^ l.length:=by
 have:=qqS l 0 0 h (by decide)
 simpa using this
theorem qOR:∀ (x y:Bs),x.length = y.length -> x.all (at8 qbd) = true -> y.all (at8 qbd) = true -> qav x y = decide (qa1 0 x < qa1 0 y)
 | [],[],_,_,_=>rfl
 | [],_ :: _,h,_,_=>by simp at h
 | _ :: _,[],h,_,_=>by simp at h
 | c :: x,d :: y,h,hx,hy=>by
  simp only [List.all_cons,Bool.and_eq_true] at hx hy
  have hl:x.length = y.length:=by simpa using h
  have ih:=qOR x y hl hx.2 hy.2
  have b1:=qqT hx.2
  have b2:=qqT hy.2
  have c1:=qdK hx.1
  have c2:=qdK hy.1
  have e1:qa1 0 (c :: x) = (c.toNat - 48) * 10 ^ x.length + qa1 0 x:=by
   show qa1 (0 * 10 + (c.toNat - 48)) x = _
   rw [qd6]; simp
  have e2:qa1 0 (d :: y) = (d.toNat - 48) * 10 ^ x.length + qa1 0 y:=by
   show qa1 (0 * 10 + (d.toNat - 48)) y = _
   rw [qd6,hl]; simp
  rw [<- hl] at b2
  have hu:qav (c :: x) (d :: y) = (decide (c < d) || (c == d && qav x y)):=rfl
  rw [hu,ih,e1,e2]
  generalize 10 ^ x.length = M at b1 b2 ⊢
  rcases Nat.lt_trichotomy c.toNat d.toNat with hcd | hcd | hcd
  ·have h1:decide (c < d) = true:=decide_eq_true hcd
   have:(c.toNat - 48 + 1) * M <= (d.toNat - 48) * M:=Nat.mul_le_mul_right M (by omega)
   rw [Nat.add_mul] at this
   rw [h1,Bool.true_or,eq_comm]
   exact decide_eq_true (by omega)
  ·have hcd':c = d:=UInt8.toNat_inj.1 hcd
   subst hcd'
   have h1:decide (c < c) = false:=decide_eq_false (Nat.lt_irrefl c.toNat)
   rw [h1,Bool.false_or,beq_self_eq_true,Bool.true_and]
   by_cases hq:qa1 0 x < qa1 0 y
   ·rw [decide_eq_true hq,eq_comm]; exact decide_eq_true (by omega)
   ·rw [decide_eq_false hq,eq_comm]; exact decide_eq_false (by omega)
  ·have h1:decide (c < d) = false:=decide_eq_false (Nat.not_lt.2 (Nat.le_of_lt hcd))
   have h2:(c == d) = false:=by
    rw [beq_eq_false_iff_ne]
    intro he; rw [he] at hcd; omega
   have:(d.toNat - 48 + 1) * M <= (c.toNat - 48) * M:=Nat.mul_le_mul_right M (by omega)
   rw [Nat.add_mul] at this
   rw [h1,h2,Bool.false_or,Bool.false_and,eq_comm]
   exact decide_eq_false (by omega)
def qBp:Bs:=[57,50,50,51,51,55,50,48,51,54,56,53,52,55,55,53,56,48,55]
def qkO (s:Bs):Bool:=decide (s.length > 19) || (s.length == 19 && qav qBp s)
theorem qiY {s:Bs} (h:qgG s = true):qkO s = decide (9223372036854775808 <= qa1 0 s):=by
 obtain ⟨h1,h2,h3⟩:=qbb.1 h
 have hb:=qqT h1
 unfold qkO
 rcases Nat.lt_trichotomy s.length 19 with hl | hl | hl
 ·have:10 ^ s.length <= 10 ^ 18:=Nat.pow_le_pow_right (by decide) (by omega)
  have:qa1 0 s < 10 ^ 18:=by omega
  rw [decide_eq_false (by omega),show (s.length == 19) = false by rw [beq_eq_false_iff_ne]; omega,eq_comm]
  exact decide_eq_false (by omega)
 ·have hm:qa1 0 qBp = 9223372036854775807:=by decide
  rw [decide_eq_false (by omega),hl,beq_self_eq_true,Bool.true_and,Bool.false_or,qOR qBp s (by rw [hl]; rfl) (by decide) h1,hm]
  by_cases hq:9223372036854775807 < qa1 0 s
  ·rw [decide_eq_true hq,eq_comm]; exact decide_eq_true (by omega)
  ·rw [decide_eq_false hq,eq_comm]; exact decide_eq_false (by omega)
 ·rw [decide_eq_true hl,Bool.true_or,eq_comm]
  refine decide_eq_true ?_
  cases s with
  | nil=>simp at hl
  | cons c r=>
   have hc:c.toNat - 48 >= 1:=by
    have:=qdK (by simp only [List.all_cons,Bool.and_eq_true] at h1; exact h1.1)
    have h48:c.toNat ≠ 48:=fun he=>by
     rcases h3 with h3 | h3
     ·omega
     ·exact h3 (by rw [show c = 48 from UInt8.toNat_inj.1 (by simpa using he)]; rfl)
    omega
   have e1:qa1 0 (c :: r) = (c.toNat - 48) * 10 ^ r.length + qa1 0 r:=by
    show qa1 (0 * 10 + (c.toNat - 48)) r = _
    rw [qd6]; simp
   have:10 ^ 19 <= 10 ^ r.length:=Nat.pow_le_pow_right (by decide) (by simp at hl; omega)
   have:=Nat.mul_le_mul_right (10 ^ r.length) hc
   rw [e1]
   omega
end Go.Tk

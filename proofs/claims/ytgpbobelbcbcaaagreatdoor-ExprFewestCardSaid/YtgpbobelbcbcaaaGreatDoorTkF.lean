/- The document's tokens: its ways of reading are those of the program. -/
import Derived.Test.YtgpbobelbcbcaaaGreatDoorTkE
set_option linter.unusedVariables false
set_option linter.unusedSimpArgs false
set_option linter.unnecessarySimpa false
namespace Go.Tk
open Go Go.Eng
set_option linter.unusedSimpArgs false
set_option linter.unusedVariables false
theorem qy4:∀ x y:Bs,qav y x = !(qav x y || x == y)
 | [],[]=>rfl
 | [],_ :: _=>rfl
 | _ :: _,[]=>rfl
 | a :: x,b :: y=>by
  have ih:=qy4 x y
  have e1:qav (b :: y) (a :: x) = (decide (b < a) || (b == a && qav y x)):=rfl
  have e2:qav (a :: x) (b :: y) = (decide (a < b) || (a == b && qav x y)):=rfl
  have e3:((a :: x:Bs) == b :: y) = (a == b && x == y):=rfl
  rw [e1,e2,e3,ih]
  rcases Nat.lt_trichotomy a.toNat b.toNat with h | h | h
  ·have h1:decide (a < b) = true:=decide_eq_true h
   have h2:decide (b < a) = false:=decide_eq_false (Nat.not_lt.2 (Nat.le_of_lt h))
   have h3:(b == a) = false:=by rw [beq_eq_false_iff_ne]; rintro rfl; omega
   rw [h1,h2,h3]; rfl
  ·have h':a = b:=UInt8.toNat_inj.1 h
   subst h'
   have h1:decide (a < a) = false:=decide_eq_false (Nat.lt_irrefl a.toNat)
   rw [h1,beq_self_eq_true]
   cases qav x y <;> cases (x == y) <;> rfl
  ·have h1:decide (b < a) = true:=decide_eq_true h
   have h2:decide (a < b) = false:=decide_eq_false (Nat.not_lt.2 (Nat.le_of_lt h))
   have h3:(a == b) = false:=by rw [beq_eq_false_iff_ne]; rintro rfl; omega
   rw [h1,h2,h3]; rfl
theorem qOK {a:Bs} (h:qgG a = true) (hl:a.length > 1):10 ^ (a.length - 1) <= qa1 0 a:=by
 obtain ⟨h1,h2,h3⟩:=qbb.1 h
 cases a with
 | nil=>exact absurd rfl h2
 | cons c r=>
  have hc:c.toNat - 48 >= 1:=by
   have:=qdK (by simp only [List.all_cons,Bool.and_eq_true] at h1; exact h1.1)
   have h48:c.toNat ≠ 48:=fun he=>by
    rcases h3 with h3 | h3
    ·omega
    ·exact h3 (by rw [show c = 48 from UInt8.toNat_inj.1 (by simpa using he)]; rfl)
   omega
  have e1:qa1 0 (c :: r) = (c.toNat - 48) * 10 ^ r.length + qa1 0 r:=by
   show qa1 (0 * 10 + (c.toNat - 48)) r = _
   rw [qd6]; simp
  have:=Nat.mul_le_mul_right (10 ^ r.length) hc
  rw [e1]
  simp only [List.length_cons,Nat.add_sub_cancel]
  omega
def qHA (n:Int):Bs × Int:=bif decide (n < 0) || decide (n > 1000000) then ([],1) else (qrw n.toNat,0)
end Go.Tk

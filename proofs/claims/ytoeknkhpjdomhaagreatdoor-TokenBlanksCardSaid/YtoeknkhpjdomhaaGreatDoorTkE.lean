/- Numbers that are too great. -/
import Derived.Test.YtoeknkhpjdomhaaGreatDoorTkD
import Derived.Lib.ParseIntBTie
set_option linter.unusedVariables false
set_option linter.unusedSimpArgs false
set_option linter.unnecessarySimpa false
namespace Go.Tk
open Go Go.Eng
set_option linter.unusedSimpArgs false
set_option linter.unusedVariables false
theorem qju {l : Bs} (h : l.all (at8 qaI) = true) : qaC 0 l < 10 ^ l.length := by
 have := qjt l 0 0 h (by decide)
 simpa using this
theorem qw2 : ∀ (x y : Bs), x.length = y.length → x.all (at8 qaI) = true → y.all (at8 qaI) = true → qa0 x y = decide (qaC 0 x < qaC 0 y)
 | [], [], _, _, _ => rfl
 | [], _ :: _, h, _, _ => by simp at h
 | _ :: _, [], h, _, _ => by simp at h
 | c :: x, d :: y, h, hx, hy => by
  simp only [List.all_cons, Bool.and_eq_true] at hx hy
  have hl : x.length = y.length := by simpa using h
  have ih := qw2 x y hl hx.2 hy.2
  have b1 := qju hx.2
  have b2 := qju hy.2
  have c1 := qbY hx.1
  have c2 := qbY hy.1
  have e1 : qaC 0 (c :: x) = (c.toNat - 48) * 10 ^ x.length + qaC 0 x := by
   show qaC (0 * 10 + (c.toNat - 48)) x = _
   rw [qb7]; simp
  have e2 : qaC 0 (d :: y) = (d.toNat - 48) * 10 ^ x.length + qaC 0 y := by
   show qaC (0 * 10 + (d.toNat - 48)) y = _
   rw [qb7, hl]; simp
  rw [← hl] at b2
  have hu : qa0 (c :: x) (d :: y) = (decide (c < d) || (c == d && qa0 x y)) := rfl
  rw [hu, ih, e1, e2]
  generalize 10 ^ x.length = M at b1 b2 ⊢
  rcases Nat.lt_trichotomy c.toNat d.toNat with hcd | hcd | hcd
  ·have h1 : decide (c < d) = true := decide_eq_true hcd
   have : (c.toNat - 48 + 1) * M ≤ (d.toNat - 48) * M := Nat.mul_le_mul_right M (by omega)
   rw [Nat.add_mul] at this
   rw [h1, Bool.true_or, eq_comm]
   exact decide_eq_true (by omega)
  ·have hcd' : c = d := UInt8.toNat_inj.1 hcd
   subst hcd'
   have h1 : decide (c < c) = false := decide_eq_false (Nat.lt_irrefl c.toNat)
   rw [h1, Bool.false_or, beq_self_eq_true, Bool.true_and]
   by_cases hq : qaC 0 x < qaC 0 y
   ·rw [decide_eq_true hq, eq_comm]; exact decide_eq_true (by omega)
   ·rw [decide_eq_false hq, eq_comm]; exact decide_eq_false (by omega)
  ·have h1 : decide (c < d) = false := decide_eq_false (Nat.not_lt.2 (Nat.le_of_lt hcd))
   have h2 : (c == d) = false := by
    rw [beq_eq_false_iff_ne]
    intro he; rw [he] at hcd; omega
   have : (d.toNat - 48 + 1) * M ≤ (c.toNat - 48) * M := Nat.mul_le_mul_right M (by omega)
   rw [Nat.add_mul] at this
   rw [h1, h2, Bool.false_or, Bool.false_and, eq_comm]
   exact decide_eq_false (by omega)
def qjD : Bs := [57, 50, 50, 51, 51, 55, 50, 48, 51, 54, 56, 53, 52, 55, 55, 53, 56, 48, 55]
def qek (s : Bs) : Bool := decide (s.length > 19) || (s.length == 19 && qa0 qjD s)
theorem qrn {s : Bs} (h : qew s = true) : qek s = decide (9223372036854775808 ≤ qaC 0 s) := by
 obtain ⟨h1, h2, h3⟩ := qaV.1 h
 have hb := qju h1
 unfold qek
 rcases Nat.lt_trichotomy s.length 19 with hl | hl | hl
 ·have : 10 ^ s.length ≤ 10 ^ 18 := Nat.pow_le_pow_right (by decide) (by omega)
  have : qaC 0 s < 10 ^ 18 := by omega
  rw [decide_eq_false (by omega), show (s.length == 19) = false by rw [beq_eq_false_iff_ne]; omega, eq_comm]
  exact decide_eq_false (by omega)
 ·have hm : qaC 0 qjD = 9223372036854775807 := by decide
  rw [decide_eq_false (by omega), hl, beq_self_eq_true, Bool.true_and, Bool.false_or, qw2 qjD s (by rw [hl]; rfl) (by decide) h1, hm]
  by_cases hq : 9223372036854775807 < qaC 0 s
  ·rw [decide_eq_true hq, eq_comm]; exact decide_eq_true (by omega)
  ·rw [decide_eq_false hq, eq_comm]; exact decide_eq_false (by omega)
 ·rw [decide_eq_true hl, Bool.true_or, eq_comm]
  refine decide_eq_true ?_
  cases s with
  | nil => simp at hl
  | cons c r =>
   have hc : c.toNat - 48 ≥ 1 := by
    have := qbY (by simp only [List.all_cons, Bool.and_eq_true] at h1; exact h1.1)
    have h48 : c.toNat ≠ 48 := fun he => by
     rcases h3 with h3 | h3
     ·omega
     ·exact h3 (by rw [show c = 48 from UInt8.toNat_inj.1 (by simpa using he)]; rfl)
    omega
   have e1 : qaC 0 (c :: r) = (c.toNat - 48) * 10 ^ r.length + qaC 0 r := by
    show qaC (0 * 10 + (c.toNat - 48)) r = _
    rw [qb7]; simp
   have : 10 ^ 19 ≤ 10 ^ r.length := Nat.pow_le_pow_right (by decide) (by simp at hl; omega)
   have := Nat.mul_le_mul_right (10 ^ r.length) hc
   rw [e1]
   omega
theorem qtV {s : Bs} (h : qew s = true) : nOk (Lib.parseIntB 64 s) = !qek s := by
 rw [qrn h]
 have h1 := (qaV.1 h).1
 have h2 := (qaV.1 h).2.1
 rw [Lib.parseIntB_64, qm5 h1 h2]
 by_cases hq : qaC 0 s < 9223372036854775808
 ·rw [if_pos hq, decide_eq_false (by omega)]; rfl
 ·rw [if_neg hq, decide_eq_true (by omega)]; rfl
end Go.Tk

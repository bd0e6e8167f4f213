/- Code: what compiling comes to, here and in the document. -/
import Derived.Test.YtigchhcddgibhaaGreatDoorX13Cda
import Derived.Test.YtigchhcddgibhaaGreatDoorCdC
set_option linter.unusedVariables false
set_option linter.unusedSimpArgs false
set_option linter.unnecessarySimpa false
namespace Go.Proofs.H13
open Go Go.Eng Go.Tk
set_option maxRecDepth 20000
theorem qSa {e : Ex} {vs : List Va} (h : (ofS e vs).2 = 0) : e.nodes ≤ 64 ∧ e.allX qas = true := by
 unfold ofS at h
 cases hv : (qbr e != 0)
 ·have hv' : qbr e = 0 := by simpa using hv
  unfold qbr at hv'
  cases h1 : (decide (e.nodes > 64) || decide (e.dep > 8))
  ·rw [h1] at hv'
   simp only [Bool.or_eq_false_iff, decide_eq_false_iff_not] at h1
   cases h2 : e.allX qas
   ·rw [h2] at hv'; cases hv'
   ·exact ⟨by omega, rfl⟩
  ·rw [h1] at hv'; cases hv'
 ·rw [hv] at h
  simp only [cond_true] at h
  rw [h] at hv; simp at hv
theorem qSz {vs : List Va} (h : qb8 vs = 0) : vs.length ≤ 64 := by
 unfold qb8 at h
 split at h
 ·cases h
 ·omega
theorem qr0 {vs : List Va} (hv : vs.length ≤ big) {e : Ex} (h : e.nodes ≤ big) : qoQ e.op e.num e.txt (EX e.args) (EV vs) = some ((qca e vs).1.ty, EV (qca e vs).1.vars, EN (qca e vs).1.ins, (qca e vs).2) := by
 rw [qKl, qvI, qiy hv]
 unfold qca
 simp only [ev_bi_some, ev_br, ev_at]
 cases h1 : (qb8 vs != 0)
 ·simp only [cond_false, qiG hv h, ev_bi_some, ev_br, ev_at]
  cases h2 : ((ofS e vs).2 != 0)
  ·obtain ⟨h3, h4⟩ := qSa (e := e) (vs := vs) (by simpa using h2)
   have h5 := qJc vs e h4 0
   have h6 := qSz (vs := vs) (by simpa using h1)
   simp only [cond_false, qn5 hv h4 (show (emE vs 0 e).length ≤ 100000 by omega), ev_bi_some, ev_br, ev_at, List.length_map]
   cases vs with
   | nil => rfl
   | cons v vs =>
    have e1 : decide ((v :: vs).length = 0) = false := rfl
    have e2 : decide ((v :: vs).length ≠ 0) = true := rfl
    have e3 : decide ((v :: vs).length * 24 ≤ lim) = true := by rw [decide_eq_true_eq]; simp only [lim]; omega
    simp only [e1, e2, e3, cond_false, cond_true, Bool.and_self]
  ·rfl
 ·rfl
end Go.Proofs.H13

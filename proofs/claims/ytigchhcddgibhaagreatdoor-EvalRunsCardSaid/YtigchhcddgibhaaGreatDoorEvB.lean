/- Values of expressions: their types; laws of operators. -/
import Derived.Test.YtigchhcddgibhaaGreatDoorEvA
set_option linter.unusedVariables false
set_option linter.unusedSimpArgs false
set_option linter.unnecessarySimpa false
namespace Go.Tk
open Go Go.Eng
set_option maxRecDepth 20000
theorem qQN {t w : Int} {v : Vl} (h : qrc t w = (v, 0)) : v = ⟨t, w⟩ /\ qbb v = true /\ qa6 w = true := by
 unfold qrc at h
 cases hb : (qa6 w && qbb ⟨t, w⟩)
 ·rw [hb] at h; simp at h
 ·rw [hb] at h
  simp only [cond_true, Prod.mk.injEq, and_true] at h
  subst h
  simp only [Bool.and_eq_true] at hb
  exact ⟨rfl, hb.2, hb.1⟩
theorem qNC {t : Int} (h : qaJ t = true) : qbb ⟨t, 0⟩ = true := by
 rcases qaL h with rfl | rfl | rfl | rfl | rfl <;> rfl
theorem qd8 {op a b t : Int} (h : qa0 op [a, b] = (t, true)) : qaJ a = true /\ qaJ b = true /\ qiT op a b = (t, true) := by
 unfold qa0 at h
 cases hg : [a, b].all qaJ
 ·rw [hg] at h; simp at h
 ·rw [hg] at h
  simp only [List.all_cons, List.all_nil, Bool.and_true, Bool.and_eq_true] at hg
  exact ⟨hg.1, hg.2, h⟩
theorem qnm {op a t : Int} (h : qa0 op [a] = (t, true)) : qaJ a = true /\ qTR op a = (t, true) := by
 unfold qa0 at h
 cases hg : [a].all qaJ
 ·rw [hg] at h; simp at h
 ·rw [hg] at h
  simp only [List.all_cons, List.all_nil, Bool.and_true] at hg
  exact ⟨hg, h⟩
theorem qd7 {op a b c t : Int} (h : qa0 op [a, b, c] = (t, true)) : qaJ b = true /\ op = 19 /\ a = 5 /\ b = c /\ t = b := by
 unfold qa0 at h
 cases hg : [a, b, c].all qaJ
 ·rw [hg] at h; simp at h
 ·rw [hg] at h
  simp only [List.all_cons, List.all_nil, Bool.and_true, Bool.and_eq_true] at hg
  simp only [Bool.not_true, cond_false, qxc] at h
  cases hq : (op == 19 && (a == 5 && b == c))
  ·rw [hq] at h; simp at h
  ·rw [hq] at h
   simp only [cond_true, Prod.mk.injEq, and_true] at h
   simp only [Bool.and_eq_true, beq_iff_eq] at hq
   exact ⟨hg.2.1, hq.1, hq.2.1, hq.2.2, h.symm⟩
theorem qMz {op a b t : Int} (h : qOn op a b = some t) : qaJ t = true := by
 unfold qOn at h
 cases hf : (ariL.find? fun p => p.1 == (op, a, b)) with
 | none => rw [hf] at h; cases h
 | some p =>
  rw [hf] at h; cases h
  have h1 := List.mem_of_find?_eq_some hf
  have : ∀ p ∈ ariL, qaJ p.2 = true := by decide
  exact this p h1
theorem qeg {op a b t : Int} (h : qiT op a b = (t, true)) : (5 <= op /\ op <= 8 /\ qOn op a b = some t) \/ ((10 <= op /\ op <= 13) /\ a = b /\ t = 5) \/ ((op = 14 \/ op = 15) /\ a = 5 /\ b = 5 /\ t = 5) \/ ((op = 17 \/ op = 18) /\ a = b /\ a ≠ 5 /\ t = a) := by
 unfold qiT at h
 split at h
 ·cases hq : (a == b)
  ·rw [hq] at h; simp at h
  ·rw [hq] at h
   simp only [cond_true, Prod.mk.injEq, and_true] at h
   exact .inr (.inl ⟨by omega, by simpa using hq, h.symm⟩)
 ·split at h
  ·cases hq : (a == b && a != 5)
   ·rw [hq] at h; simp at h
   ·rw [hq] at h
    simp only [cond_true, Prod.mk.injEq, and_true] at h
    simp only [Bool.and_eq_true, beq_iff_eq] at hq
    exact .inr (.inl ⟨by omega, hq.1, h.symm⟩)
  ·split at h
   ·cases hq : (a == b && a == 5)
    ·rw [hq] at h; simp at h
    ·rw [hq] at h
     simp only [cond_true, Prod.mk.injEq, and_true] at h
     simp only [Bool.and_eq_true, beq_iff_eq] at hq
     exact .inr (.inr (.inl ⟨by omega, hq.2, by omega, h.symm⟩))
   ·split at h
    ·cases hq : (a == b && a != 5)
     ·rw [hq] at h; simp at h
     ·rw [hq] at h
      simp only [cond_true, Prod.mk.injEq, and_true] at h
      simp only [Bool.and_eq_true, beq_iff_eq, bne_iff_ne, ne_eq] at hq
      exact .inr (.inr (.inr ⟨by omega, hq.1, hq.2, h.symm⟩))
    ·split at h
     ·rename_i t' ht
      simp only [Prod.mk.injEq, and_true] at h
      subst h
      have := qMy ht
      exact .inl ⟨this.2.1, this.2.2, ht⟩
     ·simp at h
theorem qoz {op a t : Int} (h : qTR op a = (t, true)) : (op = 16 /\ a = 5 /\ t = 5) \/ (op = 9 /\ t = a) := by
 unfold qTR at h
 split at h
 ·cases hq : (a == 5)
  ·rw [hq] at h; simp at h
  ·rw [hq] at h
   simp only [cond_true, Prod.mk.injEq, and_true] at h
   exact .inl ⟨by assumption, by simpa using hq, h.symm⟩
 ·split at h
  ·cases hq : (a == 1 || (a == 2 || a == 3))
   ·rw [hq] at h; simp at h
   ·rw [hq] at h
    simp only [cond_true, Prod.mk.injEq, and_true] at h
    exact .inr ⟨by assumption, h.symm⟩
  ·simp at h
theorem qbA {v : Vl} (h : v.ty = 5) : qbb v = true ↔ v.n = 0 \/ v.n = 1 := by
 unfold qbb
 rw [if_neg (by omega), if_neg (by omega), if_neg (by omega), if_neg (by omega), if_pos h]
 simp
theorem q4O {t : Int} (h : t = 5) (b : Bool) : qbb ⟨t, bI b⟩ = true := by
 subst h; cases b <;> rfl
theorem q39 {t : Int} {a b v : Vl} (ht : qaJ t = true) (h : qTN t a b = (v, 0)) : v.ty = t /\ qbb v = true := by
 unfold qTN at h
 split at h
 ·cases h
 ·split at h
  ·(obtain ⟨e1, e2, _⟩ := qQN h; exact ⟨by rw [e1], e2⟩)
  ·split at h
   ·cases h; exact ⟨rfl, qNC ht⟩
   ·split at h
    ·(obtain ⟨e1, e2, _⟩ := qQN h; exact ⟨by rw [e1], e2⟩)
    ·(obtain ⟨e1, e2, _⟩ := qQN h; exact ⟨by rw [e1], e2⟩)
theorem qAs {t w : Int} {v : Vl} (h : qrc t w = (v, 0)) : v.ty = t /\ qbb v = true := by
 (obtain ⟨e1, e2, _⟩ := qQN h; exact ⟨by rw [e1], e2⟩)
theorem q4s {t : Int} {a b v : Vl} (h : qM4 t a b = (v, 0)) : v.ty = t /\ qbb v = true := by
 unfold qM4 at h
 split at h <;> exact qAs h
theorem qMw {op : Int} {l : List Vl} {v : Vl} (h : qbc op l = (v, 0)) : (qa0 op (l.map (·.ty))).2 = true /\ v.ty = (qa0 op (l.map (·.ty))).1 /\ qbb v = true /\ ∀ x ∈ l, qbb x = true := by
 unfold qbc at h
 cases h1 : (qa0 op (l.map (·.ty))).2
 ·rw [h1] at h; simp at h
 ·rw [h1] at h
  simp only [Bool.not_true, cond_false] at h
  cases h2 : l.all qbb
  ·rw [h2] at h; simp at h
  ·rw [h2] at h
   simp only [Bool.not_true, cond_false] at h
   have hall := List.all_eq_true.1 h2
   have hr : qa0 op (l.map (·.ty)) = ((qa0 op (l.map (·.ty))).1, true) := by rw [<- h1]
   generalize (qa0 op (l.map (·.ty))).1 = t at h hr ⊢
   refine ⟨rfl, ?_⟩
   suffices hs : v.ty = t /\ qbb v = true from ⟨hs.1, hs.2, hall⟩
   match l, h, hr, hall with
   | [], h, _, _ => simp [opV] at h
   | [a], h, hr, hall =>
    have hc := qoz (qnm hr).2
    simp only [opV] at h
    rcases hc with ⟨rfl, ha, rfl⟩ | ⟨rfl, _⟩
    ·rw [if_neg (by decide)] at h
     cases h
     refine ⟨rfl, ?_⟩
     have := (qbA ha).1 (hall a (by simp))
     rw [qbA rfl]
     simp only; omega
    ·rw [if_pos rfl] at h
     exact qAs h
   | [a, b], h, hr, hall =>
    obtain ⟨g1, g2, g3⟩ := qd8 hr
    have ha := hall a (by simp)
    have hb := hall b (by simp)
    simp only [opV, qmY] at h
    rcases qeg g3 with ⟨q1, q2, q3⟩ | ⟨q1, q2, q3⟩ | ⟨q1, q2, q3, q4⟩ | ⟨q1, q2, q3, q4⟩
    ·have : op = 5 \/ op = 6 \/ op = 7 \/ op = 8 := by omega
     rcases this with rfl | rfl | rfl | rfl
     ·rw [if_pos rfl] at h; exact qAs h
     ·rw [if_neg (by decide), if_pos rfl] at h; exact qAs h
     ·rw [if_neg (by decide), if_neg (by decide), if_pos rfl] at h; exact q4s h
     ·rw [if_neg (by decide), if_neg (by decide), if_neg (by decide), if_pos rfl] at h; exact q39 (qMz q3) h
    ·subst q3
     have : op = 10 \/ op = 11 \/ op = 12 \/ op = 13 := by omega
     rcases this with rfl | rfl | rfl | rfl <;> simp at h <;> subst h <;> exact ⟨rfl, q4O rfl _⟩
    ·subst q4
     have k0 := (qbA q2).1 ha
     have k1 := (qbA q3).1 hb
     rcases q1 with rfl | rfl <;> simp at h <;> subst h <;> refine ⟨rfl, (qbA rfl).2 ?_⟩ <;> simp only
     ·rcases k0 with k0 | k0 <;> rcases k1 with k1 | k1 <;> rw [k0, k1] <;> simp
     ·omega
    ·subst q4
     have hab : ∀ n, n = a.n \/ n = b.n -> qbb ⟨a.ty, n⟩ = true := by
      rintro n (rfl | rfl)
      ·exact ha
      ·rw [show a.ty = b.ty from q2]; exact hb
     rcases q1 with rfl | rfl <;> simp at h <;> subst h <;> exact ⟨rfl, hab _ (by omega)⟩
   | [a, b, c], h, hr, hall =>
    obtain ⟨g1, _, _, g2, g3⟩ := qd7 hr
    simp only [opV, Prod.mk.injEq, and_true] at h
    subst h
    refine ⟨rfl, ?_⟩
    subst g3
    split
    ·exact hall b (by simp)
    ·have := hall c (by simp)
     rw [g2]; exact this
   | a :: b :: c :: d :: l, h, hr, hall => simp [opV] at h
theorem q4Z {vs : List Va} {env : List Vl} (h : qhE vs env = true) {n : Nat} {v : Va} (hv : vs[n]? = some v) : ∃ x, env[n]? = some x /\ x.ty = v.ty /\ qbb x = true := by
 unfold qhE at h
 simp only [Bool.and_eq_true, beq_iff_eq, List.all_eq_true] at h
 have hn := (List.getElem?_eq_some_iff.1 hv).1
 have hx : env[n]? = some env[n] := List.getElem?_eq_getElem (by omega)
 have := h.2 n (by rw [List.mem_range]; omega)
 rw [hv, hx] at this
 simp only [Bool.and_eq_true, beq_iff_eq] at this
 exact ⟨_, hx, this.1, this.2⟩
end Go.Tk

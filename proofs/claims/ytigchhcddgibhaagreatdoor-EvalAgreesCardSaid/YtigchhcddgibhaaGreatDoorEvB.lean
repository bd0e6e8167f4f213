/- Values of expressions: their types; laws of operators. -/
import Derived.Test.YtigchhcddgibhaaGreatDoorEvA
set_option linter.unusedVariables false
set_option linter.unusedSimpArgs false
set_option linter.unnecessarySimpa false
namespace Go.Tk
open Go Go.Eng
set_option maxRecDepth 20000
theorem qwB {t w : Int} {v : Vl} (h : qka t w = (v, 0)) : v = ⟨t, w⟩ ∧ qa6 v = true ∧ qbd w = true := by
 unfold qka at h
 cases hb : (qbd w && qa6 ⟨t, w⟩)
 ·rw [hb] at h; simp at h
 ·rw [hb] at h
  simp only [cond_true, Prod.mk.injEq, and_true] at h
  subst h
  simp only [Bool.and_eq_true] at hb
  exact ⟨rfl, hb.2, hb.1⟩
theorem qCK {t : Int} (h : qaO t = true) : qa6 ⟨t, 0⟩ = true := by
 rcases qaT h with rfl | rfl | rfl | rfl | rfl <;> rfl
theorem qdR {op a b t : Int} (h : qa3 op [a, b] = (t, true)) : qaO a = true ∧ qaO b = true ∧ qja op a b = (t, true) := by
 unfold qa3 at h
 cases hg : [a, b].all qaO
 ·rw [hg] at h; simp at h
 ·rw [hg] at h
  simp only [List.all_cons, List.all_nil, Bool.and_true, Bool.and_eq_true] at hg
  exact ⟨hg.1, hg.2, h⟩
theorem qkZ {op a t : Int} (h : qa3 op [a] = (t, true)) : qaO a = true ∧ qRd op a = (t, true) := by
 unfold qa3 at h
 cases hg : [a].all qaO
 ·rw [hg] at h; simp at h
 ·rw [hg] at h
  simp only [List.all_cons, List.all_nil, Bool.and_true] at hg
  exact ⟨hg, h⟩
theorem qdH {op a b c t : Int} (h : qa3 op [a, b, c] = (t, true)) : qaO b = true ∧ op = 19 ∧ a = 5 ∧ b = c ∧ t = b := by
 unfold qa3 at h
 cases hg : [a, b, c].all qaO
 ·rw [hg] at h; simp at h
 ·rw [hg] at h
  simp only [List.all_cons, List.all_nil, Bool.and_true, Bool.and_eq_true] at hg
  simp only [Bool.not_true, cond_false, qsT] at h
  cases hq : (op == 19 && (a == 5 && b == c))
  ·rw [hq] at h; simp at h
  ·rw [hq] at h
   simp only [cond_true, Prod.mk.injEq, and_true] at h
   simp only [Bool.and_eq_true, beq_iff_eq] at hq
   exact ⟨hg.2.1, hq.1, hq.2.1, hq.2.2, h.symm⟩
theorem qAB {op a b t : Int} (h : qx5 op a b = some t) : qaO t = true := by
 unfold qx5 at h
 cases hf : (ariL.find? fun p => p.1 == (op, a, b)) with
 | none => rw [hf] at h; cases h
 | some p =>
  rw [hf] at h; cases h
  have h1 := List.mem_of_find?_eq_some hf
  have : ∀ p ∈ ariL, qaO p.2 = true := by decide
  exact this p h1
theorem qdI {op a b t : Int} (h : qja op a b = (t, true)) : (5 ≤ op ∧ op ≤ 8 ∧ qx5 op a b = some t) ∨ ((10 ≤ op ∧ op ≤ 13) ∧ a = b ∧ t = 5) ∨ ((op = 14 ∨ op = 15) ∧ a = 5 ∧ b = 5 ∧ t = 5) ∨ ((op = 17 ∨ op = 18) ∧ a = b ∧ a ≠ 5 ∧ t = a) := by
 unfold qja at h
 split at h
 ·cases hq : (a == b)
  ·rw [hq] at h; simp at h
  ·rw [hq] at h
   simp only [cond_true, Prod.mk.injEq, and_true] at h
   exact .inr (.inl ⟨by omega, by simpa using hq, h.symm⟩)
 ·split at h
  ·cases hq : (a == b && a != 5)
   ·rw [hq] at h; simp at h
   ·rw [hq] at h
    simp only [cond_true, Prod.mk.injEq, and_true] at h
    simp only [Bool.and_eq_true, beq_iff_eq] at hq
    exact .inr (.inl ⟨by omega, hq.1, h.symm⟩)
  ·split at h
   ·cases hq : (a == b && a == 5)
    ·rw [hq] at h; simp at h
    ·rw [hq] at h
     simp only [cond_true, Prod.mk.injEq, and_true] at h
     simp only [Bool.and_eq_true, beq_iff_eq] at hq
     exact .inr (.inr (.inl ⟨by omega, hq.2, by omega, h.symm⟩))
   ·split at h
    ·cases hq : (a == b && a != 5)
     ·rw [hq] at h; simp at h
     ·rw [hq] at h
      simp only [cond_true, Prod.mk.injEq, and_true] at h
      simp only [Bool.and_eq_true, beq_iff_eq, bne_iff_ne, ne_eq] at hq
      exact .inr (.inr (.inr ⟨by omega, hq.1, hq.2, h.symm⟩))
    ·split at h
     ·rename_i t' ht
      simp only [Prod.mk.injEq, and_true] at h
      subst h
      have := qyM ht
      exact .inl ⟨this.2.1, this.2.2, ht⟩
     ·simp at h
theorem qjw {op a t : Int} (h : qRd op a = (t, true)) : (op = 16 ∧ a = 5 ∧ t = 5) ∨ (op = 9 ∧ t = a) := by
 unfold qRd at h
 split at h
 ·cases hq : (a == 5)
  ·rw [hq] at h; simp at h
  ·rw [hq] at h
   simp only [cond_true, Prod.mk.injEq, and_true] at h
   exact .inl ⟨by assumption, by simpa using hq, h.symm⟩
 ·split at h
  ·cases hq : (a == 1 || (a == 2 || a == 3))
   ·rw [hq] at h; simp at h
   ·rw [hq] at h
    simp only [cond_true, Prod.mk.injEq, and_true] at h
    exact .inr ⟨by assumption, h.symm⟩
  ·simp at h
theorem qbs {v : Vl} (h : v.ty = 5) : qa6 v = true ↔ v.n = 0 ∨ v.n = 1 := by
 unfold qa6
 rw [if_neg (by omega), if_neg (by omega), if_neg (by omega), if_neg (by omega), if_pos h]
 simp
theorem qSB {t : Int} (h : t = 5) (b : Bool) : qa6 ⟨t, bI b⟩ = true := by
 subst h; cases b <;> rfl
theorem qRF {t : Int} {a b v : Vl} (ht : qaO t = true) (h : qI8 t a b = (v, 0)) : v.ty = t ∧ qa6 v = true := by
 unfold qI8 at h
 split at h
 ·cases h
 ·split at h
  ·(obtain ⟨e1, e2, _⟩ := qwB h; exact ⟨by rw [e1], e2⟩)
  ·split at h
   ·cases h; exact ⟨rfl, qCK ht⟩
   ·split at h
    ·(obtain ⟨e1, e2, _⟩ := qwB h; exact ⟨by rw [e1], e2⟩)
    ·(obtain ⟨e1, e2, _⟩ := qwB h; exact ⟨by rw [e1], e2⟩)
theorem qlV {t w : Int} {v : Vl} (h : qka t w = (v, 0)) : v.ty = t ∧ qa6 v = true := by
 (obtain ⟨e1, e2, _⟩ := qwB h; exact ⟨by rw [e1], e2⟩)
theorem qR8 {t : Int} {a b v : Vl} (h : qCf t a b = (v, 0)) : v.ty = t ∧ qa6 v = true := by
 unfold qCf at h
 split at h <;> exact qlV h
theorem qtk {op : Int} {l : List Vl} {v : Vl} (h : qa8 op l = (v, 0)) : (qa3 op (l.map (·.ty))).2 = true ∧ v.ty = (qa3 op (l.map (·.ty))).1 ∧ qa6 v = true ∧ ∀ x ∈ l, qa6 x = true := by
 unfold qa8 at h
 cases h1 : (qa3 op (l.map (·.ty))).2
 ·rw [h1] at h; simp at h
 ·rw [h1] at h
  simp only [Bool.not_true, cond_false] at h
  cases h2 : l.all qa6
  ·rw [h2] at h; simp at h
  ·rw [h2] at h
   simp only [Bool.not_true, cond_false] at h
   have hall := List.all_eq_true.1 h2
   have hr : qa3 op (l.map (·.ty)) = ((qa3 op (l.map (·.ty))).1, true) := by rw [← h1]
   generalize (qa3 op (l.map (·.ty))).1 = t at h hr ⊢
   refine ⟨rfl, ?_⟩
   suffices hs : v.ty = t ∧ qa6 v = true from ⟨hs.1, hs.2, hall⟩
   match l, h, hr, hall with
   | [], h, _, _ => simp [opV] at h
   | [a], h, hr, hall =>
    have hc := qjw (qkZ hr).2
    simp only [opV] at h
    rcases hc with ⟨rfl, ha, rfl⟩ | ⟨rfl, _⟩
    ·rw [if_neg (by decide)] at h
     cases h
     refine ⟨rfl, ?_⟩
     have := (qbs ha).1 (hall a (by simp))
     rw [qbs rfl]
     simp only; omega
    ·rw [if_pos rfl] at h
     exact qlV h
   | [a, b], h, hr, hall =>
    obtain ⟨g1, g2, g3⟩ := qdR hr
    have ha := hall a (by simp)
    have hb := hall b (by simp)
    simp only [opV, qhm] at h
    rcases qdI g3 with ⟨q1, q2, q3⟩ | ⟨q1, q2, q3⟩ | ⟨q1, q2, q3, q4⟩ | ⟨q1, q2, q3, q4⟩
    ·have : op = 5 ∨ op = 6 ∨ op = 7 ∨ op = 8 := by omega
     rcases this with rfl | rfl | rfl | rfl
     ·rw [if_pos rfl] at h; exact qlV h
     ·rw [if_neg (by decide), if_pos rfl] at h; exact qlV h
     ·rw [if_neg (by decide), if_neg (by decide), if_pos rfl] at h; exact qR8 h
     ·rw [if_neg (by decide), if_neg (by decide), if_neg (by decide), if_pos rfl] at h; exact qRF (qAB q3) h
    ·subst q3
     have : op = 10 ∨ op = 11 ∨ op = 12 ∨ op = 13 := by omega
     rcases this with rfl | rfl | rfl | rfl <;> simp at h <;> subst h <;> exact ⟨rfl, qSB rfl _⟩
    ·subst q4
     have k0 := (qbs q2).1 ha
     have k1 := (qbs q3).1 hb
     rcases q1 with rfl | rfl <;> simp at h <;> subst h <;> refine ⟨rfl, (qbs rfl).2 ?_⟩ <;> simp only
     ·rcases k0 with k0 | k0 <;> rcases k1 with k1 | k1 <;> rw [k0, k1] <;> simp
     ·omega
    ·subst q4
     have hab : ∀ n, n = a.n ∨ n = b.n → qa6 ⟨a.ty, n⟩ = true := by
      rintro n (rfl | rfl)
      ·exact ha
      ·rw [show a.ty = b.ty from q2]; exact hb
     rcases q1 with rfl | rfl <;> simp at h <;> subst h <;> exact ⟨rfl, hab _ (by omega)⟩
   | [a, b, c], h, hr, hall =>
    obtain ⟨g1, _, _, g2, g3⟩ := qdH hr
    simp only [opV, Prod.mk.injEq, and_true] at h
    subst h
    refine ⟨rfl, ?_⟩
    subst g3
    split
    ·exact hall b (by simp)
    ·have := hall c (by simp)
     rw [g2]; exact this
   | a :: b :: c :: d :: l, h, hr, hall => simp [opV] at h
theorem qK3 {o n : Int} {s : Bs} {l : List Ex} (ho : o = 1 ∨ o = 2 ∨ o = 3) (h : qas (.mk o n s l) = true) : qa6 ⟨o, n⟩ = true ∧ qbd n = true := by
 replace h : (qaV o == (l.length : Int) && (decide (n ≥ 0) && (decide (n ≤ qgt o) && (s == [] || o == 4)))) = true := h
 simp only [Bool.and_eq_true, decide_eq_true_eq] at h
 obtain ⟨_, h2, h3, _⟩ := h
 have hm : n ≤ 9223372036854775807 := by
  rcases ho with rfl | rfl | rfl <;> simp [qgt] at h3 <;> omega
 refine ⟨?_, by unfold qbd; rw [decide_eq_true (by omega), decide_eq_true hm]; rfl⟩
 rcases ho with rfl | rfl | rfl
 ·rfl
 ·simp [qgt] at h3; simp [qa6]; omega
 ·simp [qgt] at h3; simp [qa6]; omega
theorem qVE {vs : List Va} {env : List Vl} (h : qhp vs env = true) {n : Nat} {v : Va} (hv : vs[n]? = some v) : ∃ x, env[n]? = some x ∧ x.ty = v.ty ∧ qa6 x = true := by
 unfold qhp at h
 simp only [Bool.and_eq_true, beq_iff_eq, List.all_eq_true] at h
 have hn := (List.getElem?_eq_some_iff.1 hv).1
 have hx : env[n]? = some env[n] := List.getElem?_eq_getElem (by omega)
 have := h.2 n (by rw [List.mem_range]; omega)
 rw [hv, hx] at this
 simp only [Bool.and_eq_true, beq_iff_eq] at this
 exact ⟨_, hx, this.1, this.2⟩
theorem qAp {vs : List Va} {env : List Vl} : ∀ {l : List Ex}, (qdJ vs env l).2 = 0 → (qdJ vs env l).1 = l.map (fun e => (qaZ vs env e).1) ∧ ∀ e ∈ l, (qaZ vs env e).2 = 0
 | [], _ => ⟨rfl, fun _ h => by cases h⟩
 | e :: l, h => by
  simp only [qdJ] at h ⊢
  cases h1 : ((qaZ vs env e).2 != 0)
  ·rw [h1] at h
   simp only [cond_false] at h ⊢
   cases h2 : ((qdJ vs env l).2 != 0)
   ·have h2' : (qdJ vs env l).2 = 0 := by simpa using h2
    have ih := qAp h2'
    simp only [cond_false]
    refine ⟨by rw [ih.1]; rfl, fun x hx => ?_⟩
    rcases List.mem_cons.1 hx with rfl | hx
    ·simpa using h1
    ·exact ih.2 x hx
   ·rw [h2] at h; simp only [cond_true] at h; rw [h] at h2; simp at h2
  ·rw [h1] at h; simp only [cond_true] at h; rw [h] at h1; simp at h1
theorem qPC {vs : List Va} : ∀ {l : List Ex}, (Ex.tys vs l).2 = 0 → (Ex.tys vs l).1 = l.map (fun e => (Ex.ty vs e).1) ∧ ∀ e ∈ l, (Ex.ty vs e).2 = 0
 | [], _ => ⟨rfl, fun _ h => by cases h⟩
 | e :: l, h => by
  simp only [Ex.tys] at h ⊢
  cases h1 : ((Ex.ty vs e).2 != 0)
  ·rw [h1] at h
   simp only [cond_false] at h ⊢
   cases h2 : ((Ex.tys vs l).2 != 0)
   ·have h2' : (Ex.tys vs l).2 = 0 := by simpa using h2
    have ih := qPC h2'
    simp only [cond_false]
    refine ⟨by rw [ih.1]; rfl, fun x hx => ?_⟩
    rcases List.mem_cons.1 hx with rfl | hx
    ·simpa using h1
    ·exact ih.2 x hx
   ·rw [h2] at h; simp only [cond_true] at h; rw [h] at h2; simp at h2
  ·rw [h1] at h; simp only [cond_true] at h; rw [h] at h1; simp at h1
theorem q0k {op t : Int} {p : List Int × Int} (h : qx7 op p = (t, 0)) : p.2 = 0 ∧ qa3 op p.1 = (t, true) := by
 unfold qx7 at h
 cases h1 : (p.2 != 0)
 ·rw [h1] at h
  cases h2 : (qa3 op p.1).2
  ·rw [h2] at h; simp at h
  ·rw [h2] at h
   simp only [cond_false, cond_true, Prod.mk.injEq] at h
   exact ⟨by simpa using h1, by rw [← h.1, ← h2]⟩
 ·rw [h1] at h
  simp only [cond_true, Prod.mk.injEq] at h
  rw [h.2] at h1; simp at h1
theorem qls {vs : List Va} {o n t : Int} {s : Bs} {l : List Ex} (h1 : o ≠ 1) (h2 : o ≠ 2) (h3 : o ≠ 3) (h4 : o ≠ 4) (h : Ex.ty vs (.mk o n s l) = (t, 0)) : qa3 o (l.map fun e => (Ex.ty vs e).1) = (t, true) ∧ ∀ e ∈ l, (Ex.ty vs e).2 = 0 := by
 have h' : qx7 o (Ex.tys vs l) = (t, 0) := by simpa [Ex.ty, h1, h2, h3, h4] using h
 obtain ⟨a, b⟩ := q0k h'
 obtain ⟨c, d⟩ := qPC a
 rw [c] at b
 exact ⟨b, d⟩
theorem qns {vs : List Va} {env : List Vl} (he : qhp vs env = true) : ∀ (e : Ex), e.allX qas = true → ∀ t, Ex.ty vs e = (t, 0) → (qaZ vs env e).2 = 0 → (qaZ vs env e).1.ty = t ∧ qa6 (qaZ vs env e).1 = true := by
 intro e
 induction e using Ex.ind with
 | h o n s l ih =>
  intro hf t ht h0
  rw [Ex.allX_eq, Bool.and_eq_true, List.all_eq_true] at hf
  obtain ⟨hf1, hf2⟩ := hf
  simp only [Ex.args] at hf2
  by_cases c1 : o = 1 ∨ o = 2 ∨ o = 3
  ·have hl := qK3 c1 hf1
   have hv : qaZ vs env (.mk o n s l) = (⟨o, n⟩, 0) := by
    rcases c1 with rfl | rfl | rfl <;> simp [qaZ]
   have ht' : t = o := by
    rcases c1 with rfl | rfl | rfl <;> simp [Ex.ty] at ht <;> omega
   rw [hv]
   exact ⟨ht'.symm, hl.1⟩
  by_cases c4 : o = 4
  ·subst c4
   have h' : qj9 vs s = (t, 0) := by simpa [Ex.ty] using ht
   have hv : qaZ vs env (.mk 4 n s l) = ((env[vs.findIdx (fun v => v.name == s)]?).getD ⟨0, 0⟩, 0) := by simp [qaZ]
   rw [hv]
   unfold qj9 at h'
   cases hq : vs.find? fun v => v.name == s with
   | none => rw [hq] at h'; simp at h'
   | some v =>
    rw [hq] at h'
    have hg : v.ty = t := by
     simp only at h'
     cases hgd : qaO v.ty
     ·rw [hgd] at h'; simp at h'
     ·rw [hgd] at h'; simpa using h'
    rw [List.find?_eq_getElem?_findIdx] at hq
    obtain ⟨x, hx, h1, h2⟩ := qVE he hq
    rw [hx]
    exact ⟨by rw [← hg]; exact h1, h2⟩
  have k1 : o ≠ 1 := fun q => c1 (.inl q)
  have k2 : o ≠ 2 := fun q => c1 (.inr (.inl q))
  have k3 : o ≠ 3 := fun q => c1 (.inr (.inr q))
  obtain ⟨hr, hall⟩ := qls k1 k2 k3 c4 ht
  have hty : ∀ e ∈ l, Ex.ty vs e = ((Ex.ty vs e).1, 0) := fun e hm => by rw [← hall e hm]
  by_cases c19 : o = 19
  ·subst c19
   have hv : qaZ vs env (.mk 19 n s l) = qvR vs env l := by simp [qaZ]
   rw [hv] at h0 ⊢
   match l, h0, hr, hty, ih, hf2 with
   | [c, a, b], h0, hr, hty, ih, hf2 =>
    obtain ⟨_, _, _, q1, q2⟩ := qdH hr
    simp only [qvR] at h0 ⊢
    cases hc : ((qaZ vs env c).2 != 0)
    ·rw [hc] at h0
     simp only [cond_false] at h0 ⊢
     split at h0
     ·rename_i hn
      rw [if_pos hn]
      have := ih a (by simp) (hf2 a (by simp)) _ (hty a (by simp)) h0
      exact ⟨by rw [q2]; exact this.1, this.2⟩
     ·rename_i hn
      rw [if_neg hn]
      have := ih b (by simp) (hf2 b (by simp)) _ (hty b (by simp)) h0
      exact ⟨by rw [q2, q1]; exact this.1, this.2⟩
    ·rw [hc] at h0; simp only [cond_true] at h0; rw [h0] at hc; simp at hc
   | [], h0, _, _, _, _ => simp [qvR] at h0
   | [_], h0, _, _, _, _ => simp [qvR] at h0
   | [_, _], h0, _, _, _, _ => simp [qvR] at h0
   | _ :: _ :: _ :: _ :: _, h0, _, _, _, _ => simp [qvR] at h0
  ·have hv : qaZ vs env (.mk o n s l) = bif (qdJ vs env l).2 != 0 then (⟨0, 0⟩, (qdJ vs env l).2) else qa8 o (qdJ vs env l).1 := by simp [qaZ, k1, k2, k3, c4, c19]
   rw [hv] at h0 ⊢
   cases hq : ((qdJ vs env l).2 != 0)
   ·rw [hq] at h0
    simp only [cond_false] at h0 ⊢
    obtain ⟨e1, e2⟩ := qAp (vs := vs) (env := env) (l := l) (by simpa using hq)
    obtain ⟨a1, a2, a3, _⟩ := qtk (op := o) (l := (qdJ vs env l).1) (v := (qa8 o (qdJ vs env l).1).1) (by rw [← h0])
    have htl : (qdJ vs env l).1.map (·.ty) = l.map fun e => (Ex.ty vs e).1 := by
     rw [e1, List.map_map]
     apply List.map_congr_left
     intro x hx
     exact (ih x hx (hf2 x hx) _ (hty x hx) (e2 x hx)).1
    rw [htl, hr] at a2
    exact ⟨a2, a3⟩
   ·rw [hq] at h0; simp only [cond_true] at h0; rw [h0] at hq; simp at hq
theorem qf3 (op : Int) (a b : Vl) : qa8 op [a, b] = bif !(qa3 op [a.ty, b.ty]).2 then (⟨0, 0⟩, 3) else bif !(qa6 a && qa6 b) then (⟨0, 0⟩, 1) else qhm op (qa3 op [a.ty, b.ty]).1 a b := by
 have : [a, b].all qa6 = (qa6 a && qa6 b) := by simp
 rw [← this]; rfl
theorem qCv {op a b : Int} (h : op = 7 ∨ a = b) : qa3 op [a, b] = qa3 op [b, a] := by
 rcases h with rfl | rfl
 ·by_cases ha : qaO a = true
  ·by_cases hb : qaO b = true
   ·rcases qaT ha with rfl | rfl | rfl | rfl | rfl <;> rcases qaT hb with rfl | rfl | rfl | rfl | rfl <;> rfl
   ·have hb' : qaO b = false := by simpa using hb
    simp [qa3, hb']
  ·have ha' : qaO a = false := by simpa using ha
   simp [qa3, ha']
 ·rfl
theorem qvX {a b : Vl} (h : a.ty = b.ty) : qa8 5 [a, b] = qa8 5 [b, a] := by
 rw [qf3, qf3, qCv (.inr h), Bool.and_comm (qa6 a)]
 have : ∀ t, qhm 5 t a b = qhm 5 t b a := fun t => by simp only [qhm, if_true, Int.add_comm]
 rw [this]
theorem qxc {a b : Vl} : qa8 7 [a, b] = qa8 7 [b, a] := by
 rw [qf3, qf3, qCv (.inl rfl), Bool.and_comm (qa6 a)]
 have : ∀ t, qhm 7 t a b = qhm 7 t b a := fun t => by
  have e1 : qhm 7 t a b = qCf t a b := by simp [qhm]
  have e2 : qhm 7 t b a = qCf t b a := by simp [qhm]
  rw [e1, e2]
  unfold qCf
  rw [Int.mul_comm a.n]
  by_cases c : a.ty ≠ b.ty ∧ a.ty ≠ 1 ∧ b.ty ≠ 1
  ·rw [if_pos c, if_pos ⟨fun q => c.1 q.symm, c.2.2, c.2.1⟩]
  ·rw [if_neg c, if_neg (fun q => c ⟨fun r => q.1 r.symm, q.2.2, q.2.1⟩)]
 rw [this]
theorem qAh {a b x : Vl} (hab : a.ty = b.ty) (h4 : a.ty ≠ 4) (ha : qbd a.n = true) (h : qa8 6 [a, b] = (x, 0)) : qa8 5 [x, b] = (a, 0) := by
 obtain ⟨k1, k2, k3, k4⟩ := qtk h
 rw [qf3] at h ⊢
 have hva := k4 a (by simp)
 have hvb := k4 b (by simp)
 simp only [List.map_cons, List.map_nil] at k1 k2
 have hr : qa3 6 [a.ty, b.ty] = ((qa3 6 [a.ty, b.ty]).1, true) := by rw [← k1]
 obtain ⟨g1, g2, g3⟩ := qdR hr
 rw [← hab] at g3 k2 hr h
 have h3 : a.ty = 1 ∨ a.ty = 2 ∨ a.ty = 3 := by
  rcases qaT g1 with c | c | c | c | c
  ·exact .inl c
  ·exact .inr (.inl c)
  ·exact .inr (.inr c)
  ·exact absurd c h4
  ·rw [c] at g3; cases g3
 have hx : x.ty = a.ty := by rcases h3 with c | c | c <;> rw [k2, c] <;> rfl
 have h5 : qa3 5 [x.ty, b.ty] = (a.ty, true) := by
  rw [hx, ← hab]; rcases h3 with c | c | c <;> rw [c] <;> rfl
 rw [h5]
 have e : (qa6 x && qa6 b) = true := by rw [k3, hvb]; rfl
 rw [e]
 simp only [Bool.not_true, cond_false]
 rw [hr] at h
 have e' : (qa6 a && qa6 b) = true := by rw [hva, hvb]; rfl
 rw [e'] at h
 simp only [Bool.not_true, cond_false] at h
 have hn : x.n = a.n - b.n := by
  have : qka (qa3 6 [a.ty, a.ty]).1 (a.n - b.n) = (x, 0) := by simpa [qhm] using h
  rw [(qwB this).1]
 have : qhm 5 a.ty x b = qka a.ty (x.n + b.n) := by simp [qhm]
 rw [this, hn, show a.n - b.n + b.n = a.n by omega]
 unfold qka
 rw [ha]
 have : qa6 ⟨a.ty, a.n⟩ = true := hva
 rw [this]; rfl
theorem q0b {a b : Vl} : (qa8 12 [a, b]).2 = (qa8 13 [b, a]).2 ∧ ((qa8 12 [a, b]).2 = 0 → (qa8 12 [a, b]).1.n + (qa8 13 [b, a]).1.n = 1) := by
 rw [qf3, qf3]
 have hr : qa3 12 [a.ty, b.ty] = qa3 13 [b.ty, a.ty] := by
  unfold qa3
  have : [a.ty, b.ty].all qaO = [b.ty, a.ty].all qaO := by simp [Bool.and_comm]
  rw [this]
  have h2 : qja 12 a.ty b.ty = qja 13 b.ty a.ty := by
   simp only [qja]
   by_cases c : a.ty = b.ty
   ·rw [c]; simp
   ·have e1 : (a.ty == b.ty) = false := by simpa using c
    have e2 : (b.ty == a.ty) = false := by simpa using fun q => c q.symm
    simp [e1, e2]
  simp only [h2]
 rw [hr, Bool.and_comm (qa6 a)]
 cases (qa3 13 [b.ty, a.ty]).2
 ·exact ⟨rfl, fun h => by cases h⟩
 ·cases (qa6 b && qa6 a)
  ·exact ⟨rfl, fun h => by cases h⟩
  ·simp only [Bool.not_true, cond_false]
   refine ⟨by simp [qhm], fun _ => ?_⟩
   simp only [qhm]
   simp only [show ¬ ((12 : Int) = 5) by decide, show ¬ ((12 : Int) = 6) by decide, show ¬ ((12 : Int) = 7) by decide, show ¬ ((12 : Int) = 8) by decide, show ¬ ((12 : Int) = 10) by decide, show ¬ ((12 : Int) = 11) by decide, if_false, if_true,
    show ¬ ((13 : Int) = 5) by decide, show ¬ ((13 : Int) = 6) by decide, show ¬ ((13 : Int) = 7) by decide, show ¬ ((13 : Int) = 8) by decide, show ¬ ((13 : Int) = 10) by decide, show ¬ ((13 : Int) = 11) by decide, show ¬ ((13 : Int) = 12) by decide]
   by_cases c : a.n < b.n
   ·rw [decide_eq_true c, decide_eq_false (by omega)]; rfl
   ·rw [decide_eq_false c, decide_eq_true (by omega)]; rfl
theorem qz9 {a b : Vl} : (qa8 17 [a, b]).2 = (qa8 18 [a, b]).2 ∧ ((qa8 17 [a, b]).2 = 0 → (qa8 17 [a, b]).1.n ≤ (qa8 18 [a, b]).1.n ∧ (((qa8 17 [a, b]).1 = a ∧ (qa8 18 [a, b]).1 = b) ∨ ((qa8 17 [a, b]).1 = b ∧ (qa8 18 [a, b]).1 = a))) := by
 rw [qf3, qf3]
 have hr : qa3 17 [a.ty, b.ty] = qa3 18 [a.ty, b.ty] := by
  unfold qa3
  have h2 : qja 17 a.ty b.ty = qja 18 a.ty b.ty := by simp [qja]
  simp only [h2]
 rw [hr]
 cases hb : (qa3 18 [a.ty, b.ty]).2
 ·exact ⟨rfl, fun h => by cases h⟩
 ·cases (qa6 a && qa6 b)
  ·exact ⟨rfl, fun h => by cases h⟩
  ·simp only [Bool.not_true, cond_false]
   have hq : qa3 18 [a.ty, b.ty] = ((qa3 18 [a.ty, b.ty]).1, true) := by rw [← hb]
   obtain ⟨_, _, g3⟩ := qdR hq
   have ht : a.ty = b.ty ∧ (qa3 18 [a.ty, b.ty]).1 = a.ty := by
    rcases qdI g3 with ⟨_, q, _⟩ | ⟨⟨_, q⟩, _⟩ | ⟨q, _⟩ | ⟨_, q1, _, q2⟩
    ·omega
    ·omega
    ·omega
    ·exact ⟨q1, q2⟩
   rw [ht.2]
   have e1 : qhm 17 a.ty a b = (⟨a.ty, min a.n b.n⟩, 0) := by simp [qhm]
   have e2 : qhm 18 a.ty a b = (⟨a.ty, max a.n b.n⟩, 0) := by simp [qhm]
   rw [e1, e2]
   refine ⟨rfl, fun _ => ⟨by simp only; omega, ?_⟩⟩
   obtain ⟨ta, na⟩ := a
   obtain ⟨tb, nb⟩ := b
   simp only at ht ⊢
   obtain ⟨rfl, _⟩ := ht
   by_cases c : na ≤ nb
   ·left; exact ⟨by rw [Int.min_eq_left c], by rw [Int.max_eq_right c]⟩
   ·right; exact ⟨by rw [Int.min_eq_right (by omega)], by rw [Int.max_eq_left (by omega)]⟩
end Go.Tk

/- Values of expressions are numbers of the machine. -/
import Derived.Test.YtigchhcddgibhaaGreatDoorEvB
set_option linter.unusedVariables false
set_option linter.unusedSimpArgs false
set_option linter.unnecessarySimpa false
namespace Go.Tk
open Go Go.Eng
set_option maxRecDepth 20000
theorem qdF {n : Int} : qa6 n = true ↔ -9223372036854775808 <= n /\ n <= 9223372036854775807 := by
 unfold qa6; rw [Bool.and_eq_true, decide_eq_true_eq, decide_eq_true_eq]
theorem qzo {t w : Int} : qa6 (qrc t w).1.n = true := by
 unfold qrc
 cases h : (qa6 w && qbb ⟨t, w⟩)
 ·rfl
 ·simp only [Bool.and_eq_true] at h
  exact h.1
theorem q95 {b : Bool} : qa6 (bI b) = true := by cases b <;> rfl
theorem q6s {t : Int} {a b : Vl} : qa6 (qTN t a b).1.n = true := by
 unfold qTN
 repeat (split; first | rfl | exact qzo)
 exact qzo
theorem q6K {t : Int} {a b : Vl} : qa6 (qM4 t a b).1.n = true := by
 unfold qM4; split <;> exact qzo
theorem q8v {op t : Int} {a b : Vl} (hr : qa0 op [a.ty, b.ty] = (t, true)) (va : qbb a = true) (vb : qbb b = true) (ha : qa6 a.n = true) (hb : qa6 b.n = true) : qa6 (qmY op t a b).1.n = true := by
 rcases qeg (qd8 hr).2.2 with ⟨q1, q2, _⟩ | ⟨q1, _, _⟩ | ⟨q1, q2, q3, _⟩ | ⟨q1, _⟩
 ·have : op = 5 \/ op = 6 \/ op = 7 \/ op = 8 := by omega
  rcases this with rfl | rfl | rfl | rfl
  ·exact qzo
  ·exact qzo
  ·exact q6K
  ·exact q6s
 ·have : op = 10 \/ op = 11 \/ op = 12 \/ op = 13 := by omega
  rcases this with rfl | rfl | rfl | rfl <;> exact q95
 ·have k0 := (qbA q2).1 va
  have k1 := (qbA q3).1 vb
  rcases q1 with rfl | rfl
  ·show qa6 (a.n * b.n) = true
   rcases k0 with k0 | k0 <;> rcases k1 with k1 | k1 <;> rw [k0, k1] <;> rfl
  ·show qa6 (max a.n b.n) = true
   rcases k0 with k0 | k0 <;> rcases k1 with k1 | k1 <;> rw [k0, k1] <;> rfl
 ·rw [qdF] at ha hb
  rcases q1 with rfl | rfl
  ·show qa6 (min a.n b.n) = true
   rw [qdF]; omega
  ·show qa6 (max a.n b.n) = true
   rw [qdF]; omega
theorem qo3 {op : Int} {l : List Vl} (h : ∀ x ∈ l, qa6 x.n = true) : qa6 (qbc op l).1.n = true := by
 unfold qbc
 cases h1 : (qa0 op (l.map (·.ty))).2
 ·rfl
 cases h2 : l.all qbb
 ·rfl
 have hall := List.all_eq_true.1 h2
 have hr : qa0 op (l.map (·.ty)) = ((qa0 op (l.map (·.ty))).1, true) := by rw [<- h1]
 simp only [Bool.not_true, cond_false]
 generalize (qa0 op (l.map (·.ty))).1 = t at hr
 match l, h, hr, hall with
 | [], _, _, _ => rfl
 | [a], h, hr, hall =>
  rcases qoz (qnm hr).2 with ⟨rfl, ha, rfl⟩ | ⟨rfl, _⟩
  ·have k := (qbA ha).1 (hall a (by simp))
   show qa6 (1 - a.n) = true
   rcases k with k | k <;> rw [k] <;> rfl
  ·exact qzo
 | [a, b], h, hr, hall => exact q8v hr (hall a (by simp)) (hall b (by simp)) (h a (by simp)) (h b (by simp))
 | [a, b, c], h, hr, hall =>
  show qa6 (if a.n = 1 then b.n else c.n) = true
  split
  ·exact h b (by simp)
  ·exact h c (by simp)
 | a :: b :: c :: d :: l, _, _, _ => rfl
theorem qNz {vs : List Va} {env : List Vl} (he : ∀ x ∈ env, qa6 x.n = true) : ∀ (e : Ex), e.allX qax = true -> qa6 (qa4 vs env e).1.n = true := by
 intro e
 induction e using Ex.ind with
 | h o n s l ih =>
  intro hf
  rw [Ex.allX_eq, Bool.and_eq_true, List.all_eq_true] at hf
  obtain ⟨hf1, hf2⟩ := hf
  simp only [Ex.args] at hf2
  by_cases c1 : o = 1 \/ o = 2 \/ o = 3
  ·have hl := q1G c1 hf1
   have hv : qa4 vs env (.mk o n s l) = (⟨o, n⟩, 0) := by
    rcases c1 with rfl | rfl | rfl <;> simp [qa4]
   rw [hv]; exact hl.2
  by_cases c4 : o = 4
  ·subst c4
   have hv : qa4 vs env (.mk 4 n s l) = ((env[vs.findIdx (fun v => v.name == s)]?).getD ⟨0, 0⟩, 0) := by simp [qa4]
   rw [hv]
   cases hq : env[vs.findIdx (fun v => v.name == s)]? with
   | none => rfl
   | some x => exact he x (List.mem_of_getElem? hq)
  have k1 : o ≠ 1 := fun q => c1 (.inl q)
  have k2 : o ≠ 2 := fun q => c1 (.inr (.inl q))
  have k3 : o ≠ 3 := fun q => c1 (.inr (.inr q))
  by_cases c19 : o = 19
  ·subst c19
   have hv : qa4 vs env (.mk 19 n s l) = qK7 vs env l := by simp [qa4]
   rw [hv]
   match l, ih, hf2 with
   | [c, a, b], ih, hf2 =>
    simp only [qK7]
    cases hc : ((qa4 vs env c).2 != 0)
    ·simp only [cond_false]
     split
     ·exact ih a (by simp) (hf2 a (by simp))
     ·exact ih b (by simp) (hf2 b (by simp))
    ·rfl
   | [], _, _ => rfl
   | [_], _, _ => rfl
   | [_, _], _, _ => rfl
   | _ :: _ :: _ :: _ :: _, _, _ => rfl
  ·have hv : qa4 vs env (.mk o n s l) = bif (qe1 vs env l).2 != 0 then (⟨0, 0⟩, (qe1 vs env l).2) else qbc o (qe1 vs env l).1 := by simp [qa4, k1, k2, k3, c4, c19]
   rw [hv]
   cases hq : ((qe1 vs env l).2 != 0)
   ·obtain ⟨e1, e2⟩ := qWZ (vs := vs) (env := env) (l := l) (by simpa using hq)
    simp only [cond_false]
    refine qo3 fun x hx => ?_
    rw [e1, List.mem_map] at hx
    obtain ⟨y, hy, rfl⟩ := hx
    exact ih y hy (hf2 y hy)
   ·rfl
theorem qMH {vs : List Va} {env : List Vl} (h : qhE vs env = true) : vs.length = env.length := by
 unfold qhE at h
 simp only [Bool.and_eq_true, beq_iff_eq] at h
 exact h.1
theorem qTI {e : Ex} (h : qbJ e = 0) : e.allX qax = true /\ e.nodes <= 64 := by
 unfold qbJ at h
 cases q1 : (decide (e.nodes > 64) || decide (e.dep > 8))
 ·rw [q1] at h
  simp only [Bool.or_eq_false_iff, decide_eq_false_iff_not] at q1
  cases q2 : e.allX qax
  ·rw [q2] at h; cases h
  ·exact ⟨rfl, by omega⟩
 ·rw [q1] at h; cases h
theorem qlI {e : Ex} {vs : List Va} (h : (ofS e vs).2 = 0) : e.allX qax = true /\ e.nodes <= 64 /\ Ex.ty vs e = ((ofS e vs).1, 0) := by
 unfold ofS at h ⊢
 cases hv : (qbJ e != 0)
 ·rw [hv] at h
  simp only [cond_false] at h ⊢
  obtain ⟨a, b⟩ := qTI (e := e) (by simpa using hv)
  exact ⟨a, b, by rw [<- h]⟩
 ·rw [hv] at h
  simp only [cond_true] at h
  rw [h] at hv; simp at hv
end Go.Tk

/- Compiled code holds numbers of the machine; what two runs of it say. -/
import Derived.Test.YtigchhcddgibhaaGreatDoorEvC
import Derived.Test.YtigchhcddgibhaaGreatDoorEvD
set_option linter.unusedVariables false
set_option linter.unusedSimpArgs false
set_option linter.unnecessarySimpa false
namespace Go.Tk
open Go Go.Eng
set_option maxRecDepth 20000
theorem q4E (vs : List Va) : ∀ e : Ex, e.allX qas = true → ∀ k, ∀ x ∈ emE vs k e, qbd x.n = true := by
 intro e
 induction e using Ex.ind with
 | h o n s l ih =>
  intro hf k
  rw [Ex.allX_eq, Bool.and_eq_true, List.all_eq_true] at hf
  obtain ⟨h1, h2⟩ := hf
  simp only [Ex.args] at h2
  rcases qbC h1 with ⟨h, rfl, _⟩ | ⟨rfl, rfl, _⟩ | ⟨h, hl, _⟩ | ⟨rfl, hl, _⟩ | ⟨h, _, _, hl, _⟩
  ·intro x hx
   rw [qip h] at hx
   rw [List.mem_singleton.1 hx]
   exact (qK3 h h1).2
  ·intro x hx
   rw [qiq] at hx
   rw [List.mem_singleton.1 hx]
   rfl
  ·obtain ⟨x, rfl⟩ := q0y hl
   intro y hy
   rw [qeQ (by omega), qf7] at hy
   rcases List.mem_append.1 hy with hy | hy
   ·exact ih x (by simp) (h2 x (by simp)) k y hy
   ·rw [List.mem_singleton.1 hy]; rfl
  ·obtain ⟨x, y, z, rfl⟩ := q0A hl
   intro u hu
   rw [qnV] at hu
   simp only [emI] at hu
   rcases List.mem_append.1 hu with hu | hu
   ·exact ih x (by simp) (h2 x (by simp)) _ u hu
   rcases List.mem_cons.1 hu with hu | hu
   ·rw [hu]; rfl
   rcases List.mem_append.1 hu with hu | hu
   ·exact ih y (by simp) (h2 y (by simp)) _ u hu
   rcases List.mem_cons.1 hu with hu | hu
   ·rw [hu]; rfl
   ·exact ih z (by simp) (h2 z (by simp)) _ u hu
  ·obtain ⟨x, y, rfl⟩ := q0z hl
   intro u hu
   rw [qeQ (by omega), qf8] at hu
   rcases List.mem_append.1 hu with hu | hu
   ·rcases List.mem_append.1 hu with hu | hu
    ·exact ih x (by simp) (h2 x (by simp)) _ u hu
    ·exact ih y (by simp) (h2 y (by simp)) _ u hu
   ·rw [List.mem_singleton.1 hu]; rfl
theorem qAF {e : Ex} {vs : List Va} (h : (qca e vs).2 = 0) : ∀ x ∈ (qca e vs).1.ins, qbd x.n = true := by
 obtain ⟨_, h2, h3, _⟩ := qtq h
 rw [h3]
 exact q4E vs e (qhe h2).1 0
theorem qIZ {e : Ex} {vs : List Va} (h : (qca e vs).2 = 0) : (qca e vs).1.vars = vs ∧ (qca e vs).1.ins.length ≤ 128 ∧ e.nodes ≤ (qca e vs).1.ins.length := by
 obtain ⟨_, h2, h3, h4, h5, _⟩ := qtq h
 have := (qhe h2).2.1
 rw [h3]
 exact ⟨rfl, by simp only; omega, h4⟩
theorem qPy {e : Ex} {vs : List Va} {env : List Vl} (h : (qcC e vs env).2 = 0) : (ofS e vs).2 = 0 ∧ (ofS e vs).1 = (qcC e vs env).1.ty ∧ qa6 (qcC e vs env).1 = true := by
 unfold qcC at h ⊢
 cases h1 : (qb8 vs != 0)
 ·rw [h1] at h
  simp only [cond_false] at h ⊢
  cases h2 : ((ofS e vs).2 != 0)
  ·rw [h2] at h
   simp only [cond_false] at h ⊢
   cases h3 : qhp vs env
   ·rw [h3] at h; cases h
   ·rw [h3] at h
    simp only [Bool.not_true, cond_false] at h ⊢
    have h2' : (ofS e vs).2 = 0 := by simpa using h2
    obtain ⟨a, _, c⟩ := qhe h2'
    obtain ⟨u, v⟩ := qns h3 e a _ c h
    exact ⟨h2', u.symm, v⟩
  ·rw [h2] at h; simp only [cond_true] at h; rw [h] at h2; simp at h2
 ·rw [h1] at h; simp only [cond_true] at h; rw [h] at h1; simp at h1
theorem qCG {e : Ex} {vs : List Va} {env : List Vl} (h : (qcC e vs env).2 ≠ 0) : (qcC e vs env).1 = ⟨0, 0⟩ := by
 unfold qcC at h ⊢
 cases h1 : (qb8 vs != 0)
 ·rw [h1] at h
  simp only [cond_false] at h ⊢
  cases h2 : ((ofS e vs).2 != 0)
  ·rw [h2] at h
   simp only [cond_false] at h ⊢
   cases h3 : qhp vs env
   ·rfl
   ·rw [h3] at h
    exact qAq vs env e h
  ·rfl
 ·rfl
end Go.Tk

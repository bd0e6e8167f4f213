/- Chapter 15: the law ProductVars. -/
import Derived.Test.YthljpgljbpdmjaaGreatDoorX15vPrd
set_option linter.unusedVariables false
set_option linter.unusedSimpArgs false
set_option linter.unnecessarySimpa false
namespace Go.Proofs.H15v
open Go Go.Eng Go.Tk
set_option maxRecDepth 20000
theorem f_u113q_val : f_u113q = some (EV varsP) := by rw [f_u113q_eq, tr_u113q]; rfl
theorem Vars_law (i : Int) : f_u33q i = some true := by
  rw [f_u33q_eq, tr_u33q, f_u73q_val, f_u113q_val, lives_val]
  simp only [ev_bi_some, ev_br, bne_self_eq_false, cond_false, List.length_map]
  cases h1 : decide (i < 0)
  · cases h2 : decide (i ≥ (varsP.length : Int))
    · have h1' : 0 ≤ i := by simpa using h1
      have h2' : i < (varsP.length : Int) := by simpa using h2
      obtain ⟨n, rfl⟩ := Int.eq_ofNat_of_zero_le h1'
      have hn : n < varsP.length := by omega
      simp only [cond_false, okV hn, qv0 hn, qv1 hn, cond_true]
      simp
    · rfl
  · rfl
end Go.Proofs.H15v

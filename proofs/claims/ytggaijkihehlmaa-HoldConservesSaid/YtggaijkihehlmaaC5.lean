/- HoldConserves, in the machine. -/
import Derived.Test.YtggaijkihehlmaaG21
import Derived.Test.YtggaijkihehlmaaF19
set_option linter.unusedVariables false
set_option linter.unusedSimpArgs false
set_option linter.unnecessarySimpa false
namespace Go.Proofs.H22
open Go Go.Eng
set_option maxRecDepth 20000

theorem law6 (x y : AV) (hx : x = .nils ∨ ∃ es, x = .view 6 es ∧ gd es = true) (hy : y = .nils ∨ ∃ us, y = .view 10 us ∧ gdA us = true) : callO IP 6 [x, y] [] = some (.ret (.bool true), []) := by
  rcases hx with rfl | ⟨es, rfl, hg⟩ <;> rcases hy with rfl | ⟨us, rfl, hu⟩
  · exact callO_iff.2 ⟨60, by kernel_rfl⟩
  · refine callO_by sH_ok (by kernel_rfl) L6_ok (n := 4) ((rd_f6nv_eq us).trans ?_)
    have hw : (W (tot [] + 0) == (0 : Int)) = true := by decide
    unfold rd_f6nv
    rw [hu, hw]
    cases shortA us <;> cases isVw (zN .nils 0 0 us).x <;> rfl
  · refine callO_by sH_ok (by kernel_rfl) L6_ok (n := 4) ((rd_f6vn_eq es).trans ?_)
    unfold rd_f6vn
    rw [hg]
    cases greatA es <;> cases (chkS (es.map toH) != 0) <;> rfl
  · refine callO_by sH_ok (by kernel_rfl) L6_ok (n := 4) ((rd_f6vv_eq es us).trans ?_)
    have hw : (W (tot (es.map toH) + 0) == sumN (es.map toH) es.length) = true := by
      rw [sum_all, Int.add_zero]; exact beq_self_eq_true _
    unfold rd_f6vv
    rw [hu, hg, hw]
    by_cases hc : chkS (es.map toH) = 0
    · have h1 : (chkS (es.map toH) != 0) = false := by simp [hc]
      have h2 : (chkS (es.map toH) == 0) = true := by simp [hc]
      rw [h1, h2]
      cases greatA es <;> cases shortA us <;> cases isVw (zN (.view 6 es) (sumN (es.map toH) es.length) 0 us).x <;> rfl
    · have h1 : (chkS (es.map toH) != 0) = true := by simp [hc]
      rw [h1]
      cases greatA es <;> cases shortA us <;> rfl

end Go.Proofs.H22

/- HoldValid, in the machine. -/
import Derived.Test.YtggaijkihehlmaaG18
import Derived.Test.YtggaijkihehlmaaF19
set_option linter.unusedVariables false
set_option linter.unusedSimpArgs false
set_option linter.unnecessarySimpa false
namespace Go.Proofs.H22
open Go Go.Eng
set_option maxRecDepth 20000

theorem law5 (x y : AV) (hx : x = .nils ∨ ∃ es, x = .view 6 es ∧ gd es = true) (hy : y = .nils ∨ ∃ us, y = .view 10 us ∧ gdA us = true) : callO IP 5 [x, y] [] = some (.ret (.bool true), []) := by
  rcases hx with rfl | ⟨es, rfl, hg⟩ <;> rcases hy with rfl | ⟨us, rfl, hu⟩
  · exact callO_iff.2 ⟨60, by kernel_rfl⟩
  · refine callO_by sG_ok (by kernel_rfl) L5_ok (n := 4) ((rd_f5nv_eq us).trans ?_)
    unfold rd_f5nv
    rw [hu]
    cases shortA us <;> cases isVw (xN5 .nils us) <;> rfl
  · refine callO_by sG_ok (by kernel_rfl) L5_ok (n := 4) ((rd_f5vn_eq es).trans ?_)
    unfold rd_f5vn
    rw [hg]
    cases greatA es <;> cases (chkS (es.map toH) != 0) <;> rfl
  · refine callO_by sG_ok (by kernel_rfl) L5_ok (n := 4) ((rd_f5vv_eq es us).trans ?_)
    unfold rd_f5vv
    rw [hu, hg]
    by_cases hc : chkS (es.map toH) = 0
    · have h1 : (chkS (es.map toH) != 0) = false := by simp [hc]
      have h2 : (chkS (es.map toH) == 0) = true := by simp [hc]
      rw [h1, h2]
      cases greatA es <;> cases shortA us <;> cases isVw (xN5 (.view 6 es) us) <;> rfl
    · have h1 : (chkS (es.map toH) != 0) = true := by simp [hc]
      rw [h1]
      cases greatA es <;> cases shortA us <;> rfl

end Go.Proofs.H22

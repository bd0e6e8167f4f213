/- BlockingChecks, in the machine; what the laws' arguments are. -/
import Derived.Test.YtninmnbkbhfnmaaG5
import Derived.Test.YtninmnbkbhfnmaaIrOk23
set_option linter.unusedVariables false
set_option linter.unusedSimpArgs false
set_option linter.unnecessarySimpa false
namespace Go.Proofs.H23
open Go Go.Eng
set_option maxRecDepth 20000

theorem law3 (x : AV) (hx : x = .nils ∨ ∃ es, x = .view 7 es ∧ gd es = true) : callO IP 3 [x] [] = some (.ret (.bool true), []) := by
  rcases hx with rfl | ⟨es, rfl, hg⟩
  · exact callO_by sB_ok (by kernel_rfl) (loops_none (by kernel_rfl)) (n := 4) rd_f3n_eq
  · refine callO_by sB_ok (by kernel_rfl) (loops_none (by kernel_rfl)) (n := 4) ((rd_f3_eq es).trans ?_)
    unfold rd_f3
    rw [hg, beq_self_eq_true]
    cases decide ((es.length : Int) > 100) <;> cases inA isBig es <;> rfl

theorem progOk : ProgOk Go.Proofs.Try.prog IP := fun f F h => tab_ok tab tab_all f F h

theorem isH_fit {e : AV} (h : ∃ xs, e = .agg xs ∧ FitL maxLen ksH xs) : isH e = true := by
  obtain ⟨xs, rfl, h⟩ := h
  simp only [FitL, Fit] at h
  obtain ⟨_, _, rfl, ⟨a, rfl, _⟩, _, _, rfl, ⟨b, rfl, _⟩, _, _, rfl, ⟨c, rfl, _⟩, _, _, rfl, ⟨d, rfl, _⟩, _, _, rfl, ⟨e, rfl, _⟩, _, _, rfl, ⟨f, rfl, _⟩, _, _, rfl, ⟨s, rfl, hs⟩, rfl⟩ := h
  simp only [isH]
  exact decide_eq_true (Nat.le_trans hs (by decide))

theorem gd_fit {x : AV} (h : Fit maxLen (.slice true ksH) x) : x = .nils ∨ ∃ es, x = .view 7 es ∧ gd es = true := by
  simp only [Fit] at h
  rcases h with h | ⟨es, rfl, hl, he⟩
  · exact Or.inl h
  · refine Or.inr ⟨es, rfl, ?_⟩
    simp only [gd, Bool.and_eq_true, List.all_eq_true, decide_eq_true_eq]
    exact ⟨fun x hx => isH_fit (he x hx), Nat.le_trans hl (by decide)⟩

end Go.Proofs.H23

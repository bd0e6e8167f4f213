/- From the machine to the rows: what the laws' arguments are. -/
import Derived.Test.YtggaijkihehlmaaP22
import Derived.Test.YtggaijkihehlmaaIrOk22
set_option linter.unusedVariables false
set_option linter.unusedSimpArgs false
set_option linter.unnecessarySimpa false
namespace Go.Proofs.H22
open Go Go.Eng

theorem progOk : ProgOk Go.Proofs.Try.prog IP := fun f F h => tab_ok tab tab_all f F h

theorem isH_fit {e : AV} (h : ∃ xs, e = .agg xs ∧ FitL maxLen ks6 xs) : isH e = true := by
  obtain ⟨xs, rfl, h⟩ := h
  simp only [FitL, Fit] at h
  obtain ⟨_, _, rfl, ⟨a, rfl, _⟩, _, _, rfl, ⟨b, rfl, _⟩, _, _, rfl, ⟨c, rfl, hc⟩, _, _, rfl, ⟨d, rfl, _⟩, _, _, rfl, ⟨e, rfl, _⟩, _, _, rfl, ⟨s, rfl, hs⟩, rfl⟩ := h
  simp only [isH]
  have h1 : c ≤ 9223372036854775807 := by
    simp only [Lit.wf, Bool.and_eq_true, decide_eq_true_eq] at hc
    have h2 := hc.2
    simp [IntKind.max, IntKind.signed, IntKind.bits] at h2
    omega
  simp only [Bool.and_eq_true, decide_eq_true_eq]
  exact ⟨Nat.le_trans hs (by decide), h1⟩

theorem gd_fit {x : AV} (h : Fit maxLen (.slice true ks6) x) : x = .nils ∨ ∃ es, x = .view 6 es ∧ gd es = true := by
  simp only [Fit] at h
  rcases h with h | ⟨es, rfl, hl, he⟩
  · exact Or.inl h
  · refine Or.inr ⟨es, rfl, ?_⟩
    simp only [gd, Bool.and_eq_true, List.all_eq_true, decide_eq_true_eq]
    exact ⟨fun x hx => isH_fit (he x hx), Nat.le_trans hl (by decide)⟩

end Go.Proofs.H22

/- HoldActs, in the machine. -/
import Derived.Test.YtggaijkihehlmaaG14
set_option linter.unusedVariables false
set_option linter.unusedSimpArgs false
set_option linter.unnecessarySimpa false
namespace Go.Proofs.H22
open Go Go.Eng
set_option maxRecDepth 20000

theorem great_no {es : List AV} (h : greatA es = false) : es.length ≤ 100 := by
  simp only [greatA, Bool.or_eq_false_iff] at h
  have := of_decide_eq_false h.1
  omega

theorem law4 (x y : AV) (hx : x = .nils ∨ ∃ es, x = .view 6 es ∧ gd es = true) (hy : y = .nils ∨ ∃ us, y = .view 10 us ∧ gdA us = true) : callO IP 4 [x, y] [] = some (.ret (.bool true), []) := by
  rcases hx with rfl | ⟨es, rfl, hg⟩ <;> rcases hy with rfl | ⟨us, rfl, hu⟩
  · exact callO_iff.2 ⟨60, by kernel_rfl⟩
  · refine callO_by sF_ok (by kernel_rfl) L4_ok (n := 4) ((rd_f4nv_eq us).trans ?_)
    unfold rd_f4nv
    rw [hu]
    cases shortA us <;> cases isVw (xN .nils us) <;> rfl
  · refine callO_by sF_ok (by kernel_rfl) L4_ok (n := 4) ((rd_f4vn_eq es).trans ?_)
    unfold rd_f4vn
    rw [hg]
    cases greatA es <;> rfl
  · refine callO_by sF_ok (by kernel_rfl) L4_ok (n := 4) ((rd_f4vv_eq es us).trans ?_)
    unfold rd_f4vv
    rw [hu, hg]
    cases hgr : greatA es
    · have hl := decide_eq_true (great_no hgr)
      rw [hl]
      cases shortA us <;> cases isVw (xN (.view 6 es) us) <;> rfl
    · rfl

theorem gdA_fit {x : AV} (h : Fit maxLen (.slice true ks10) x) : x = .nils ∨ ∃ es, x = .view 10 es ∧ gdA es = true := by
  simp only [Fit] at h
  rcases h with h | ⟨es, rfl, hl, he⟩
  · exact Or.inl h
  · refine Or.inr ⟨es, rfl, ?_⟩
    simp only [gdA, Bool.and_eq_true, List.all_eq_true, decide_eq_true_eq]
    refine ⟨fun x hx => ?_, Nat.le_trans hl (by decide)⟩
    obtain ⟨xs, rfl, h⟩ := he x hx
    simp only [FitL, Fit] at h
    obtain ⟨_, _, rfl, ⟨p, rfl, _⟩, _, _, rfl, ⟨q, rfl, _⟩, _, _, rfl, ⟨r, rfl, _⟩, _, _, rfl, ⟨u, rfl, _⟩, _, _, rfl, ⟨a, rfl, _⟩, _, _, rfl, ⟨b, rfl, _⟩, _, _, rfl, ⟨c, rfl, hc⟩, _, _, rfl, ⟨d, rfl, _⟩, _, _, rfl, ⟨e, rfl, _⟩, _, _, rfl, ⟨s, rfl, hs⟩, rfl⟩ := h
    simp only [Lit.wf, Bool.and_eq_true, decide_eq_true_eq] at hc
    have h2 := hc.2
    simp [IntKind.max, IntKind.signed, IntKind.bits] at h2
    simp only [isA, isH, Bool.and_eq_true, decide_eq_true_eq]
    exact ⟨Nat.le_trans hs (by decide), by omega⟩

end Go.Proofs.H22

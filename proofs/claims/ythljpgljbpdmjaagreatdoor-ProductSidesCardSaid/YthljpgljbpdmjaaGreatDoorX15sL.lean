/- Chapter 15: the law ProductSides. -/
import Derived.Test.YthljpgljbpdmjaaGreatDoorX15sPrs
set_option linter.unusedVariables false
set_option linter.unusedSimpArgs false
set_option linter.unnecessarySimpa false
namespace Go.Proofs.H15s
open Go Go.Eng Go.Tk
set_option maxRecDepth 20000
theorem Sides_law (p : Pr) (balance event : Int) : f_u31q p.name p.cur p.cal p.from_ p.every p.over p.tax (ETr p.cr.tiers) p.cr.marg p.cr.basis p.cr.mode p.cr.keep (ETr p.de.tiers) p.de.marg p.de.basis p.de.mode p.de.keep (EF p.fees) (ER p.rules) balance event = some true := by
  rw [f_u31q_eq, tr_u31q, f_u126q_val, lives_val, ev_bi_some, ev_br]
  cases hf : fewS p
  · rfl
  · obtain ⟨h1, h2, h3, h4, h5, h6⟩ := few_fe hf
    have hc : ∀ x ∈ p.fees, FeC x := fun x hx => ⟨tall_wm (h5 x hx).1, tall_wm (h5 x hx).2⟩
    have hw : ∀ x ∈ p.fees.filter (fun f => f.event == event), FeW x := fun x hx => ⟨tall_wd (h5 x (List.mem_filter.1 hx).1).1, tall_wd (h5 x (List.mem_filter.1 hx).1).2⟩
    have hlen : (p.fees.filter fun f => f.event == event).length ≤ 1000000 := Nat.le_trans (List.length_filter_le _ _) (by omega)
    rw [f_u76q_val p (by omega) (by omega), f_u125q_val, f_u74q_val p (by omega) hc, f_u124q_val p (by omega)]
    simp only [Bool.not_true, cond_false, ev_bi_some]
    cases decide (balance < 0)
    · simp only [cond_false, f_u32q_val (a := p.cr) (b := p.cr) (by omega) (by omega), sameIn_refl, ev_bi_some, ev_br, cond_true, f_u69q_val hlen hw hw, sameL_refl fun x _ => sameFe_refl x, ev_at]
    · simp only [cond_true, f_u32q_val (a := p.de) (b := p.de) (by omega) (by omega), sameIn_refl, ev_bi_some, ev_br, f_u69q_val hlen hw hw, sameL_refl fun x _ => sameFe_refl x, ev_at]
end Go.Proofs.H15s

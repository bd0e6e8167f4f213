/- Chapter 15: the laws ProductSides, ProductEquals. -/
import Derived.Test.YthljpgljbpdmjaaGreatDoorX15ePrs
set_option linter.unusedVariables false
set_option linter.unusedSimpArgs false
set_option linter.unnecessarySimpa false
namespace Go.Proofs.H15e
open Go Go.Eng Go.Tk
set_option maxRecDepth 20000
theorem Equals_law (p q : Pr) : f_u27q p.name p.cur p.cal p.from_ p.every p.over p.tax (ETr p.cr.tiers) p.cr.marg p.cr.basis p.cr.mode p.cr.keep (ETr p.de.tiers) p.de.marg p.de.basis p.de.mode p.de.keep (EF p.fees) (ER p.rules)
    q.name q.cur q.cal q.from_ q.every q.over q.tax (ETr q.cr.tiers) q.cr.marg q.cr.basis q.cr.mode q.cr.keep (ETr q.de.tiers) q.de.marg q.de.basis q.de.mode q.de.keep (EF q.fees) (ER q.rules) = some true := by
  rw [f_u27q_eq, tr_u27q, f_u125q_val, f_u125q_val, lives_val, ev_bi_some, sm_some, gv_some]
  cases hp : fewS p
  · rfl
  · cases hq : fewS q
    · rfl
    · have wp := not_few hp
      have wq := not_few hq
      rw [f_u75q_val wp wq, f_u124q_val wp wq, f_u75q_val wq wp, f_u75q_val wp wp, samePr_symm q p, samePr_refl p]
      cases samePr p q <;> rfl
end Go.Proofs.H15e

/- Chapter 13: the laws over plain data that name the document's functions. -/
import Derived.Test.YtigchhcddgibhaaGreatDoorX13L
import Derived.Test.YtigchhcddgibhaaGreatDoorX13Rrn
set_option linter.unusedVariables false
set_option linter.unusedSimpArgs false
set_option linter.unnecessarySimpa false
namespace Go.Proofs.H13
open Go Go.Eng Go.Tk
set_option maxRecDepth 20000
theorem qMh {c : Cd} {env : List Vl} {fuel : Int} (h64 : ∀ x ∈ c.ins, qa6 x.n = true) (he64 : ∀ x ∈ env, qa6 x.n = true) (hf : qa6 fuel = true) : qvF c.ty (EV c.vars) (EN c.ins) (EL env) fuel = some true := by
 rw [qEF, qqU, qeO]
 simp only [List.length_map]
 by_cases h1 : c.ins.length > 300
 ·rw [decide_eq_true (show (c.ins.length : Int) > 300 by omega)]
  rfl
 by_cases h2 : c.vars.length > 100
 ·rw [decide_eq_false (show ¬ (c.ins.length : Int) > 300 by omega), decide_eq_true (show (c.vars.length : Int) > 100 by omega)]
  rfl
 by_cases h3 : env.length > 100
 ·rw [decide_eq_false (show ¬ (c.ins.length : Int) > 300 by omega), decide_eq_false (show ¬ (c.vars.length : Int) > 100 by omega), decide_eq_true (show (env.length : Int) > 100 by omega)]
  rfl
 rw [decide_eq_false (show ¬ (c.ins.length : Int) > 300 by omega), decide_eq_false (show ¬ (c.vars.length : Int) > 100 by omega), decide_eq_false (show ¬ (env.length : Int) > 100 by omega)]
 have hl : env.length <= big := by simp only [big]; omega
 rw [qdk (by omega) hl h64 he64 hf, quI (by omega) hl h64 he64 hf]
 simp only [br_eq, cond_false, ev_bi_some, ev_br, Bool.false_eq_true, if_false, beq_self_eq_true, Bool.and_self, cond_true, sm_some, gv_some, ev_at]
end Go.Proofs.H13

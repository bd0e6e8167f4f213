/- Chapter 13: the laws over plain data that name the document's functions. -/
import Derived.Test.YtigchhcddgibhaaGreatDoorX13L
import Derived.Test.YtigchhcddgibhaaGreatDoorX13Rtr
import Derived.Test.YtigchhcddgibhaaGreatDoorX13Run
import Derived.Test.YtigchhcddgibhaaGreatDoorX13Cdc
set_option linter.unusedVariables false
set_option linter.unusedSimpArgs false
set_option linter.unnecessarySimpa false
namespace Go.Proofs.H13
open Go Go.Eng Go.Tk
set_option maxRecDepth 20000
theorem qtn {op : Int} {l : List Vl} (h64 : ∀ x ∈ l, qa6 x.n = true) : qvA op (EL l) = some true := by
 rw [qD6, qql, qeO, List.length_map]
 by_cases h : l.length > 10
 ·rw [ev_br, decide_eq_true (show (l.length : Int) > 10 by omega)]; rfl
 ·rw [ev_br, decide_eq_false (show ¬ (l.length : Int) > 10 by omega), cond_false, qbl (by omega) (fun x hx => qbX.2 (h64 x hx)), qgq (by omega) (fun x hx => qbX.2 (h64 x hx))]
  simp only [ev_bi_some, Bool.false_eq_true, if_false, beq_self_eq_true, Bool.and_self, br_eq, cond_true, sm_some, gv_some, ev_at]
theorem qDu {vs : List Va} {env : List Vl} (hv : vs.length <= big) (hl : env.length <= big) (h64 : ∀ x ∈ env, qa6 x.n = true) {e : Ex} (hw : Wd e) : qvD e.op e.num e.txt (EX e.args) (EV vs) (EL env) = some true := by
 rw [qEg, qqv, qlp hw, qeO]
 cases hg : (decide (e.nodes > 300) || (decide (vs.length > 100) || decide (env.length > 100)))
 ·obtain ⟨n1, n2, n3⟩ := qlH hg
  have hn : e.nodes <= big := by simp only [big]; omega
  rw [qfa hv hl h64 hn, quB hv hl h64 hw, qb9 hl, qgr hl]
  simp only [ev_bi_some, ev_br, cond_false, Bool.false_eq_true, if_false, beq_self_eq_true, Bool.and_self, cond_true, ev_at]
 ·rfl
end Go.Proofs.H13

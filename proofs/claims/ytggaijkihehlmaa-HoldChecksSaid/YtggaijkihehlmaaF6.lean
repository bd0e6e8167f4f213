/- HoldChecks, in the machine. -/
import Derived.Test.YtggaijkihehlmaaG6
namespace Go.Proofs.H22
open Go Go.Eng
set_option maxRecDepth 20000

theorem last_ok {es : List AV} (h : gd es = true) (hp : (es.length : Int) > 0) : okAt ks6 es (IntKind.i64.wrap ((es.length : Int) - 1)) = true := by
  have hb : es.length ≤ big := by have := (es_gd h).2.1; simpa using this
  rw [wrapm1 (by omega) hb]
  exact ok_es h (by omega)

theorem law3 (x : AV) (t k : Int) (hx : x = .nils ∨ ∃ es, x = .view 6 es ∧ gd es = true) : callO IP 3 [x, .int .i64 t, .int .i64 k] [] = some (.ret (.bool true), []) := by
  rcases hx with rfl | ⟨es, rfl, hg⟩
  · exact callO_by sC_ok (by kernel_rfl) (loops_none (by kernel_rfl)) (n := 4) (rd_f3n_eq t k)
  · refine callO_by sC_ok (by kernel_rfl) (loops_none (by kernel_rfl)) (n := 4) ((rd_f3_eq es t k).trans ?_)
    by_cases hp : (es.length : Int) > 0
    · have hp' := decide_eq_true hp
      cases hi : inA (isId t) es <;> simp only [rd_f3, hg, hi, hp', beq_self_eq_true, Bool.and_self, Bool.true_and, Bool.and_false, Bool.not_true, Bool.not_false, Bool.false_eq_true, if_false, br_true, br_false, last_ok hg hp] <;> cases greatA es <;> rfl
    · have hp' := decide_eq_false hp
      cases hi : inA (isId t) es <;> simp only [rd_f3, hg, hi, hp', beq_self_eq_true, Bool.and_self, Bool.true_and, Bool.and_false, Bool.not_true, Bool.not_false, Bool.false_eq_true, if_false, br_true, br_false] <;> cases greatA es <;> rfl
end Go.Proofs.H22

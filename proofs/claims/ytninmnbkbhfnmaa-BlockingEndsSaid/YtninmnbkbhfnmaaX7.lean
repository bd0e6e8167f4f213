/- The laws of Place and Lift together. -/
import Derived.Test.YtninmnbkbhfnmaaX6
set_option linter.unusedVariables false
set_option linter.unusedSimpArgs false
set_option linter.unnecessarySimpa false
namespace Go.Proofs.H23
open Go Go.Eng
set_option maxRecDepth 20000

theorem few_of {l : List H} (h : l.length ≤ 100) : few l := by simp only [few, lim]; omega
theorem wrap_wrap (a : Int) : IntKind.i64.wrap (a + 0) = IntKind.i64.wrap a := by simp
theorem wrap_idem (a : Int) : IntKind.i64.wrap (IntKind.i64.wrap a) = IntKind.i64.wrap a := by
  simp [IntKind.wrap, IntKind.signed, IntKind.bits]
  split <;> split <;> omega
theorem resA_wrap (l : List H) : ∀ (s : Int), IntKind.i64.wrap s = s → IntKind.i64.wrap (l.foldl resA s) = l.foldl resA s := by
  induction l with
  | nil => intro s h; exact h
  | cons x l ih =>
    intro s h
    rw [List.foldl_cons]
    apply ih
    unfold resA
    cases (x.kind == 4)
    · exact h
    · exact wrap_idem _
/-- What an order covers. -/
theorem den_cov (amt : Int) (h : H) : denB amt h = (bif bif h.kind == 1 then true else bif h.kind == 2 then decide (amt > 0) else false then true else bif h.kind == 3 then decide (amt < 0) else false) := by
  unfold denB
  by_cases h1 : h.kind = 1
  · simp [h1]
  · by_cases h2 : h.kind = 2
    · simp [h2]
    · simp only [beq_eq_false_iff_ne.2 h1, beq_eq_false_iff_ne.2 h2]; rfl
theorem goodB_len {l : List H} {b : H} (h : (placeS l b).2 = 0) : placeS l b = (l ++ [b], 0) ∧ l.length < 64 := by
  rcases place_cases l b with ⟨_, h'⟩ | ⟨he, _, _, h3, _⟩
  · exact absurd h h'
  · exact ⟨he, h3⟩
theorem f7_val {l : List H} {b : H} (hl : okS l) (hb : b.src.length ≤ big) (acc day amt : Int) : f7 (E l) b.id b.acc b.kind b.amt b.frm b.to b.src acc day amt = some true := by
  rw [f7_eq, tr7, f9_val hl.1, f12_val, f11_val hl, f13_val hl hb, f14_val hl hb]
  simp only [sm_some, gv_some, br_eq, cond_true, cond_some, ev_bi_some, ev_br, ev_at, List.length_map]
  cases hc : (bif (bif (bif decide ((l.length : Int) > 100) then true else !!l.any long) then true else decide ((b.src.length : Int) > 100)) then true else chk l != 0)
  · simp only [cond_false]
    cases he : ((placeS l b).2 != 0)
    · have he' : (placeS l b).2 = 0 := by simpa using he
      obtain ⟨hp, hlt⟩ := goodB_len he'
      have g1 : few l := few_of (by omega)
      have g2 : few (l ++ [b]) := few_of (by simp; omega)
      rw [hp]
      simp only [cond_false, f20_val g2, f20_val g1, f22_val g2, f22_val g1, ev_bi_some, ev_br, ev_at, List.filter_append, List.any_append, List.foldl_append]
      have hw : IntKind.i64.wrap ((l.filter (actB acc day)).foldl resA 0) = (l.filter (actB acc day)).foldl resA 0 := resA_wrap _ 0 (by decide)
      have hcov := den_cov amt b
      generalize (bif bif b.kind == 1 then true else bif b.kind == 2 then decide (amt > 0) else false then true else bif b.kind == 3 then decide (amt < 0) else false) = cv at hcov ⊢
      have ha : (bif (bif b.acc == acc then decide (b.frm ≤ day) else false) then decide (day ≤ b.to) else false) = actB acc day b := by
        unfold actB; cases (b.acc == acc) <;> cases decide (b.frm ≤ day) <;> rfl
      rw [ha]
      cases hact : actB acc day b
      · simp [List.filter, hact, hw]
      · have hf : List.filter (actB acc day) [b] = [b] := by simp [List.filter, hact]
        rw [hf]
        simp only [List.any_cons, List.any_nil, Bool.or_false, hcov, List.foldl_cons, List.foldl_nil]
        cases hk : (b.kind == 4)
        · have hr : resA ((l.filter (actB acc day)).foldl resA 0) b = (l.filter (actB acc day)).foldl resA 0 := by simp [resA, hk]
          rw [hr]
          cases (l.filter (actB acc day)).any (denB amt) <;> cases cv <;> simp [hw]
        · have hr : resA ((l.filter (actB acc day)).foldl resA 0) b = IntKind.i64.wrap ((l.filter (actB acc day)).foldl resA 0 + b.amt) := by simp [resA, hk]
          rw [hr]
          cases (l.filter (actB acc day)).any (denB amt) <;> cases cv <;> simp
    · rcases place_cases l b with ⟨h1, h2⟩ | ⟨h1, _⟩
      · rw [h1]; simp
      · rw [h1] at he; simp at he
  · rfl

end Go.Proofs.H23

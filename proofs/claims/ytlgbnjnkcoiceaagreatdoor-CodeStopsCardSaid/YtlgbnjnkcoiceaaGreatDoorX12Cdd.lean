/- Code: what compiling comes to, here and in the document. -/
import Derived.Test.YtlgbnjnkcoiceaaGreatDoorX12Cda
import Derived.Test.YtlgbnjnkcoiceaaGreatDoorCdC
set_option linter.unusedVariables false
set_option linter.unusedSimpArgs false
set_option linter.unnecessarySimpa false
namespace Go.Proofs.H12
open Go Go.Eng Go.Tk
set_option maxRecDepth 20000
theorem of_valid {e : Ex} {vs : List Va} (h : (ofS e vs).2 = 0) : e.nodes ≤ 64 ∧ e.allX formedB = true := by
  unfold ofS at h
  cases hv : (validS e != 0)
  · have hv' : validS e = 0 := by simpa using hv
    unfold validS at hv'
    cases h1 : (decide (e.nodes > 64) || decide (e.dep > 8))
    · rw [h1] at hv'
      simp only [Bool.or_eq_false_iff, decide_eq_false_iff_not] at h1
      cases h2 : e.allX formedB
      · rw [h2] at hv'; cases hv'
      · exact ⟨by omega, rfl⟩
    · rw [h1] at hv'; cases hv'
  · rw [hv] at h
    simp only [cond_true] at h
    rw [h] at hv; simp at hv
theorem vars_len {vs : List Va} (h : varsS vs = 0) : vs.length ≤ 64 := by
  unfold varsS at h
  split at h
  · cases h
  · omega
theorem f_u80q_val {vs : List Va} (hv : vs.length ≤ big) {e : Ex} (h : e.nodes ≤ big) : f_u80q e.op e.num e.txt (EX e.args) (EV vs) = some ((compS e vs).1.ty, EV (compS e vs).1.vars, EN (compS e vs).1.ins, (compS e vs).2) := by
  rw [f_u80q_eq, tr_u80q, f_u113q_val hv]
  unfold compS
  simp only [ev_bi_some, ev_br, ev_at]
  cases h1 : (varsS vs != 0)
  · simp only [cond_false, f_u158q_val hv h, ev_bi_some, ev_br, ev_at]
    cases h2 : ((ofS e vs).2 != 0)
    · obtain ⟨h3, h4⟩ := of_valid (e := e) (vs := vs) (by simpa using h2)
      have h5 := em_len vs e h4 0
      have h6 := vars_len (vs := vs) (by simpa using h1)
      simp only [cond_false, f_code_expr_val hv h4 (show (emE vs 0 e).length ≤ 100000 by omega), ev_bi_some, ev_br, ev_at, List.length_map]
      cases vs with
      | nil => rfl
      | cons v vs =>
        have e1 : decide ((v :: vs).length = 0) = false := rfl
        have e2 : decide ((v :: vs).length ≠ 0) = true := rfl
        have e3 : decide ((v :: vs).length * 24 ≤ lim) = true := by rw [decide_eq_true_eq]; simp only [lim]; omega
        simp only [e1, e2, e3, cond_false, cond_true, Bool.and_self]
    · rfl
  · rfl
theorem any_ne' {α β : Type} [BEq β] [LawfulBEq β] {f : α → β} {a b : List α} (h : a.length = b.length) : (List.range a.length).any (fun n => (a.map f)[n]? != (b.map f)[n]?) = !(a.map f == b.map f) := by
  have key : ∀ {a b : List β}, a.length = b.length → (List.range a.length).any (fun n => a[n]? != b[n]?) = !(a == b) := by
    intro a b h
    by_cases e : a = b
    · subst e; simp
    · have h1 : (a == b) = false := by simpa using e
      rw [h1, List.any_eq_true.2]
      · rfl
      · apply Classical.byContradiction
        intro hc
        apply e
        apply List.ext_getElem?
        intro j
        by_cases hj : j < a.length
        · apply Classical.byContradiction
          intro hne
          exact hc ⟨j, by simpa using hj, by simpa using hne⟩
        · rw [List.getElem?_eq_none (by omega), List.getElem?_eq_none (by omega)]
  have := key (a := a.map f) (b := b.map f) (by simpa using h)
  rwa [List.length_map] at this
abbrev vp (v : Va) : Bs × Int := (v.name, v.ty)
theorem neV {a b : List Va} {n : Nat} (ha : n < a.length) (hb : n < b.length) : ((a.map vp)[n]? != (b.map vp)[n]?) = !(a[n].name == b[n].name && (a[n].ty == b[n].ty && true)) := by
  rw [List.getElem?_map, List.getElem?_map, List.getElem?_eq_getElem ha, List.getElem?_eq_getElem hb]
  simp only [Option.map_some, bne, Bool.and_true]
  congr 1
theorem neN {a b : List In} {n : Nat} (ha : n < a.length) (hb : n < b.length) : ((a.map id)[n]? != (b.map id)[n]?) = !(a[n].op == b[n].op && (a[n].a == b[n].a && (a[n].n == b[n].n && true))) := by
  rw [List.map_id, List.map_id, List.getElem?_eq_getElem ha, List.getElem?_eq_getElem hb]
  generalize a[n] = x
  generalize b[n] = y
  obtain ⟨x1, x2, x3⟩ := x
  obtain ⟨y1, y2, y3⟩ := y
  simp only [bne, Bool.and_true]
  congr 1
  rw [Bool.eq_iff_iff]
  simp
theorem f_EqVar_val {a b : List Va} (ha : a.length ≤ big) : f_u15q (EV a) (EV b) = some (a.map vp == b.map vp) := by
  rw [f_u15q_eq, tr_u15q, List.length_map, List.length_map]
  by_cases hl : a.length = b.length
  · have hloop : l_u13q (EV a, EV b, (a.length : Int), 0) = some (seek (fun n => (a.map vp)[n]? != (b.map vp)[n]?) (fun _ => 0) 1 (List.range a.length), EV a, EV b, (a.length : Int), (((List.range a.length).findIdx (fun n => (a.map vp)[n]? != (b.map vp)[n]?) : Nat) : Int)) := by
      rw [l_u13q_eq]
      refine loop_searchI a.length (hd := fun i => (EV a, EV b, (a.length : Int), (i : Int))) _ (fun _ => 0) 1 (fun i hn => ?_) ?_
      · have hn' : i < b.length := by omega
        simp only [st_u13q, st_u13q_0, lt_at hn, okV hn, okV hn', qv0 hn, qv0 hn', qv1 hn, qv1 hn', ev_br, ev_at, cond_true, wrap_succ hn ha, if_true, neV hn hn']
        cases (a[i].name == b[i].name && (a[i].ty == b[i].ty && true)) <;> rfl
      · simp [st_u13q, st_u13q_0]
    rw [hloop, seek_const, any_ne' hl]
    have : ((a.length : Int) != (b.length : Int)) = false := by simp [hl]
    rw [this]
    cases (a.map vp == b.map vp) <;> rfl
  · have h1 : ((a.length : Int) != (b.length : Int)) = true := by simp; omega
    have h2 : (a.map vp == b.map vp) = false := by
      rw [beq_eq_false_iff_ne]; intro e; exact hl (by simpa using congrArg List.length e)
    rw [h1, h2]; rfl
theorem f_EqIn_val {a b : List In} (ha : a.length ≤ big) : f_u8q (EN a) (EN b) = some (a == b) := by
  rw [f_u8q_eq, tr_u8q, List.length_map, List.length_map]
  by_cases hl : a.length = b.length
  · have hloop : l_u5q (EN a, EN b, (a.length : Int), 0) = some (seek (fun n => (a.map id)[n]? != (b.map id)[n]?) (fun _ => 0) 1 (List.range a.length), EN a, EN b, (a.length : Int), (((List.range a.length).findIdx (fun n => (a.map id)[n]? != (b.map id)[n]?) : Nat) : Int)) := by
      rw [l_u5q_eq]
      refine loop_searchI a.length (hd := fun i => (EN a, EN b, (a.length : Int), (i : Int))) _ (fun _ => 0) 1 (fun i hn => ?_) ?_
      · have hn' : i < b.length := by omega
        simp only [st_u5q, st_u5q_0, lt_at hn, okN hn, okN hn', qn0 hn, qn0 hn', qn1 hn, qn1 hn', qn2 hn, qn2 hn', ev_br, ev_at, cond_true, wrap_succ hn ha, if_true, neN hn hn']
        cases (a[i].op == b[i].op && (a[i].a == b[i].a && (a[i].n == b[i].n && true))) <;> rfl
      · simp [st_u5q, st_u5q_0]
    rw [hloop, seek_const, any_ne' hl, List.map_id, List.map_id]
    have : ((a.length : Int) != (b.length : Int)) = false := by simp [hl]
    rw [this]
    cases (a == b) <;> rfl
  · have h1 : ((a.length : Int) != (b.length : Int)) = true := by simp; omega
    have h2 : (a == b) = false := by
      rw [beq_eq_false_iff_ne]; intro e; exact hl (by rw [e])
    rw [h1, h2]; rfl
theorem f_u156q_val {a b : Cd} (h1 : a.vars.length ≤ big) (h2 : a.ins.length ≤ big) : f_u156q a.ty (EV a.vars) (EN a.ins) b.ty (EV b.vars) (EN b.ins) = some (sameS a b) := by
  rw [f_u156q_eq, tr_u156q, f_EqVar_val h1, f_EqIn_val h2]
  unfold sameS
  simp only [sm_some, gv_some, br_eq, cond_true]
  cases (a.ty == b.ty) <;> cases (a.vars.map vp == b.vars.map vp) <;> cases (a.ins == b.ins) <;> rfl
end Go.Proofs.H12

/- Types of expressions: what the printed functions come to. -/
import Derived.Test.YtlgbnjnkcoiceaaGreatDoorX12Ref
import Derived.Test.YtlgbnjnkcoiceaaGreatDoorTyA
set_option linter.unusedVariables false
set_option linter.unusedSimpArgs false
set_option linter.unnecessarySimpa false
namespace Go.Proofs.H12
open Go Go.Eng Go.Tk
set_option maxRecDepth 20000
theorem f_u94q_val (x : Int) : f_u94q x = some (goodB x) := by
  rw [f_u94q_eq, tr_u94q]; by_cases h : x ≥ 1 <;> simp [goodB, h]
theorem f_u164q_val (x : Int) : f_u164q x = some (goodB x) := by
  rw [f_u164q_eq, tr_u164q]; by_cases h : x ≥ 1 <;> simp [goodB, h]
theorem f_u138q_val (op a : Int) : ∃ p, f_u138q op a = some p ∧ nrm p = oneS op a := by
  rw [f_u138q_eq, tr_u138q]
  unfold oneS
  by_cases h1 : op = 16
  · subst h1
    exact ⟨_, rfl, by cases h : (a == 5) <;> simp [nrm, h]⟩
  by_cases h2 : op = 9
  · subst h2
    refine ⟨(a, a == 1 || (a == 2 || a == 3)), ?_, ?_⟩
    · cases h : (a == 1) <;> cases h' : (a == 2) <;> simp [h, h']
    · cases h : (a == 1 || (a == 2 || a == 3)) <;> simp [nrm, h]
  have e1 : (op == 16) = false := by simpa using h1
  have e2 : (op == 9) = false := by simpa using h2
  exact ⟨(0, false), by simp [e1, e2], by simp [nrm, h1, h2]⟩
theorem f_u33q_val : f_u33q = some (ariL.map triA) := by
  rw [f_u33q_eq, tr_u33q]; rfl
theorem f_u139q_val (op a b : Int) : ∃ p, f_u139q op a b = some p ∧ nrm p = twoS op a b := by
  rw [f_u139q_eq, tr_u139q]
  by_cases h1 : op = 10
  · subst h1; exact ⟨_, rfl, by cases h : (a == b) <;> simp [nrm, twoS, h]⟩
  by_cases h2 : op = 11
  · subst h2; exact ⟨_, rfl, by cases h : (a == b) <;> simp [nrm, twoS, h]⟩
  by_cases h3 : op = 12
  · subst h3; exact ⟨(5, a == b && a != 5), by cases h : (a == b) <;> simp [h], by cases h : (a == b && a != 5) <;> simp [nrm, twoS, h]⟩
  by_cases h4 : op = 13
  · subst h4; exact ⟨(5, a == b && a != 5), by cases h : (a == b) <;> simp [h], by cases h : (a == b && a != 5) <;> simp [nrm, twoS, h]⟩
  by_cases h5 : op = 14
  · subst h5; exact ⟨(5, a == b && a == 5), by cases h : (a == b) <;> simp [h], by cases h : (a == b && a == 5) <;> simp [nrm, twoS, h]⟩
  by_cases h6 : op = 15
  · subst h6; exact ⟨(5, a == b && a == 5), by cases h : (a == b) <;> simp [h], by cases h : (a == b && a == 5) <;> simp [nrm, twoS, h]⟩
  by_cases h7 : op = 17
  · subst h7; exact ⟨(a, a == b && a != 5), by cases h : (a == b) <;> simp [h], by cases h : (a == b && a != 5) <;> simp [nrm, twoS, h]⟩
  by_cases h8 : op = 18
  · subst h8; exact ⟨(a, a == b && a != 5), by cases h : (a == b) <;> simp [h], by cases h : (a == b && a != 5) <;> simp [nrm, twoS, h]⟩
  have e1 : (op == 10) = false := by simpa using h1
  have e2 : (op == 11) = false := by simpa using h2
  have e3 : (op == 12) = false := by simpa using h3
  have e4 : (op == 13) = false := by simpa using h4
  have e5 : (op == 14) = false := by simpa using h5
  have e6 : (op == 15) = false := by simpa using h6
  have e7 : (op == 17) = false := by simpa using h7
  have e8 : (op == 18) = false := by simpa using h8
  simp only [e1, e2, e3, e4, e5, e6, e7, e8, ev_br, cond_false, f_u33q_val, ev_bi_some, mhas3, mnot3, twoS, h1, h2, h3, h4, h5, h6, h7, h8, or_self, if_false]
  cases hq : ariT op a b with
  | none => exact ⟨(0, false), by simp, rfl⟩
  | some t =>
    have ht := (ariT_ne hq).1
    rw [mval3 hq]
    refine ⟨(t, t != 0), rfl, ?_⟩
    have : (t != 0) = true := by simpa using ht
    simp [nrm, this]
theorem f_u124q_val (x : Int) : f_u124q x = some (x == 1 || (x == 2 || x == 3)) := by
  rw [f_u124q_eq, tr_u124q]
  cases h : (x == 1) <;> cases h' : (x == 2) <;> simp [h, h']
theorem f_u173q_val {op a b : Int} (ha : goodB a = true) (hb : goodB b = true) : ∃ p, f_u173q op a b = some p ∧ nrm p = twoS op a b := by
  rw [f_u173q_eq, tr_u173q]
  by_cases h1 : op = 5
  · subst h1
    simp only [f_u124q_val]
    rcases good_cases ha with rfl | rfl | rfl | rfl | rfl <;> rcases good_cases hb with rfl | rfl | rfl | rfl | rfl <;> exact ⟨_, rfl, rfl⟩
  by_cases h2 : op = 6
  · subst h2
    simp only [f_u124q_val]
    rcases good_cases ha with rfl | rfl | rfl | rfl | rfl <;> rcases good_cases hb with rfl | rfl | rfl | rfl | rfl <;> exact ⟨_, rfl, rfl⟩
  by_cases h3 : op = 7
  · subst h3
    simp only [f_u102q_eq, tr_u102q, f_u124q_val]
    rcases good_cases ha with rfl | rfl | rfl | rfl | rfl <;> rcases good_cases hb with rfl | rfl | rfl | rfl | rfl <;> exact ⟨_, rfl, rfl⟩
  by_cases h4 : op = 8
  · subst h4
    simp only [f_u124q_val]
    rcases good_cases ha with rfl | rfl | rfl | rfl | rfl <;> rcases good_cases hb with rfl | rfl | rfl | rfl | rfl <;> exact ⟨_, rfl, rfl⟩
  by_cases g1 : op = 10
  · subst g1; exact ⟨_, rfl, by cases h : (a == b) <;> simp [nrm, twoS, h]⟩
  by_cases g2 : op = 11
  · subst g2; exact ⟨_, rfl, by cases h : (a == b) <;> simp [nrm, twoS, h]⟩
  by_cases g3 : op = 12
  · subst g3; exact ⟨(5, a == b && a != 5), by cases h : (a == b) <;> simp [h], by cases h : (a == b && a != 5) <;> simp [nrm, twoS, h]⟩
  by_cases g4 : op = 13
  · subst g4; exact ⟨(5, a == b && a != 5), by cases h : (a == b) <;> simp [h], by cases h : (a == b && a != 5) <;> simp [nrm, twoS, h]⟩
  have hand : (a == 5 && b == 5) = (a == b && a == 5) := by
    rw [Bool.eq_iff_iff]; simp only [Bool.and_eq_true, beq_iff_eq]
    constructor
    · rintro ⟨rfl, rfl⟩; exact ⟨rfl, rfl⟩
    · rintro ⟨rfl, rfl⟩; exact ⟨rfl, rfl⟩
  by_cases g5 : op = 14
  · subst g5; exact ⟨(5, a == 5 && b == 5), by cases h : (a == 5) <;> simp [h], by rw [hand]; cases h : (a == b && a == 5) <;> simp [nrm, twoS, h]⟩
  by_cases g6 : op = 15
  · subst g6; exact ⟨(5, a == 5 && b == 5), by cases h : (a == 5) <;> simp [h], by rw [hand]; cases h : (a == b && a == 5) <;> simp [nrm, twoS, h]⟩
  by_cases g7 : op = 17
  · subst g7; exact ⟨(a, a == b && a != 5), by cases h : (a == b) <;> simp [h], by cases h : (a == b && a != 5) <;> simp [nrm, twoS, h]⟩
  by_cases g8 : op = 18
  · subst g8; exact ⟨(a, a == b && a != 5), by cases h : (a == b) <;> simp [h], by cases h : (a == b && a != 5) <;> simp [nrm, twoS, h]⟩
  have e1 : (op == 10) = false := by simpa using g1
  have e2 : (op == 11) = false := by simpa using g2
  have e3 : (op == 12) = false := by simpa using g3
  have e4 : (op == 13) = false := by simpa using g4
  have e5 : (op == 14) = false := by simpa using g5
  have e6 : (op == 15) = false := by simpa using g6
  have e7 : (op == 17) = false := by simpa using g7
  have e8 : (op == 18) = false := by simpa using g8
  have d1 : (op == 5) = false := by simpa using h1
  have d2 : (op == 6) = false := by simpa using h2
  have d3 : (op == 7) = false := by simpa using h3
  have d4 : (op == 8) = false := by simpa using h4
  refine ⟨(0, false), by simp only [d1, d2, d3, d4, e1, e2, e3, e4, e5, e6, e7, e8, ev_br, ev_at, cond_false], ?_⟩
  simp only [twoS, g1, g2, g3, g4, g5, g6, g7, g8, or_self, if_false]
  rw [ariT_no (by omega)]; rfl
theorem l_u45q_val {l : List Int} (hl : l.length ≤ big) (op : Int) : l_u45q (op, EI l, EI l, (l.length : Int), 0) = some (seek (fun t => !goodB t) (fun _ => 0) 1 l, op, EI l, EI l, (l.length : Int), ((l.findIdx (fun t => !goodB t) : Nat) : Int)) := by
  rw [l_u45q_eq]
  refine loop_search (hd := fun i => (op, EI l, EI l, (l.length : Int), (i : Int))) (jx := fun _ => 0) _ 1 (fun i hn => ?_) ?_
  · simp only [st_u45q, st_u45q_0, lt_at hn, okI hn, qi0 hn, f_u94q_val, ev_br, ev_at, ev_bi_some, cond_true, wrap_succ hn hl]
    cases goodB l[i] <;> rfl
  · simp [st_u45q, st_u45q_0]
theorem f_u68q_val {l : List Int} (hl : l.length ≤ big) (op : Int) : f_u68q op (EI l) = some (resS op l) := by
  rw [f_u68q_eq, tr_u68q, List.length_map, l_u45q_val hl, seek_const, show l.any (fun t => !goodB t) = !l.all goodB by rw [List.any_eq_not_all_not]; simp]
  unfold resS
  cases hg : l.all goodB
  · rfl
  · simp only [Bool.not_true, cond_false, pj_some, if_true, Nat.one_ne_zero, if_false, ev_bi_none, ev_bi_some, List.length_map]
    match l with
    | [] => rfl
    | [a] =>
      obtain ⟨p, h1, h2⟩ := f_u138q_val op a
      have e0 : intOf (cellAt (EI [a]) 0 0) = a := rfl
      have e1 : okAt ksI (EI [a]) 0 = true := rfl
      simp only [e0, e1, h1, ← h2, nrm, ev_br, ev_bi_some, ev_at]
      cases p.2 <;> rfl
    | [a, b] =>
      obtain ⟨p, h1, h2⟩ := f_u139q_val op a b
      have e0 : intOf (cellAt (EI [a, b]) 0 0) = a := rfl
      have e0' : intOf (cellAt (EI [a, b]) 1 0) = b := rfl
      have e1 : okAt ksI (EI [a, b]) 0 = true := rfl
      have e1' : okAt ksI (EI [a, b]) 1 = true := rfl
      simp only [e0, e0', e1, e1', h1, ← h2, nrm, ev_br, ev_bi_some, ev_at]
      cases p.2 <;> rfl
    | [a, b, c] =>
      have e0 : intOf (cellAt (EI [a, b, c]) 0 0) = a := rfl
      have e1 : intOf (cellAt (EI [a, b, c]) 1 0) = b := rfl
      have e2 : intOf (cellAt (EI [a, b, c]) 2 0) = c := rfl
      have d0 : okAt ksI (EI [a, b, c]) 0 = true := rfl
      have d1 : okAt ksI (EI [a, b, c]) 1 = true := rfl
      have d2 : okAt ksI (EI [a, b, c]) 2 = true := rfl
      simp only [e0, e1, e2, d0, d1, d2, threeS, ev_br, ev_bi_some, ev_at]
      cases (op == 19) <;> cases (a == 5) <;> cases (b == c) <;> rfl
    | a :: b :: c :: d :: r =>
      have e1 : (((a :: b :: c :: d :: r).length : Int) == 1) = false := by simp; omega
      have e2 : (((a :: b :: c :: d :: r).length : Int) == 2) = false := by simp; omega
      have e3 : (((a :: b :: c :: d :: r).length : Int) == 3) = false := by simp; omega
      simp only [e1, e2, e3, ev_br, ev_at, cond_false]
theorem l_u75q_val {l : List Int} (hl : l.length ≤ big) (op : Int) : l_u75q (op, EI l, 0) = some (seek (fun t => !goodB t) (fun _ => 0) 1 l, op, EI l, ((l.findIdx (fun t => !goodB t) : Nat) : Int)) := by
  rw [l_u75q_eq]
  refine loop_search (hd := fun i => (op, EI l, (i : Int))) (jx := fun _ => 0) _ 1 (fun i hn => ?_) ?_
  · simp only [st_u75q, st_u75q_0, List.length_map, lt_at hn, okI hn, qi0 hn, f_u164q_val, ev_br, ev_at, ev_bi_some, cond_true, wrap_succ hn hl]
    cases goodB l[i] <;> rfl
  · simp [st_u75q, st_u75q_0]
theorem f_u120q_val (l : List Int) (op : Int) : f_u120q op (EI l) = some (resS op l) := by
  rw [f_u120q_eq, tr_u120q]
  unfold resS
  match l with
  | a :: b :: c :: d :: r =>
    have e1 : decide (((EI (a :: b :: c :: d :: r)).length : Int) > 3) = true := by simp; omega
    simp only [e1, ev_br, ev_at, cond_true]
    cases (a :: b :: c :: d :: r).all goodB <;> rfl
  | [] =>
    rw [l_u75q_val (by decide)]
    have hr : f_u123q op (EI []) = some (0, false) := by
      rw [f_u123q_eq, tr_u123q]
      cases (op == 9) <;> cases (op == 16) <;> cases (op == 19) <;> rfl
    simp [-List.map_nil, seek, hr]
  | [a] =>
    rw [l_u75q_val (by simp [big]), seek_const, show [a].any (fun t => !goodB t) = !goodB a by simp]
    have hr : ∃ p, f_u123q op (EI [a]) = some p ∧ nrm p = oneS op a := by
      rw [f_u123q_eq, tr_u123q]
      have e0 : intOf (cellAt (EI [a]) 0 0) = a := rfl
      have e1 : okAt ksI (EI [a]) 0 = true := rfl
      unfold oneS
      by_cases h1 : op = 9
      · subst h1
        refine ⟨(a, a == 1 || (a == 2 || a == 3)), by simp [-List.map_cons, -List.map_nil, f_u124q_val, e0, e1], ?_⟩
        cases h : (a == 1 || (a == 2 || a == 3)) <;> simp [nrm, h]
      by_cases h2 : op = 16
      · subst h2
        refine ⟨(5, a == 5), by simp [-List.map_cons, -List.map_nil, e0, e1], ?_⟩
        cases h : (a == 5) <;> simp [nrm, h]
      have d1 : (op == 9) = false := by simpa using h1
      have d2 : (op == 16) = false := by simpa using h2
      refine ⟨(0, false), ?_, by simp [nrm, h1, h2]⟩
      cases h : (op == 19) <;> simp [-List.map_cons, -List.map_nil, d1, d2, h]
    obtain ⟨p, h1, h2⟩ := hr
    cases hg : goodB a
    · simp [hg]
    · simp only [List.all_cons, List.all_nil, hg, Bool.and_self, Bool.not_true, cond_false, ← h2, nrm]
      cases hp : p.2 <;> simp [-List.map_cons, -List.map_nil, h1, hp]
  | [a, b] =>
    rw [l_u75q_val (by simp [big]), seek_const, show [a, b].any (fun t => !goodB t) = !(goodB a && goodB b) by simp]
    cases hg : (goodB a && goodB b)
    · simp [hg]
    · have hab := hg
      simp only [Bool.and_eq_true] at hab
      obtain ⟨q, hq1, hq2⟩ := f_u173q_val (op := op) hab.1 hab.2
      have hr : f_u123q op (EI [a, b]) = some q := by
        rw [f_u123q_eq, tr_u123q]
        have e0 : intOf (cellAt (EI [a, b]) 0 0) = a := rfl
        have e0' : intOf (cellAt (EI [a, b]) 1 0) = b := rfl
        have e1 : okAt ksI (EI [a, b]) 0 = true := rfl
        have e1' : okAt ksI (EI [a, b]) 1 = true := rfl
        cases (op == 9) <;> cases (op == 16) <;> cases (op == 19) <;> simp [-List.map_cons, -List.map_nil, e0, e0', e1, e1', hq1]
      simp only [List.all_cons, List.all_nil, hg, Bool.and_true, Bool.not_true, cond_false, ← hq2, nrm]
      cases hp : q.2 <;> simp [-List.map_cons, -List.map_nil, hr, hp]
  | [a, b, c] =>
    rw [l_u75q_val (by simp [big]), seek_const, show [a, b, c].any (fun t => !goodB t) = !(goodB a && (goodB b && goodB c)) by simp]
    cases hg : (goodB a && (goodB b && goodB c))
    · simp [hg]
    · have hr : ∃ p, f_u123q op (EI [a, b, c]) = some p ∧ nrm p = threeS op a b c := by
        rw [f_u123q_eq, tr_u123q]
        have e0 : intOf (cellAt (EI [a, b, c]) 0 0) = a := rfl
        have e1 : intOf (cellAt (EI [a, b, c]) 1 0) = b := rfl
        have e2 : intOf (cellAt (EI [a, b, c]) 2 0) = c := rfl
        have d0 : okAt ksI (EI [a, b, c]) 0 = true := rfl
        have d1 : okAt ksI (EI [a, b, c]) 1 = true := rfl
        have d2 : okAt ksI (EI [a, b, c]) 2 = true := rfl
        unfold threeS
        cases h9 : (op == 9) <;> cases h16 : (op == 16) <;> cases h19 : (op == 19) <;> cases h5 : (a == 5) <;> cases hbc : (b == c) <;> simp [-List.map_cons, -List.map_nil, e0, e1, e2, d0, d1, d2, h5, hbc, nrm]
      obtain ⟨p, h1, h2⟩ := hr
      simp only [List.all_cons, List.all_nil, hg, Bool.and_true, Bool.not_true, cond_false, ← h2, nrm]
      cases hp : p.2 <;> simp [-List.map_cons, -List.map_nil, h1, hp]
theorem l_u34q_val {vs : List Va} (hl : vs.length ≤ big) (s : Bs) : l_u34q (s, EV vs, (vs.length : Int), 0) = some (seek (fun v => v.name == s) (fun v => bif goodB v.ty then 1 else 0) 2 vs, s, EV vs, (vs.length : Int), ((vs.findIdx (fun v => v.name == s) : Nat) : Int)) := by
  rw [l_u34q_eq]
  refine loop_search (hd := fun i => (s, EV vs, (vs.length : Int), (i : Int))) _ _ 2 (fun i hn => ?_) ?_
  · simp only [st_u34q, st_u34q_0, lt_at hn, okV hn, qv0 hn, qv1 hn, f_u94q_val, ev_br, ev_at, ev_bi_some, cond_true, wrap_succ hn hl]
    cases (vs[i].name == s) <;> cases goodB vs[i].ty <;> rfl
  · simp [st_u34q, st_u34q_0]
theorem find_idx {α : Type} {l : List α} {p : α → Bool} {x : α} (h : l.find? p = some x) : ∃ h' : l.findIdx p < l.length, l[l.findIdx p] = x := by
  have hlt : l.findIdx p < l.length := List.findIdx_lt_length.2 ⟨x, List.mem_of_find?_eq_some h, List.find?_some h⟩
  refine ⟨hlt, ?_⟩
  rw [List.find?_eq_getElem?_findIdx, List.getElem?_eq_getElem hlt] at h
  exact Option.some.inj h
theorem f_u46q_val {vs : List Va} (hl : vs.length ≤ big) (s : Bs) : f_u46q s (EV vs) = some (varTy vs s) := by
  rw [f_u46q_eq, tr_u46q, List.length_map, l_u34q_val hl]
  unfold varTy seek
  cases hf : vs.find? (fun v => v.name == s) with
  | none => rfl
  | some v =>
    obtain ⟨h1, h2⟩ := find_idx hf
    have hq := qv1 h1
    rw [h2] at hq
    simp only
    cases hg : goodB v.ty
    · simp
    · simp [-List.map_cons, hq]
theorem l_u166q_val {vs : List Va} (hl : vs.length ≤ big) (o n : Int) (s : Bs) (A : List AV) : l_u166q (EV vs, 0, o, n, s, A) = some (seek (fun v => v.name == s) (fun v => bif goodB v.ty then 0 else 1) 2 vs, EV vs, ((vs.findIdx (fun v => v.name == s) : Nat) : Int), o, n, s, A) := by
  rw [l_u166q_eq]
  refine loop_search (hd := fun i => (EV vs, (i : Int), o, n, s, A)) _ _ 2 (fun i hn => ?_) ?_
  · simp only [st_u166q, st_u166q_0, List.length_map, lt_at hn, okV hn, qv0 hn, qv1 hn, f_u164q_val, ev_br, ev_at, ev_bi_some, cond_true, wrap_succ hn hl]
    cases (vs[i].name == s) <;> cases goodB vs[i].ty <;> rfl
  · simp [st_u166q, st_u166q_0]
def hdP (vs : List Va) (l : List Ex) (i : Int) (o n : Int) (s : Bs) : List Int → TT_u114q
  | [] => .inl (EV vs, EX l, (l.length : Int), i, o, n, s, EX l)
  | acc => .inr (EV vs, EX l, (l.length : Int), i, o, n, s, EX l, EI acc)
def hdQ (vs : List Va) (l : List Ex) (i : Int) (o n : Int) (s : Bs) : List Int → TT_u167q
  | [] => .inl (EV vs, i, o, n, s, EX l)
  | acc => .inr (EV vs, i, o, n, s, EX l, EI acc)
noncomputable def ofT (G : Int → Int → List UInt8 → List AV → List AV → Option B_u159q) (y : Option (Nat × TT_u114q)) : DT B_u159q :=
     (.bi (pj 0 y) (fun y0 =>
      .at ((0, (gv
    (G (intOf (cellAt (sl y0).snd.fst (sl y0).snd.snd.snd.fst 0)) (intOf (cellAt (sl y0).snd.fst (sl y0).snd.snd.snd.fst 1))
      (strOf (cellAt (sl y0).snd.fst (sl y0).snd.snd.snd.fst 2)) (viewOf (cellAt (sl y0).snd.fst (sl y0).snd.snd.snd.fst 3)) (sl y0).fst)).snd)))
      (.bi (pj 1 y) (fun y0 =>
       .bi (f_u68q (sl y0).snd.snd.snd.snd.fst []) (fun y1 =>
        .br (!y1.snd) (.at ((0, 3))) (.at ((y1.fst, 0))))
        (.no))
       (.bi (pj 2 y) (fun y0 =>
        .at ((0, (gv
    (G (intOf (cellAt (sr y0).snd.fst (sr y0).snd.snd.snd.fst 0)) (intOf (cellAt (sr y0).snd.fst (sr y0).snd.snd.snd.fst 1))
      (strOf (cellAt (sr y0).snd.fst (sr y0).snd.snd.snd.fst 2)) (viewOf (cellAt (sr y0).snd.fst (sr y0).snd.snd.snd.fst 3)) (sr y0).fst)).snd)))
        (.bi (pj 3 y) (fun y0 =>
         .bi (f_u68q (sr y0).snd.snd.snd.snd.fst (sr y0).snd.snd.snd.snd.snd.snd.snd.snd) (fun y1 =>
          .br (!y1.snd) (.at ((0, 3))) (.at ((y1.fst, 0))))
          (.no))
         (.no)))))
theorem ofT_eq (G : Int → Int → List UInt8 → List AV → List AV → Option B_u159q) (x0 x1 : Int) (x2 : Bs) (x3 x4 : List AV) : tr_u159q G x0 x1 x2 x3 x4 =
    .br (x0 == 1) (.at ((1, 0))) (.br (x0 == 2) (.at ((2, 0))) (.br (x0 == 3) (.at ((3, 0))) (.br (x0 == 4) (.bi (f_u46q x2 x4) (fun y0 => .at ((y0.fst, y0.snd))) .no)
      (ofT G (l_u114q G (.inl (x4, x3, (x3.length : Int), 0, x0, x1, x2, x3))))))) := rfl
def aftT (op : Int) (acc : List Int) (p : List Int × Int) : Int × Int := finT op (acc ++ p.1, p.2)
theorem typing_of_key {vs : List Va} (hv : vs.length ≤ big) : ∀ (e : Ex), e.nodes ≤ 1000000 → ∀ n, e.dep ≤ n → N_u159q n e.op e.num e.txt (EX e.args) (EV vs) = some (e.ty vs) := by
  intro e
  induction e using Ex.ind with
  | h o n s l ih =>
    intro h m hm
    simp only [Ex.dep] at hm
    have hll := Ex.nodesL_len l
    simp only [Ex.nodes] at h
    cases m with
    | zero => omega
    | succ k =>
      have key : ∀ (r i : Nat) (acc : List Int), i + r = l.length → acc.length + (l.drop i).length ≤ 1000000 → (ofT (N_u159q k) (l_u114q (N_u159q k) (hdP vs l (i : Int) o n s acc))).ev = some (aftT o acc (Ex.tys vs (l.drop i))) := by
        intro r
        induction r with
        | zero =>
          intro i acc hi _
          have : i = l.length := by omega
          subst this
          rw [l_u114q_eq, List.drop_length]
          have hres := fun (acc : List Int) (ha : acc.length ≤ big) => f_u68q_val ha o
          cases acc with
          | nil =>
            rw [iterO_done (j := 1)]
            · have h0 : f_u68q o [] = some (resS o []) := hres [] (by simp [big])
              simp (decide := true) only [ofT, hdP, pj_some, if_true, if_false, ev_bi_none, ev_bi_some, sl_inl, h0, ev_br, ev_at, aftT, finT, Ex.tys, List.append_nil]
              cases (resS o []).2 <;> rfl
            · simp [hdP, st_u114q, st_u114q_0]
          | cons a acc =>
            rw [iterO_done (j := 3)]
            · have h0 := hres (a :: acc) (by simp [big] at *; omega)
              simp (decide := true) only [ofT, hdP, pj_some, if_true, if_false, ev_bi_none, ev_bi_some, sr_inr, h0, ev_br, ev_at, aftT, finT, Ex.tys, List.append_nil]
              cases (resS o (a :: acc)).2 <;> rfl
            · simp [hdP, st_u114q, st_u114q_1]
        | succ r ihr =>
          intro i acc hi hb
          have hn : i < l.length := by omega
          have hx : l[i] ∈ l := List.getElem_mem hn
          have h1 := Ex.nodesL_mem hx
          have h2 := Ex.depL_mem hx
          have hg := ih l[i] hx (by omega) k (by omega)
          rw [drop_at hn] at hb ⊢
          simp only [List.length_cons] at hb
          have hroom : room (acc.length + 1) 8 = true := room_of (by simp only [lim]; omega)
          cases he : ((Ex.ty vs l[i]).2 != 0)
          · have hst : (st_u114q (N_u159q k) (hdP vs l (i : Int) o n s acc)).ev = some (.next (hdP vs l ((i + 1 : Nat) : Int) o n s (acc ++ [(Ex.ty vs l[i]).1]))) := by
              cases acc with
              | nil => simp only [hdP, st_u114q, Sum.elim_inl, st_u114q_0, lt_at hn, okX hn, qx0 hn, qx1 hn, qx2 hn, qx3 hn, hg, he, ev_br, ev_at, ev_bi_some, cond_true, cond_false, wrap_succ hn (show l.length ≤ big by simp only [big]; omega)]; rfl
              | cons a acc =>
                simp only [List.length_cons] at hroom
                simp only [hdP, st_u114q, Sum.elim_inr, st_u114q_1, lt_at hn, okX hn, qx0 hn, qx1 hn, qx2 hn, qx3 hn, hg, he, ev_br, ev_at, ev_bi_some, cond_true, cond_false, wrap_succ hn (show l.length ≤ big by simp only [big]; omega), List.length_map, List.length_cons, hroom]
                simp [hdP]
            have ihn := ihr (i + 1) (acc ++ [(Ex.ty vs l[i]).1]) (by omega) (by simp only [List.length_append, List.length_cons, List.length_nil]; omega)
            rw [l_u114q_eq] at ihn ⊢
            rw [iterO_next hst, ihn]
            congr 1
            simp only [Ex.tys, he, cond_false, aftT, finT]
            cases hz : ((Ex.tys vs (l.drop (i + 1))).2 != 0)
            · simp at hz; simp [hz]
            · simp [hz]
          · have hfin : ∀ a : List Int, aftT o a (Ex.tys vs (l[i] :: l.drop (i + 1))) = (0, (Ex.ty vs l[i]).2) := by
              intro a
              simp only [Ex.tys, he, cond_true, aftT, finT]
            rw [hfin, l_u114q_eq]
            cases acc with
            | nil =>
              rw [iterO_done (j := 0)]
              · simp (decide := true) only [ofT, hdP, pj_some, if_true, ev_bi_some, sl_inl, qx0 hn, qx1 hn, qx2 hn, qx3 hn, hg, gv_some, ev_at]
              · simp only [hdP, st_u114q, Sum.elim_inl, st_u114q_0, lt_at hn, okX hn, qx0 hn, qx1 hn, qx2 hn, qx3 hn, hg, he, ev_br, ev_at, ev_bi_some, cond_true]
            | cons a acc =>
              rw [iterO_done (j := 2)]
              · simp (decide := true) only [ofT, hdP, pj_some, if_true, if_false, ev_bi_none, ev_bi_some, sr_inr, qx0 hn, qx1 hn, qx2 hn, qx3 hn, hg, gv_some, ev_at]
              · simp only [hdP, st_u114q, Sum.elim_inr, st_u114q_1, lt_at hn, okX hn, qx0 hn, qx1 hn, qx2 hn, qx3 hn, hg, he, ev_br, ev_at, ev_bi_some, cond_true]
      show N_u159q (k + 1) o n s (EX l) (EV vs) = some ((Ex.mk o n s l).ty vs)
      simp only [N_u159q, ofT_eq, ev_br, ev_at, f_u46q_val hv, ev_bi_some, Ex.ty]
      by_cases h1 : o = 1
      · subst h1; rfl
      by_cases h2 : o = 2
      · subst h2; rfl
      by_cases h3 : o = 3
      · subst h3; rfl
      by_cases h4 : o = 4
      · subst h4; rfl
      have e1 : (o == 1) = false := by simpa using h1
      have e2 : (o == 2) = false := by simpa using h2
      have e3 : (o == 3) = false := by simpa using h3
      have e4 : (o == 4) = false := by simpa using h4
      rw [e1, e2, e3, e4]
      simp only [cond_false, h1, h2, h3, h4, if_false, List.length_map]
      exact key l.length 0 [] (by omega) (by simp; omega)
theorem f_u159q_val {vs : List Va} (hv : vs.length ≤ big) {e : Ex} (h : e.nodes ≤ 1000000) : f_u159q e.op e.num e.txt (EX e.args) (EV vs) = some (e.ty vs) := limO_of (typing_of_key hv e h)
noncomputable def ofU (G : Int → Int → List UInt8 → List AV → List AV → Option B_u176q) (y : Option (Nat × TT_u167q)) : DT B_u176q :=
     (.bi (pj 0 y) (fun y0 =>
      .at ((0, (gv
    (G (intOf (cellAt (sl y0).snd.snd.snd.snd.snd (sl y0).snd.fst 0)) (intOf (cellAt (sl y0).snd.snd.snd.snd.snd (sl y0).snd.fst 1))
      (strOf (cellAt (sl y0).snd.snd.snd.snd.snd (sl y0).snd.fst 2)) (viewOf (cellAt (sl y0).snd.snd.snd.snd.snd (sl y0).snd.fst 3)) (sl y0).fst)).snd)))
      (.bi (pj 1 y) (fun y0 =>
       .bi (f_u120q (sl y0).snd.snd.fst []) (fun y1 =>
        .br (!y1.snd) (.at ((0, 3))) (.at ((y1.fst, 0))))
        (.no))
       (.bi (pj 2 y) (fun y0 =>
        .at ((0, (gv
    (G (intOf (cellAt (sr y0).snd.snd.snd.snd.snd.fst (sr y0).snd.fst 0)) (intOf (cellAt (sr y0).snd.snd.snd.snd.snd.fst (sr y0).snd.fst 1))
      (strOf (cellAt (sr y0).snd.snd.snd.snd.snd.fst (sr y0).snd.fst 2)) (viewOf (cellAt (sr y0).snd.snd.snd.snd.snd.fst (sr y0).snd.fst 3)) (sr y0).fst)).snd)))
        (.bi (pj 3 y) (fun y0 =>
         .bi (f_u120q (sr y0).snd.snd.fst (sr y0).snd.snd.snd.snd.snd.snd) (fun y1 =>
          .br (!y1.snd) (.at ((0, 3))) (.at ((y1.fst, 0))))
          (.no))
         (.no)))))
noncomputable def ofW (y : Option (Nat × TT_u166q)) : DT B_u176q :=
     (.bi (pj 0 y) (fun y0 =>
      .at ((intOf (cellAt y0.fst y0.snd.fst 1), 0)))
      (.bi (pj 1 y) (fun y0 =>
       .at ((0, 3)))
       (.bi (pj 2 y) (fun y0 =>
        .at ((0, 4)))
        (.no))))
theorem ofU_eq (G : Int → Int → List UInt8 → List AV → List AV → Option B_u176q) (x0 x1 : Int) (x2 : Bs) (x3 x4 : List AV) : tr_u176q G x0 x1 x2 x3 x4 =
    .br (x0 == 1) (.at ((1, 0))) (.br (x0 == 2) (.at ((2, 0))) (.br (x0 == 3) (.at ((3, 0))) (.br (x0 == 4) (ofW (l_u166q (x4, 0, x0, x1, x2, x3)))
      (ofU G (l_u167q G (.inl (x4, 0, x0, x1, x2, x3))))))) := rfl
theorem ofW_val {vs : List Va} (hl : vs.length ≤ big) (o n : Int) (s : Bs) (A : List AV) : (ofW (l_u166q (EV vs, 0, o, n, s, A))).ev = some (varTy vs s) := by
  rw [l_u166q_val hl]
  unfold varTy seek ofW
  cases hf : vs.find? (fun v => v.name == s) with
  | none => rfl
  | some v =>
    obtain ⟨h1, h2⟩ := find_idx hf
    have hq := qv1 h1
    rw [h2] at hq
    simp only
    cases hg : goodB v.ty
    · simp
    · simp [-List.map_cons, hq]
theorem R11_of_key {vs : List Va} (hv : vs.length ≤ big) : ∀ (e : Ex), e.nodes ≤ 1000000 → ∀ n, e.dep ≤ n → N_u176q n e.op e.num e.txt (EX e.args) (EV vs) = some (e.ty vs) := by
  intro e
  induction e using Ex.ind with
  | h o n s l ih =>
    intro h m hm
    simp only [Ex.dep] at hm
    have hll := Ex.nodesL_len l
    simp only [Ex.nodes] at h
    cases m with
    | zero => omega
    | succ k =>
      have key : ∀ (r i : Nat) (acc : List Int), i + r = l.length → acc.length + (l.drop i).length ≤ 1000000 → (ofU (N_u176q k) (l_u167q (N_u176q k) (hdQ vs l (i : Int) o n s acc))).ev = some (aftT o acc (Ex.tys vs (l.drop i))) := by
        intro r
        induction r with
        | zero =>
          intro i acc hi _
          have : i = l.length := by omega
          subst this
          rw [l_u167q_eq, List.drop_length]
          have hres := fun (acc : List Int) => f_u120q_val acc o
          cases acc with
          | nil =>
            rw [iterO_done (j := 1)]
            · have h0 : f_u120q o [] = some (resS o []) := hres []
              simp (decide := true) only [ofU, hdQ, pj_some, if_true, if_false, ev_bi_none, ev_bi_some, sl_inl, h0, ev_br, ev_at, aftT, finT, Ex.tys, List.append_nil]
              cases (resS o []).2 <;> rfl
            · simp [hdQ, st_u167q, st_u167q_0]
          | cons a acc =>
            rw [iterO_done (j := 3)]
            · have h0 := hres (a :: acc)
              simp (decide := true) only [ofU, hdQ, pj_some, if_true, if_false, ev_bi_none, ev_bi_some, sr_inr, h0, ev_br, ev_at, aftT, finT, Ex.tys, List.append_nil]
              cases (resS o (a :: acc)).2 <;> rfl
            · simp [hdQ, st_u167q, st_u167q_1]
        | succ r ihr =>
          intro i acc hi hb
          have hn : i < l.length := by omega
          have hx : l[i] ∈ l := List.getElem_mem hn
          have h1 := Ex.nodesL_mem hx
          have h2 := Ex.depL_mem hx
          have hg := ih l[i] hx (by omega) k (by omega)
          rw [drop_at hn] at hb ⊢
          simp only [List.length_cons] at hb
          have hroom : room (acc.length + 1) 8 = true := room_of (by simp only [lim]; omega)
          cases he : ((Ex.ty vs l[i]).2 != 0)
          · have hst : (st_u167q (N_u176q k) (hdQ vs l (i : Int) o n s acc)).ev = some (.next (hdQ vs l ((i + 1 : Nat) : Int) o n s (acc ++ [(Ex.ty vs l[i]).1]))) := by
              cases acc with
              | nil => simp only [hdQ, st_u167q, Sum.elim_inl, st_u167q_0, List.length_map, lt_at hn, okX hn, qx0 hn, qx1 hn, qx2 hn, qx3 hn, hg, he, ev_br, ev_at, ev_bi_some, cond_true, cond_false, wrap_succ hn (show l.length ≤ big by simp only [big]; omega)]; rfl
              | cons a acc =>
                simp only [List.length_cons] at hroom
                simp only [hdQ, st_u167q, Sum.elim_inr, st_u167q_1, lt_at hn, okX hn, qx0 hn, qx1 hn, qx2 hn, qx3 hn, hg, he, ev_br, ev_at, ev_bi_some, cond_true, cond_false, wrap_succ hn (show l.length ≤ big by simp only [big]; omega), List.length_map, List.length_cons, hroom]
                simp [hdQ]
            have ihn := ihr (i + 1) (acc ++ [(Ex.ty vs l[i]).1]) (by omega) (by simp only [List.length_append, List.length_cons, List.length_nil]; omega)
            rw [l_u167q_eq] at ihn ⊢
            rw [iterO_next hst, ihn]
            congr 1
            simp only [Ex.tys, he, cond_false, aftT, finT]
            cases hz : ((Ex.tys vs (l.drop (i + 1))).2 != 0)
            · simp at hz; simp [hz]
            · simp [hz]
          · have hfin : ∀ a : List Int, aftT o a (Ex.tys vs (l[i] :: l.drop (i + 1))) = (0, (Ex.ty vs l[i]).2) := by
              intro a
              simp only [Ex.tys, he, cond_true, aftT, finT]
            rw [hfin, l_u167q_eq]
            cases acc with
            | nil =>
              rw [iterO_done (j := 0)]
              · simp (decide := true) only [ofU, hdQ, pj_some, if_true, ev_bi_some, sl_inl, qx0 hn, qx1 hn, qx2 hn, qx3 hn, hg, gv_some, ev_at]
              · simp only [hdQ, st_u167q, Sum.elim_inl, st_u167q_0, List.length_map, lt_at hn, okX hn, qx0 hn, qx1 hn, qx2 hn, qx3 hn, hg, he, ev_br, ev_at, ev_bi_some, cond_true]
            | cons a acc =>
              rw [iterO_done (j := 2)]
              · simp (decide := true) only [ofU, hdQ, pj_some, if_true, if_false, ev_bi_none, ev_bi_some, sr_inr, qx0 hn, qx1 hn, qx2 hn, qx3 hn, hg, gv_some, ev_at]
              · simp only [hdQ, st_u167q, Sum.elim_inr, st_u167q_1, List.length_map, lt_at hn, okX hn, qx0 hn, qx1 hn, qx2 hn, qx3 hn, hg, he, ev_br, ev_at, ev_bi_some, cond_true]
      show N_u176q (k + 1) o n s (EX l) (EV vs) = some ((Ex.mk o n s l).ty vs)
      simp only [N_u176q, ofU_eq, ev_br, ev_at, ofW_val hv, ev_bi_some, Ex.ty]
      by_cases h1 : o = 1
      · subst h1; rfl
      by_cases h2 : o = 2
      · subst h2; rfl
      by_cases h3 : o = 3
      · subst h3; rfl
      by_cases h4 : o = 4
      · subst h4; rfl
      have e1 : (o == 1) = false := by simpa using h1
      have e2 : (o == 2) = false := by simpa using h2
      have e3 : (o == 3) = false := by simpa using h3
      have e4 : (o == 4) = false := by simpa using h4
      rw [e1, e2, e3, e4]
      simp only [cond_false, h1, h2, h3, h4, if_false]
      exact key l.length 0 [] (by omega) (by simp; omega)
theorem f_u176q_val {vs : List Va} (hv : vs.length ≤ big) {e : Ex} (h : e.nodes ≤ 1000000) : f_u176q e.op e.num e.txt (EX e.args) (EV vs) = some (e.ty vs) := limO_of (R11_of_key hv e h)
theorem f_u158q_val {vs : List Va} (hv : vs.length ≤ big) {e : Ex} (h : e.nodes ≤ big) : f_u158q e.op e.num e.txt (EX e.args) (EV vs) = some (ofS e vs) := by
  rw [f_u158q_eq, tr_u158q, f_u60q_val h]
  unfold ofS
  cases hz : (validS e != 0)
  · have hz' : validS e = 0 := by simpa using hz
    have := (validS_ok hz').1
    simp [hz, f_u159q_val hv (e := e) (by omega)]
  · simp [hz]
theorem f_u175q_val {vs : List Va} (hv : vs.length ≤ big) {e : Ex} (hw : Wd e) : f_u175q e.op e.num e.txt (EX e.args) (EV vs) = some (ofS e vs) := by
  rw [f_u175q_eq, tr_u175q, f_u72q_val hw]
  unfold ofS
  cases hz : (validS e != 0)
  · have hz' : validS e = 0 := by simpa using hz
    have := (validS_ok hz').1
    simp [hz, f_u176q_val hv (e := e) (by omega)]
  · simp [hz]
theorem l_u70q_val {vs : List Va} (hl : vs.length ≤ big) {n : Nat} (hn : n ≤ vs.length) (A B : List AV) (x y : Int) (s : Bs) (t : Int) : l_u70q (A, B, x, y, EV (vs.take n), (n : Int), 0, s, t) = some (seek (fun w => w.name == s) (fun _ => 0) 1 (vs.take n), A, B, x, y, EV (vs.take n), (n : Int), (((vs.take n).findIdx (fun w => w.name == s) : Nat) : Int), s, t) := by
  have hlen : (vs.take n).length = n := by rw [List.length_take]; omega
  rw [l_u70q_eq]
  refine loop_search (hd := fun i => (A, B, x, y, EV (vs.take n), (n : Int), (i : Int), s, t)) (jx := fun _ => 0) _ 1 (fun i hi => ?_) ?_
  · have hi' : i < n := by omega
    simp only [st_u70q, st_u70q_0, lt_at hi', okV hi, qv0 hi, ev_br, ev_at, cond_true, wrap_succ hi' (show n ≤ big by omega)]
    cases ((vs.take n)[i].name == s) <;> rfl
  · rw [hlen]; simp [st_u70q, st_u70q_0]
theorem f_var_valid (s : Bs) : f_u60q 4 0 s [] = some (bif varS s then 0 else 4) := by
  have := f_u60q_val (e := .mk 4 0 s []) (by simp [Ex.nodes, Ex.nodesL, big])
  rw [valid_var] at this
  exact this
theorem l_u69q_val {vs : List Va} (hl : vs.length ≤ big) : ∃ w, l_u69q (EV vs, EV vs, (vs.length : Int), 0) = some (eV vs, w) := by
  rw [l_u69q_eq]
  refine ⟨_, loop_searchI (N := vs.length) (hd := fun i => (EV vs, EV vs, (vs.length : Int), (i : Int))) (jx := wrongV vs) _ 3 (fun i hn => ?_) ?_⟩
  · have htk : List.take (i : Int).toNat (EV vs) = EV (vs.take i) := by simp [List.map_take]
    have hlen : ((EV (vs.take i)).length : Int) = (i : Int) := by simp; omega
    have hs := l_u70q_val hl (Nat.le_of_lt hn) (EV vs) (EV vs) (vs.length : Int) (i : Int) vs[i].name vs[i].ty
    rw [seek_const] at hs
    have hle : leB (i : Int) (EV vs).length = true := leB_nat (by simp; omega)
    have hwr : wrongV vs i = bif !varS vs[i].name then 0 else bif (vs.take i).any (fun w => w.name == vs[i].name) then 1 else bif !goodB vs[i].ty then 2 else 9 := by
      unfold wrongV; rw [List.getElem?_eq_getElem hn]
    simp only [st_u69q, st_u69q_0, lt_at hn, okV hn, qv0 hn, qv1 hn, f_var_valid, ev_br, ev_at, ev_bi_some, cond_true, htk, hlen, hs, hle, Bool.and_true, hwr]
    cases varS vs[i].name
    · rfl
    · cases (vs.take i).any (fun w => w.name == vs[i].name)
      · simp (decide := true) only [pj_some, cond_false, cond_true, if_false, if_true, Bool.not_true, ev_bi_none, ev_bi_some, f_u94q_val, ev_br, ev_at, wrap_succ hn hl]
        cases goodB vs[i].ty <;> rfl
      · rfl
  · simp [st_u69q, st_u69q_0]
theorem eV_cases (vs : List Va) : eV vs = 0 ∨ eV vs = 1 ∨ eV vs = 2 ∨ eV vs = 3 := by
  unfold eV seek
  cases hf : (List.range vs.length).find? (fun n => wrongV vs n != 9) with
  | none => simp
  | some n =>
    have := List.find?_some hf
    simp only
    rcases wrongV_cases vs n with h | h | h | h
    · exact .inl h
    · exact .inr (.inl h)
    · exact .inr (.inr (.inl h))
    · rw [h] at this; cases this
theorem f_u113q_val {vs : List Va} (hl : vs.length ≤ big) : f_u113q (EV vs) = some (varsS vs) := by
  obtain ⟨w, hw⟩ := l_u69q_val hl
  rw [f_u113q_eq, tr_u113q, List.length_map, hw, varsS]
  by_cases h : vs.length > 64
  · rw [if_pos h, decide_eq_true (by omega)]; rfl
  · rw [if_neg h, decide_eq_false (by omega)]
    rcases eV_cases vs with h | h | h | h <;> rw [h] <;> simp
theorem l_u122q_val {vs : List Va} (hl : vs.length ≤ big) {n : Nat} (hn : n < vs.length) : l_u122q (EV vs, (n : Int), 0) = some (seek (fun w => w.name == vs[n].name) (fun _ => 0) 1 (vs.take n), EV vs, (n : Int), (((vs.take n).findIdx (fun w => w.name == vs[n].name) : Nat) : Int)) := by
  have hlen : (vs.take n).length = n := by rw [List.length_take]; omega
  rw [l_u122q_eq]
  refine loop_search (hd := fun i => (EV vs, (n : Int), (i : Int))) (jx := fun _ => 0) _ 1 (fun i hi => ?_) ?_
  · have hi' : i < n := by omega
    have hi2 : i < vs.length := by omega
    simp only [st_u122q, st_u122q_0, lt_at hi', okV hi2, okV hn, qv0 hi2, qv0 hn, ev_br, ev_at, cond_true, wrap_succ hi' (show n ≤ big by omega), List.getElem_take]
    cases (vs[i].name == vs[n].name) <;> rfl
  · rw [hlen]; simp [st_u122q, st_u122q_0]
theorem l_u121q_val {vs : List Va} (hl : vs.length ≤ big) : ∃ w, l_u121q (EV vs, 0) = some (eV vs, w) := by
  rw [l_u121q_eq]
  refine ⟨_, loop_searchI (N := vs.length) (hd := fun i => (EV vs, (i : Int))) (jx := wrongV vs) _ 3 (fun i hn => ?_) ?_⟩
  · have hs := l_u122q_val hl hn
    rw [seek_const] at hs
    have hwr : wrongV vs i = bif !varS vs[i].name then 0 else bif (vs.take i).any (fun w => w.name == vs[i].name) then 1 else bif !goodB vs[i].ty then 2 else 9 := by
      unfold wrongV; rw [List.getElem?_eq_getElem hn]
    simp only [st_u121q, st_u121q_0, List.length_map, lt_at hn, okV hn, qv0 hn, qv1 hn, f_u73q_val, ev_br, ev_at, ev_bi_some, cond_true, hs, hwr]
    cases varS vs[i].name
    · rfl
    · cases (vs.take i).any (fun w => w.name == vs[i].name)
      · simp (decide := true) only [pj_some, cond_false, cond_true, if_false, if_true, Bool.not_true, ev_bi_none, ev_bi_some, okV hn, qv1 hn, f_u164q_val, ev_br, ev_at, wrap_succ hn hl]
        cases goodB vs[i].ty <;> rfl
      · rfl
  · simp [st_u121q, st_u121q_0]
theorem f_u165q_val {vs : List Va} (hl : vs.length ≤ big) : f_u165q (EV vs) = some (varsS vs) := by
  obtain ⟨w, hw⟩ := l_u121q_val hl
  rw [f_u165q_eq, tr_u165q, List.length_map, hw, varsS]
  by_cases h : vs.length > 64
  · rw [if_pos h, decide_eq_true (by omega)]; rfl
  · rw [if_neg h, decide_eq_false (by omega)]
    rcases eV_cases vs with h | h | h | h <;> rw [h] <;> simp
end Go.Proofs.H12

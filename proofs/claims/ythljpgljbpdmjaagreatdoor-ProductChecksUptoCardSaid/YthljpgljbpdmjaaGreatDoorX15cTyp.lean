/- Types of expressions: what the printed functions come to. -/
import Derived.Test.YthljpgljbpdmjaaGreatDoorX15cRef
import Derived.Test.YthljpgljbpdmjaaGreatDoorTyA
set_option linter.unusedVariables false
set_option linter.unusedSimpArgs false
set_option linter.unnecessarySimpa false
namespace Go.Proofs.H15c
open Go Go.Eng Go.Tk
set_option maxRecDepth 20000
theorem qnC (x : Int) : qnB x = some (qa8 x) := by
 rw [qA7, qqq]; by_cases h : x ≥ 1 <;> simp [qa8, h]
theorem qko (x : Int) : qhB x = some (qa8 x) := by
 rw [qwW, qjq]; by_cases h : x ≥ 1 <;> simp [qa8, h]
theorem qtw (op a : Int) : ∃ p, qj9 op a = some p ∧ nrm p = qQk op a := by
 rw [qwG, qi8]
 unfold qQk
 by_cases h1 : op = 16
 ·subst h1
  exact ⟨_, rfl, by cases h : (a == 5) <;> simp [nrm, h]⟩
 by_cases h2 : op = 9
 ·subst h2
  refine ⟨(a, a == 1 || (a == 2 || a == 3)), ?_, ?_⟩
  ·cases h : (a == 1) <;> cases h' : (a == 2) <;> simp [h, h']
  ·cases h : (a == 1 || (a == 2 || a == 3)) <;> simp [nrm, h]
 have e1 : (op == 16) = false := by simpa using h1
 have e2 : (op == 9) = false := by simpa using h2
 exact ⟨(0, false), by simp [e1, e2], by simp [nrm, h1, h2]⟩
theorem qw8 : qbH = some (ariL.map qOj) := by
 rw [qAu, qux]; rfl
theorem qtx (op a b : Int) : ∃ p, qka op a b = some p ∧ nrm p = qm2 op a b := by
 rw [qwH, qi9]
 by_cases h1 : op = 10
 ·subst h1; exact ⟨_, rfl, by cases h : (a == b) <;> simp [nrm, qm2, h]⟩
 by_cases h2 : op = 11
 ·subst h2; exact ⟨_, rfl, by cases h : (a == b) <;> simp [nrm, qm2, h]⟩
 by_cases h3 : op = 12
 ·subst h3; exact ⟨(5, a == b && a != 5), by cases h : (a == b) <;> simp [h], by cases h : (a == b && a != 5) <;> simp [nrm, qm2, h]⟩
 by_cases h4 : op = 13
 ·subst h4; exact ⟨(5, a == b && a != 5), by cases h : (a == b) <;> simp [h], by cases h : (a == b && a != 5) <;> simp [nrm, qm2, h]⟩
 by_cases h5 : op = 14
 ·subst h5; exact ⟨(5, a == b && a == 5), by cases h : (a == b) <;> simp [h], by cases h : (a == b && a == 5) <;> simp [nrm, qm2, h]⟩
 by_cases h6 : op = 15
 ·subst h6; exact ⟨(5, a == b && a == 5), by cases h : (a == b) <;> simp [h], by cases h : (a == b && a == 5) <;> simp [nrm, qm2, h]⟩
 by_cases h7 : op = 17
 ·subst h7; exact ⟨(a, a == b && a != 5), by cases h : (a == b) <;> simp [h], by cases h : (a == b && a != 5) <;> simp [nrm, qm2, h]⟩
 by_cases h8 : op = 18
 ·subst h8; exact ⟨(a, a == b && a != 5), by cases h : (a == b) <;> simp [h], by cases h : (a == b && a != 5) <;> simp [nrm, qm2, h]⟩
 have e1 : (op == 10) = false := by simpa using h1
 have e2 : (op == 11) = false := by simpa using h2
 have e3 : (op == 12) = false := by simpa using h3
 have e4 : (op == 13) = false := by simpa using h4
 have e5 : (op == 14) = false := by simpa using h5
 have e6 : (op == 15) = false := by simpa using h6
 have e7 : (op == 17) = false := by simpa using h7
 have e8 : (op == 18) = false := by simpa using h8
 simp only [e1, e2, e3, e4, e5, e6, e7, e8, ev_br, cond_false, qw8, ev_bi_some, qTk, qTm, qm2, h1, h2, h3, h4, h5, h6, h7, h8, or_self, if_false]
 cases hq : qyj op a b with
 | none => exact ⟨(0, false), by simp, rfl⟩
 | some t =>
  have ht := (qzP hq).1
  rw [qTn hq]
  refine ⟨(t, t != 0), rfl, ?_⟩
  have : (t != 0) = true := by simpa using ht
  simp [nrm, this]
theorem qcY (x : Int) : qcd x = some (x == 1 || (x == 2 || x == 3)) := by
 rw [qwy, qiZ]
 cases h : (x == 1) <;> cases h' : (x == 2) <;> simp [h, h']
theorem qtP {op a b : Int} (ha : qa8 a = true) (hb : qa8 b = true) : ∃ p, qks op a b = some p ∧ nrm p = qm2 op a b := by
 rw [qw1, qjv]
 by_cases h1 : op = 5
 ·subst h1
  simp only [qcY]
  rcases qbI ha with rfl | rfl | rfl | rfl | rfl <;> rcases qbI hb with rfl | rfl | rfl | rfl | rfl <;> exact ⟨_, rfl, rfl⟩
 by_cases h2 : op = 6
 ·subst h2
  simp only [qcY]
  rcases qbI ha with rfl | rfl | rfl | rfl | rfl <;> rcases qbI hb with rfl | rfl | rfl | rfl | rfl <;> exact ⟨_, rfl, rfl⟩
 by_cases h3 : op = 7
 ·subst h3
  simp only [qwp, qiQ, qcY]
  rcases qbI ha with rfl | rfl | rfl | rfl | rfl <;> rcases qbI hb with rfl | rfl | rfl | rfl | rfl <;> exact ⟨_, rfl, rfl⟩
 by_cases h4 : op = 8
 ·subst h4
  simp only [qcY]
  rcases qbI ha with rfl | rfl | rfl | rfl | rfl <;> rcases qbI hb with rfl | rfl | rfl | rfl | rfl <;> exact ⟨_, rfl, rfl⟩
 by_cases g1 : op = 10
 ·subst g1; exact ⟨_, rfl, by cases h : (a == b) <;> simp [nrm, qm2, h]⟩
 by_cases g2 : op = 11
 ·subst g2; exact ⟨_, rfl, by cases h : (a == b) <;> simp [nrm, qm2, h]⟩
 by_cases g3 : op = 12
 ·subst g3; exact ⟨(5, a == b && a != 5), by cases h : (a == b) <;> simp [h], by cases h : (a == b && a != 5) <;> simp [nrm, qm2, h]⟩
 by_cases g4 : op = 13
 ·subst g4; exact ⟨(5, a == b && a != 5), by cases h : (a == b) <;> simp [h], by cases h : (a == b && a != 5) <;> simp [nrm, qm2, h]⟩
 have hand : (a == 5 && b == 5) = (a == b && a == 5) := by
  rw [Bool.eq_iff_iff]; simp only [Bool.and_eq_true, beq_iff_eq]
  constructor
  ·rintro ⟨rfl, rfl⟩; exact ⟨rfl, rfl⟩
  ·rintro ⟨rfl, rfl⟩; exact ⟨rfl, rfl⟩
 by_cases g5 : op = 14
 ·subst g5; exact ⟨(5, a == 5 && b == 5), by cases h : (a == 5) <;> simp [h], by rw [hand]; cases h : (a == b && a == 5) <;> simp [nrm, qm2, h]⟩
 by_cases g6 : op = 15
 ·subst g6; exact ⟨(5, a == 5 && b == 5), by cases h : (a == 5) <;> simp [h], by rw [hand]; cases h : (a == b && a == 5) <;> simp [nrm, qm2, h]⟩
 by_cases g7 : op = 17
 ·subst g7; exact ⟨(a, a == b && a != 5), by cases h : (a == b) <;> simp [h], by cases h : (a == b && a != 5) <;> simp [nrm, qm2, h]⟩
 by_cases g8 : op = 18
 ·subst g8; exact ⟨(a, a == b && a != 5), by cases h : (a == b) <;> simp [h], by cases h : (a == b && a != 5) <;> simp [nrm, qm2, h]⟩
 have e1 : (op == 10) = false := by simpa using g1
 have e2 : (op == 11) = false := by simpa using g2
 have e3 : (op == 12) = false := by simpa using g3
 have e4 : (op == 13) = false := by simpa using g4
 have e5 : (op == 14) = false := by simpa using g5
 have e6 : (op == 15) = false := by simpa using g6
 have e7 : (op == 17) = false := by simpa using g7
 have e8 : (op == 18) = false := by simpa using g8
 have d1 : (op == 5) = false := by simpa using h1
 have d2 : (op == 6) = false := by simpa using h2
 have d3 : (op == 7) = false := by simpa using h3
 have d4 : (op == 8) = false := by simpa using h4
 refine ⟨(0, false), by simp only [d1, d2, d3, d4, e1, e2, e3, e4, e5, e6, e7, e8, ev_br, ev_at, cond_false], ?_⟩
 simp only [qm2, g1, g2, g3, g4, g5, g6, g7, g8, or_self, if_false]
 rw [qLM (by omega)]; rfl
theorem qxK {l : List Int} (hl : l.length ≤ big) (op : Int) : qrt (op, EI l, EI l, (l.length : Int), 0) = some (qix (fun t => !qa8 t) (fun _ => 0) 1 l, op, EI l, EI l, (l.length : Int), ((l.findIdx (fun t => !qa8 t) : Nat) : Int)) := by
 rw [qru]
 refine qav (hd := fun i => (op, EI l, EI l, (l.length : Int), (i : Int))) (jx := fun _ => 0) _ 1 (fun i hn => ?_) ?_
 ·simp only [qmf, qmg, qaK hn, okI hn, qi0 hn, qnC, ev_br, ev_at, ev_bi_some, cond_true, qai hn hl]
  cases qa8 l[i] <;> rfl
 ·simp [qmf, qmg]
theorem qxm {l : List Int} (hl : l.length ≤ big) (op : Int) : qgV op (EI l) = some (qyk op l) := by
 rw [qAN, qp7, List.length_map, qxK hl, qas, show l.any (fun t => !qa8 t) = !l.all qa8 by rw [List.any_eq_not_all_not]; simp]
 unfold qyk
 cases hg : l.all qa8
 ·rfl
 ·simp only [Bool.not_true, cond_false, pj_some, if_true, Nat.one_ne_zero, if_false, ev_bi_none, ev_bi_some, List.length_map]
  match l with
  | [] => rfl
  | [a] =>
   obtain ⟨p, h1, h2⟩ := qtw op a
   have e0 : intOf (cellAt (EI [a]) 0 0) = a := rfl
   have e1 : qaS ksI (EI [a]) 0 = true := rfl
   simp only [e0, e1, h1, ← h2, nrm, ev_br, ev_bi_some, ev_at]
   cases p.2 <;> rfl
  | [a, b] =>
   obtain ⟨p, h1, h2⟩ := qtx op a b
   have e0 : intOf (cellAt (EI [a, b]) 0 0) = a := rfl
   have e0' : intOf (cellAt (EI [a, b]) 1 0) = b := rfl
   have e1 : qaS ksI (EI [a, b]) 0 = true := rfl
   have e1' : qaS ksI (EI [a, b]) 1 = true := rfl
   simp only [e0, e0', e1, e1', h1, ← h2, nrm, ev_br, ev_bi_some, ev_at]
   cases p.2 <;> rfl
  | [a, b, c] =>
   have e0 : intOf (cellAt (EI [a, b, c]) 0 0) = a := rfl
   have e1 : intOf (cellAt (EI [a, b, c]) 1 0) = b := rfl
   have e2 : intOf (cellAt (EI [a, b, c]) 2 0) = c := rfl
   have d0 : qaS ksI (EI [a, b, c]) 0 = true := rfl
   have d1 : qaS ksI (EI [a, b, c]) 1 = true := rfl
   have d2 : qaS ksI (EI [a, b, c]) 2 = true := rfl
   simp only [e0, e1, e2, d0, d1, d2, qvW, ev_br, ev_bi_some, ev_at]
   cases (op == 19) <;> cases (a == 5) <;> cases (b == c) <;> rfl
  | a :: b :: c :: d :: r =>
   have e1 : (((a :: b :: c :: d :: r).length : Int) == 1) = false := by simp; omega
   have e2 : (((a :: b :: c :: d :: r).length : Int) == 2) = false := by simp; omega
   have e3 : (((a :: b :: c :: d :: r).length : Int) == 3) = false := by simp; omega
   simp only [e1, e2, e3, ev_br, ev_at, cond_false]
theorem qfk {l : List Int} (hl : l.length ≤ big) (op : Int) : qrH (op, EI l, 0) = some (qix (fun t => !qa8 t) (fun _ => 0) 1 l, op, EI l, ((l.findIdx (fun t => !qa8 t) : Nat) : Int)) := by
 rw [qrI]
 refine qav (hd := fun i => (op, EI l, (i : Int))) (jx := fun _ => 0) _ 1 (fun i hn => ?_) ?_
 ·simp only [qmq, qmr, List.length_map, qaK hn, okI hn, qi0 hn, qko, ev_br, ev_at, ev_bi_some, cond_true, qai hn hl]
  cases qa8 l[i] <;> rfl
 ·simp [qmq, qmr]
theorem qtl (l : List Int) (op : Int) : qes op (EI l) = some (qyk op l) := by
 rw [qwx, qiY]
 unfold qyk
 match l with
 | a :: b :: c :: d :: r =>
  have e1 : decide (((EI (a :: b :: c :: d :: r)).length : Int) > 3) = true := by simp; omega
  simp only [e1, ev_br, ev_at, cond_true]
  cases (a :: b :: c :: d :: r).all qa8 <;> rfl
 | [] =>
  rw [qfk (by decide)]
  have hr : qeQ op (EI []) = some (0, false) := by
   rw [qfc, qeD]
   cases (op == 9) <;> cases (op == 16) <;> cases (op == 19) <;> rfl
  simp [-List.map_nil, qix, hr]
 | [a] =>
  rw [qfk (by simp [big]), qas, show [a].any (fun t => !qa8 t) = !qa8 a by simp]
  have hr : ∃ p, qeQ op (EI [a]) = some p ∧ nrm p = qQk op a := by
   rw [qfc, qeD]
   have e0 : intOf (cellAt (EI [a]) 0 0) = a := rfl
   have e1 : qaS ksI (EI [a]) 0 = true := rfl
   unfold qQk
   by_cases h1 : op = 9
   ·subst h1
    refine ⟨(a, a == 1 || (a == 2 || a == 3)), by simp [-List.map_cons, -List.map_nil, qcY, e0, e1], ?_⟩
    cases h : (a == 1 || (a == 2 || a == 3)) <;> simp [nrm, h]
   by_cases h2 : op = 16
   ·subst h2
    refine ⟨(5, a == 5), by simp [-List.map_cons, -List.map_nil, e0, e1], ?_⟩
    cases h : (a == 5) <;> simp [nrm, h]
   have d1 : (op == 9) = false := by simpa using h1
   have d2 : (op == 16) = false := by simpa using h2
   refine ⟨(0, false), ?_, by simp [nrm, h1, h2]⟩
   cases h : (op == 19) <;> simp [-List.map_cons, -List.map_nil, d1, d2, h]
  obtain ⟨p, h1, h2⟩ := hr
  cases hg : qa8 a
  ·simp [hg]
  ·simp only [List.all_cons, List.all_nil, hg, Bool.and_self, Bool.not_true, cond_false, ← h2, nrm]
   cases hp : p.2 <;> simp [-List.map_cons, -List.map_nil, h1, hp]
 | [a, b] =>
  rw [qfk (by simp [big]), qas, show [a, b].any (fun t => !qa8 t) = !(qa8 a && qa8 b) by simp]
  cases hg : (qa8 a && qa8 b)
  ·simp [hg]
  ·have hab := hg
   simp only [Bool.and_eq_true] at hab
   obtain ⟨q, hq1, hq2⟩ := qtP (op := op) hab.1 hab.2
   have hr : qeQ op (EI [a, b]) = some q := by
    rw [qfc, qeD]
    have e0 : intOf (cellAt (EI [a, b]) 0 0) = a := rfl
    have e0' : intOf (cellAt (EI [a, b]) 1 0) = b := rfl
    have e1 : qaS ksI (EI [a, b]) 0 = true := rfl
    have e1' : qaS ksI (EI [a, b]) 1 = true := rfl
    cases (op == 9) <;> cases (op == 16) <;> cases (op == 19) <;> simp [-List.map_cons, -List.map_nil, e0, e0', e1, e1', hq1]
   simp only [List.all_cons, List.all_nil, hg, Bool.and_true, Bool.not_true, cond_false, ← hq2, nrm]
   cases hp : q.2 <;> simp [-List.map_cons, -List.map_nil, hr, hp]
 | [a, b, c] =>
  rw [qfk (by simp [big]), qas, show [a, b, c].any (fun t => !qa8 t) = !(qa8 a && (qa8 b && qa8 c)) by simp]
  cases hg : (qa8 a && (qa8 b && qa8 c))
  ·simp [hg]
  ·have hr : ∃ p, qeQ op (EI [a, b, c]) = some p ∧ nrm p = qvW op a b c := by
    rw [qfc, qeD]
    have e0 : intOf (cellAt (EI [a, b, c]) 0 0) = a := rfl
    have e1 : intOf (cellAt (EI [a, b, c]) 1 0) = b := rfl
    have e2 : intOf (cellAt (EI [a, b, c]) 2 0) = c := rfl
    have d0 : qaS ksI (EI [a, b, c]) 0 = true := rfl
    have d1 : qaS ksI (EI [a, b, c]) 1 = true := rfl
    have d2 : qaS ksI (EI [a, b, c]) 2 = true := rfl
    unfold qvW
    cases h9 : (op == 9) <;> cases h16 : (op == 16) <;> cases h19 : (op == 19) <;> cases h5 : (a == 5) <;> cases hbc : (b == c) <;> simp [-List.map_cons, -List.map_nil, e0, e1, e2, d0, d1, d2, h5, hbc, nrm]
   obtain ⟨p, h1, h2⟩ := hr
   simp only [List.all_cons, List.all_nil, hg, Bool.and_true, Bool.not_true, cond_false, ← h2, nrm]
   cases hp : p.2 <;> simp [-List.map_cons, -List.map_nil, h1, hp]
theorem qxD {vs : List Va} (hl : vs.length ≤ big) (s : Bs) : qnY (s, EV vs, (vs.length : Int), 0) = some (qix (fun v => v.name == s) (fun v => bif qa8 v.ty then 1 else 0) 2 vs, s, EV vs, (vs.length : Int), ((vs.findIdx (fun v => v.name == s) : Nat) : Int)) := by
 rw [qrk]
 refine qav (hd := fun i => (s, EV vs, (vs.length : Int), (i : Int))) _ _ 2 (fun i hn => ?_) ?_
 ·simp only [ql3, ql4, qaK hn, okV hn, qv0 hn, qv1 hn, qnC, ev_br, ev_at, ev_bi_some, cond_true, qai hn hl]
  cases (vs[i].name == s) <;> cases qa8 vs[i].ty <;> rfl
 ·simp [ql3, ql4]
theorem qoX {α : Type} {l : List α} {p : α → Bool} {x : α} (h : l.find? p = some x) : ∃ h' : l.findIdx p < l.length, l[l.findIdx p] = x := by
 have hlt : l.findIdx p < l.length := List.findIdx_lt_length.2 ⟨x, List.mem_of_find?_eq_some h, List.find?_some h⟩
 refine ⟨hlt, ?_⟩
 rw [List.find?_eq_getElem?_findIdx, List.getElem?_eq_getElem hlt] at h
 exact Option.some.inj h
theorem qxb {vs : List Va} (hl : vs.length ≤ big) (s : Bs) : qnk s (EV vs) = some (qEQ vs s) := by
 rw [qAx, qpS, List.length_map, qxD hl]
 unfold qEQ qix
 cases hf : vs.find? (fun v => v.name == s) with
 | none => rfl
 | some v =>
  obtain ⟨h1, h2⟩ := qoX hf
  have hq := qv1 h1
  rw [h2] at hq
  simp only
  cases hg : qa8 v.ty
  ·simp
  ·simp [-List.map_cons, hq]
theorem qt8 {vs : List Va} (hl : vs.length ≤ big) (o n : Int) (s : Bs) (A : List AV) : qeW (EV vs, 0, o, n, s, A) = some (qix (fun v => v.name == s) (fun v => bif qa8 v.ty then 0 else 1) 2 vs, EV vs, ((vs.findIdx (fun v => v.name == s) : Nat) : Int), o, n, s, A) := by
 rw [qnX]
 refine qav (hd := fun i => (EV vs, (i : Int), o, n, s, A)) _ _ 2 (fun i hn => ?_) ?_
 ·simp only [qhf, qh7, List.length_map, qaK hn, okV hn, qv0 hn, qv1 hn, qko, ev_br, ev_at, ev_bi_some, cond_true, qai hn hl]
  cases (vs[i].name == s) <;> cases qa8 vs[i].ty <;> rfl
 ·simp [qhf, qh7]
def hdP (vs : List Va) (l : List Ex) (i : Int) (o n : Int) (s : Bs) : List Int → qbz
 | [] => .inl (EV vs, EX l, (l.length : Int), i, o, n, s, EX l)
 | acc => .inr (EV vs, EX l, (l.length : Int), i, o, n, s, EX l, EI acc)
def hdQ (vs : List Va) (l : List Ex) (i : Int) (o n : Int) (s : Bs) : List Int → qbA
 | [] => .inl (EV vs, i, o, n, s, EX l)
 | acc => .inr (EV vs, i, o, n, s, EX l, EI acc)
noncomputable def ofT (G : Int → Int → List UInt8 → List AV → List AV → Option qhm) (y : Option (Nat × qbz)) : DT qhm :=
     (.bi (pj 0 y) (fun y0 =>
      .at ((0, (gv
    (G (intOf (cellAt (sl y0).snd.fst (sl y0).snd.snd.snd.fst 0)) (intOf (cellAt (sl y0).snd.fst (sl y0).snd.snd.snd.fst 1))
      (strOf (cellAt (sl y0).snd.fst (sl y0).snd.snd.snd.fst 2)) (qal (cellAt (sl y0).snd.fst (sl y0).snd.snd.snd.fst 3)) (sl y0).fst)).snd)))
      (.bi (pj 1 y) (fun y0 =>
       .bi (qgV (sl y0).snd.snd.snd.snd.fst []) (fun y1 =>
        .br (!y1.snd) (.at ((0, 3))) (.at ((y1.fst, 0))))
        (.no))
       (.bi (pj 2 y) (fun y0 =>
        .at ((0, (gv
    (G (intOf (cellAt (sr y0).snd.fst (sr y0).snd.snd.snd.fst 0)) (intOf (cellAt (sr y0).snd.fst (sr y0).snd.snd.snd.fst 1))
      (strOf (cellAt (sr y0).snd.fst (sr y0).snd.snd.snd.fst 2)) (qal (cellAt (sr y0).snd.fst (sr y0).snd.snd.snd.fst 3)) (sr y0).fst)).snd)))
        (.bi (pj 3 y) (fun y0 =>
         .bi (qgV (sr y0).snd.snd.snd.snd.fst (sr y0).snd.snd.snd.snd.snd.snd.snd.snd) (fun y1 =>
          .br (!y1.snd) (.at ((0, 3))) (.at ((y1.fst, 0))))
          (.no))
         (.no)))))
theorem qQh (G : Int → Int → List UInt8 → List AV → List AV → Option qhm) (x0 x1 : Int) (x2 : Bs) (x3 x4 : List AV) : qpD G x0 x1 x2 x3 x4 =
  .br (x0 == 1) (.at ((1, 0))) (.br (x0 == 2) (.at ((2, 0))) (.br (x0 == 3) (.at ((3, 0))) (.br (x0 == 4) (.bi (qnk x2 x4) (fun y0 => .at ((y0.fst, y0.snd))) .no)
   (ofT G (qeV G (.inl (x4, x3, (x3.length : Int), 0, x0, x1, x2, x3))))))) := rfl
def qyi (op : Int) (acc : List Int) (p : List Int × Int) : Int × Int := qFu op (acc ++ p.1, p.2)
theorem qqr {vs : List Va} (hv : vs.length ≤ big) : ∀ (e : Ex), e.nodes ≤ 1000000 → ∀ n, e.dep ≤ n → qbY n e.op e.num e.txt (EX e.args) (EV vs) = some (e.ty vs) := by
 intro e
 induction e using Ex.ind with
 | h o n s l ih =>
  intro h m hm
  simp only [Ex.dep] at hm
  have hll := Ex.nodesL_len l
  simp only [Ex.nodes] at h
  cases m with
  | zero => omega
  | succ k =>
   have key : ∀ (r i : Nat) (acc : List Int), i + r = l.length → acc.length + (l.drop i).length ≤ 1000000 → (ofT (qbY k) (qeV (qbY k) (hdP vs l (i : Int) o n s acc))).ev = some (qyi o acc (Ex.tys vs (l.drop i))) := by
    intro r
    induction r with
    | zero =>
     intro i acc hi _
     have : i = l.length := by omega
     subst this
     rw [qfi, List.drop_length]
     have hres := fun (acc : List Int) (ha : acc.length ≤ big) => qxm ha o
     cases acc with
     | nil =>
      rw [qar (j := 1)]
      ·have h0 : qgV o [] = some (qyk o []) := hres [] (by simp [big])
       simp (decide := true) only [ofT, hdP, pj_some, if_true, if_false, ev_bi_none, ev_bi_some, sl_inl, h0, ev_br, ev_at, qyi, qFu, Ex.tys, List.append_nil]
       cases (qyk o []).2 <;> rfl
      ·simp [hdP, qcn, qfz]
     | cons a acc =>
      rw [qar (j := 3)]
      ·have h0 := hres (a :: acc) (by simp [big] at *; omega)
       simp (decide := true) only [ofT, hdP, pj_some, if_true, if_false, ev_bi_none, ev_bi_some, sr_inr, h0, ev_br, ev_at, qyi, qFu, Ex.tys, List.append_nil]
       cases (qyk o (a :: acc)).2 <;> rfl
      ·simp [hdP, qcn, qfA]
    | succ r ihr =>
     intro i acc hi hb
     have hn : i < l.length := by omega
     have hx : l[i] ∈ l := List.getElem_mem hn
     have h1 := Ex.nodesL_mem hx
     have h2 := Ex.depL_mem hx
     have hg := ih l[i] hx (by omega) k (by omega)
     rw [drop_at hn] at hb ⊢
     simp only [List.length_cons] at hb
     have hroom : room (acc.length + 1) 8 = true := qlM (by simp only [lim]; omega)
     cases he : ((Ex.ty vs l[i]).2 != 0)
     ·have hst : (qcn (qbY k) (hdP vs l (i : Int) o n s acc)).ev = some (.next (hdP vs l ((i + 1 : Nat) : Int) o n s (acc ++ [(Ex.ty vs l[i]).1]))) := by
       cases acc with
       | nil => simp only [hdP, qcn, Sum.elim_inl, qfz, qaK hn, okX hn, qx0 hn, qx1 hn, qx2 hn, qx3 hn, hg, he, ev_br, ev_at, ev_bi_some, cond_true, cond_false, qai hn (show l.length ≤ big by simp only [big]; omega)]; rfl
       | cons a acc =>
        simp only [List.length_cons] at hroom
        simp only [hdP, qcn, Sum.elim_inr, qfA, qaK hn, okX hn, qx0 hn, qx1 hn, qx2 hn, qx3 hn, hg, he, ev_br, ev_at, ev_bi_some, cond_true, cond_false, qai hn (show l.length ≤ big by simp only [big]; omega), List.length_map, List.length_cons, hroom]
        simp [hdP]
      have ihn := ihr (i + 1) (acc ++ [(Ex.ty vs l[i]).1]) (by omega) (by simp only [List.length_append, List.length_cons, List.length_nil]; omega)
      rw [qfi] at ihn ⊢
      rw [qaH hst, ihn]
      congr 1
      simp only [Ex.tys, he, cond_false, qyi, qFu]
      cases hz : ((Ex.tys vs (l.drop (i + 1))).2 != 0)
      ·simp at hz; simp [hz]
      ·simp [hz]
     ·have hfin : ∀ a : List Int, qyi o a (Ex.tys vs (l[i] :: l.drop (i + 1))) = (0, (Ex.ty vs l[i]).2) := by
       intro a
       simp only [Ex.tys, he, cond_true, qyi, qFu]
      rw [hfin, qfi]
      cases acc with
      | nil =>
       rw [qar (j := 0)]
       ·simp (decide := true) only [ofT, hdP, pj_some, if_true, ev_bi_some, sl_inl, qx0 hn, qx1 hn, qx2 hn, qx3 hn, hg, gv_some, ev_at]
       ·simp only [hdP, qcn, Sum.elim_inl, qfz, qaK hn, okX hn, qx0 hn, qx1 hn, qx2 hn, qx3 hn, hg, he, ev_br, ev_at, ev_bi_some, cond_true]
      | cons a acc =>
       rw [qar (j := 2)]
       ·simp (decide := true) only [ofT, hdP, pj_some, if_true, if_false, ev_bi_none, ev_bi_some, sr_inr, qx0 hn, qx1 hn, qx2 hn, qx3 hn, hg, gv_some, ev_at]
       ·simp only [hdP, qcn, Sum.elim_inr, qfA, qaK hn, okX hn, qx0 hn, qx1 hn, qx2 hn, qx3 hn, hg, he, ev_br, ev_at, ev_bi_some, cond_true]
   show qbY (k + 1) o n s (EX l) (EV vs) = some ((Ex.mk o n s l).ty vs)
   simp only [qbY, qQh, ev_br, ev_at, qxb hv, ev_bi_some, Ex.ty]
   by_cases h1 : o = 1
   ·subst h1; rfl
   by_cases h2 : o = 2
   ·subst h2; rfl
   by_cases h3 : o = 3
   ·subst h3; rfl
   by_cases h4 : o = 4
   ·subst h4; rfl
   have e1 : (o == 1) = false := by simpa using h1
   have e2 : (o == 2) = false := by simpa using h2
   have e3 : (o == 3) = false := by simpa using h3
   have e4 : (o == 4) = false := by simpa using h4
   rw [e1, e2, e3, e4]
   simp only [cond_false, h1, h2, h3, h4, if_false, List.length_map]
   exact key l.length 0 [] (by omega) (by simp; omega)
theorem qtI {vs : List Va} (hv : vs.length ≤ big) {e : Ex} (h : e.nodes ≤ 1000000) : qoV e.op e.num e.txt (EX e.args) (EV vs) = some (e.ty vs) := qcf (qqr hv e h)
noncomputable def ofU (G : Int → Int → List UInt8 → List AV → List AV → Option qfW) (y : Option (Nat × qbA)) : DT qfW :=
     (.bi (pj 0 y) (fun y0 =>
      .at ((0, (gv
    (G (intOf (cellAt (sl y0).snd.snd.snd.snd.snd (sl y0).snd.fst 0)) (intOf (cellAt (sl y0).snd.snd.snd.snd.snd (sl y0).snd.fst 1))
      (strOf (cellAt (sl y0).snd.snd.snd.snd.snd (sl y0).snd.fst 2)) (qal (cellAt (sl y0).snd.snd.snd.snd.snd (sl y0).snd.fst 3)) (sl y0).fst)).snd)))
      (.bi (pj 1 y) (fun y0 =>
       .bi (qes (sl y0).snd.snd.fst []) (fun y1 =>
        .br (!y1.snd) (.at ((0, 3))) (.at ((y1.fst, 0))))
        (.no))
       (.bi (pj 2 y) (fun y0 =>
        .at ((0, (gv
    (G (intOf (cellAt (sr y0).snd.snd.snd.snd.snd.fst (sr y0).snd.fst 0)) (intOf (cellAt (sr y0).snd.snd.snd.snd.snd.fst (sr y0).snd.fst 1))
      (strOf (cellAt (sr y0).snd.snd.snd.snd.snd.fst (sr y0).snd.fst 2)) (qal (cellAt (sr y0).snd.snd.snd.snd.snd.fst (sr y0).snd.fst 3)) (sr y0).fst)).snd)))
        (.bi (pj 3 y) (fun y0 =>
         .bi (qes (sr y0).snd.snd.fst (sr y0).snd.snd.snd.snd.snd.snd) (fun y1 =>
          .br (!y1.snd) (.at ((0, 3))) (.at ((y1.fst, 0))))
          (.no))
         (.no)))))
noncomputable def ofW (y : Option (Nat × qcl)) : DT qfW :=
     (.bi (pj 0 y) (fun y0 =>
      .at ((intOf (cellAt y0.fst y0.snd.fst 1), 0)))
      (.bi (pj 1 y) (fun y0 =>
       .at ((0, 3)))
       (.bi (pj 2 y) (fun y0 =>
        .at ((0, 4)))
        (.no))))
theorem qQi (G : Int → Int → List UInt8 → List AV → List AV → Option qfW) (x0 x1 : Int) (x2 : Bs) (x3 x4 : List AV) : qpF G x0 x1 x2 x3 x4 =
  .br (x0 == 1) (.at ((1, 0))) (.br (x0 == 2) (.at ((2, 0))) (.br (x0 == 3) (.at ((3, 0))) (.br (x0 == 4) (ofW (qeW (x4, 0, x0, x1, x2, x3)))
   (ofU G (qeX G (.inl (x4, 0, x0, x1, x2, x3))))))) := rfl
theorem qM5 {vs : List Va} (hl : vs.length ≤ big) (o n : Int) (s : Bs) (A : List AV) : (ofW (qeW (EV vs, 0, o, n, s, A))).ev = some (qEQ vs s) := by
 rw [qt8 hl]
 unfold qEQ qix ofW
 cases hf : vs.find? (fun v => v.name == s) with
 | none => rfl
 | some v =>
  obtain ⟨h1, h2⟩ := qoX hf
  have hq := qv1 h1
  rw [h2] at hq
  simp only
  cases hg : qa8 v.ty
  ·simp
  ·simp [-List.map_cons, hq]
theorem qwb {vs : List Va} (hv : vs.length ≤ big) : ∀ (e : Ex), e.nodes ≤ 1000000 → ∀ n, e.dep ≤ n → qbZ n e.op e.num e.txt (EX e.args) (EV vs) = some (e.ty vs) := by
 intro e
 induction e using Ex.ind with
 | h o n s l ih =>
  intro h m hm
  simp only [Ex.dep] at hm
  have hll := Ex.nodesL_len l
  simp only [Ex.nodes] at h
  cases m with
  | zero => omega
  | succ k =>
   have key : ∀ (r i : Nat) (acc : List Int), i + r = l.length → acc.length + (l.drop i).length ≤ 1000000 → (ofU (qbZ k) (qeX (qbZ k) (hdQ vs l (i : Int) o n s acc))).ev = some (qyi o acc (Ex.tys vs (l.drop i))) := by
    intro r
    induction r with
    | zero =>
     intro i acc hi _
     have : i = l.length := by omega
     subst this
     rw [qfj, List.drop_length]
     have hres := fun (acc : List Int) => qtl acc o
     cases acc with
     | nil =>
      rw [qar (j := 1)]
      ·have h0 : qes o [] = some (qyk o []) := hres []
       simp (decide := true) only [ofU, hdQ, pj_some, if_true, if_false, ev_bi_none, ev_bi_some, sl_inl, h0, ev_br, ev_at, qyi, qFu, Ex.tys, List.append_nil]
       cases (qyk o []).2 <;> rfl
      ·simp [hdQ, qco, qfF]
     | cons a acc =>
      rw [qar (j := 3)]
      ·have h0 := hres (a :: acc)
       simp (decide := true) only [ofU, hdQ, pj_some, if_true, if_false, ev_bi_none, ev_bi_some, sr_inr, h0, ev_br, ev_at, qyi, qFu, Ex.tys, List.append_nil]
       cases (qyk o (a :: acc)).2 <;> rfl
      ·simp [hdQ, qco, qfG]
    | succ r ihr =>
     intro i acc hi hb
     have hn : i < l.length := by omega
     have hx : l[i] ∈ l := List.getElem_mem hn
     have h1 := Ex.nodesL_mem hx
     have h2 := Ex.depL_mem hx
     have hg := ih l[i] hx (by omega) k (by omega)
     rw [drop_at hn] at hb ⊢
     simp only [List.length_cons] at hb
     have hroom : room (acc.length + 1) 8 = true := qlM (by simp only [lim]; omega)
     cases he : ((Ex.ty vs l[i]).2 != 0)
     ·have hst : (qco (qbZ k) (hdQ vs l (i : Int) o n s acc)).ev = some (.next (hdQ vs l ((i + 1 : Nat) : Int) o n s (acc ++ [(Ex.ty vs l[i]).1]))) := by
       cases acc with
       | nil => simp only [hdQ, qco, Sum.elim_inl, qfF, List.length_map, qaK hn, okX hn, qx0 hn, qx1 hn, qx2 hn, qx3 hn, hg, he, ev_br, ev_at, ev_bi_some, cond_true, cond_false, qai hn (show l.length ≤ big by simp only [big]; omega)]; rfl
       | cons a acc =>
        simp only [List.length_cons] at hroom
        simp only [hdQ, qco, Sum.elim_inr, qfG, qaK hn, okX hn, qx0 hn, qx1 hn, qx2 hn, qx3 hn, hg, he, ev_br, ev_at, ev_bi_some, cond_true, cond_false, qai hn (show l.length ≤ big by simp only [big]; omega), List.length_map, List.length_cons, hroom]
        simp [hdQ]
      have ihn := ihr (i + 1) (acc ++ [(Ex.ty vs l[i]).1]) (by omega) (by simp only [List.length_append, List.length_cons, List.length_nil]; omega)
      rw [qfj] at ihn ⊢
      rw [qaH hst, ihn]
      congr 1
      simp only [Ex.tys, he, cond_false, qyi, qFu]
      cases hz : ((Ex.tys vs (l.drop (i + 1))).2 != 0)
      ·simp at hz; simp [hz]
      ·simp [hz]
     ·have hfin : ∀ a : List Int, qyi o a (Ex.tys vs (l[i] :: l.drop (i + 1))) = (0, (Ex.ty vs l[i]).2) := by
       intro a
       simp only [Ex.tys, he, cond_true, qyi, qFu]
      rw [hfin, qfj]
      cases acc with
      | nil =>
       rw [qar (j := 0)]
       ·simp (decide := true) only [ofU, hdQ, pj_some, if_true, ev_bi_some, sl_inl, qx0 hn, qx1 hn, qx2 hn, qx3 hn, hg, gv_some, ev_at]
       ·simp only [hdQ, qco, Sum.elim_inl, qfF, List.length_map, qaK hn, okX hn, qx0 hn, qx1 hn, qx2 hn, qx3 hn, hg, he, ev_br, ev_at, ev_bi_some, cond_true]
      | cons a acc =>
       rw [qar (j := 2)]
       ·simp (decide := true) only [ofU, hdQ, pj_some, if_true, if_false, ev_bi_none, ev_bi_some, sr_inr, qx0 hn, qx1 hn, qx2 hn, qx3 hn, hg, gv_some, ev_at]
       ·simp only [hdQ, qco, Sum.elim_inr, qfG, List.length_map, qaK hn, okX hn, qx0 hn, qx1 hn, qx2 hn, qx3 hn, hg, he, ev_br, ev_at, ev_bi_some, cond_true]
   show qbZ (k + 1) o n s (EX l) (EV vs) = some ((Ex.mk o n s l).ty vs)
   simp only [qbZ, qQi, ev_br, ev_at, qM5 hv, ev_bi_some, Ex.ty]
   by_cases h1 : o = 1
   ·subst h1; rfl
   by_cases h2 : o = 2
   ·subst h2; rfl
   by_cases h3 : o = 3
   ·subst h3; rfl
   by_cases h4 : o = 4
   ·subst h4; rfl
   have e1 : (o == 1) = false := by simpa using h1
   have e2 : (o == 2) = false := by simpa using h2
   have e3 : (o == 3) = false := by simpa using h3
   have e4 : (o == 4) = false := by simpa using h4
   rw [e1, e2, e3, e4]
   simp only [cond_false, h1, h2, h3, h4, if_false]
   exact key l.length 0 [] (by omega) (by simp; omega)
theorem qtR {vs : List Va} (hv : vs.length ≤ big) {e : Ex} (h : e.nodes ≤ 1000000) : qoW e.op e.num e.txt (EX e.args) (EV vs) = some (e.ty vs) := qcf (qwb hv e h)
theorem qtH {vs : List Va} (hv : vs.length ≤ big) {e : Ex} (h : e.nodes ≤ big) : qkh e.op e.num e.txt (EX e.args) (EV vs) = some (ofS e vs) := by
 rw [qwP, qji, qno h]
 unfold ofS
 cases hz : (qb7 e != 0)
 ·have hz' : qb7 e = 0 := by simpa using hz
  have := (qmO hz').1
  simp [hz, qtI hv (e := e) (by omega)]
 ·simp [hz]
theorem qtQ {vs : List Va} (hv : vs.length ≤ big) {e : Ex} (hw : Wd e) : qku e.op e.num e.txt (EX e.args) (EV vs) = some (ofS e vs) := by
 rw [qw3, qjx, qxo hw]
 unfold ofS
 cases hz : (qb7 e != 0)
 ·have hz' : qb7 e = 0 := by simpa using hz
  have := (qmO hz').1
  simp [hz, qtR hv (e := e) (by omega)]
 ·simp [hz]
end Go.Proofs.H15c

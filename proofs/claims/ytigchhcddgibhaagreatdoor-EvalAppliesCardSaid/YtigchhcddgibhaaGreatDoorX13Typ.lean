/- Types of expressions: what the printed functions come to. -/
import Derived.Test.YtigchhcddgibhaaGreatDoorX13Ref
import Derived.Test.YtigchhcddgibhaaGreatDoorTyA
set_option linter.unusedVariables false
set_option linter.unusedSimpArgs false
set_option linter.unnecessarySimpa false
namespace Go.Proofs.H13
open Go Go.Eng Go.Tk
set_option maxRecDepth 20000
theorem qgj (x : Int) : qgi x = some (qaJ x) := by
 rw [qxL, qi9]; by_cases h : x >= 1 <;> simp [qaJ, h]
theorem qgu (x : Int) : qgt x = some (qaJ x) := by
 rw [qyC, qjU]; by_cases h : x >= 1 <;> simp [qaJ, h]
theorem qum (op a : Int) : ∃ p, qkV op a = some p /\ nrm p = qTR op a := by
 rw [qyf, qjx]
 unfold qTR
 by_cases h1 : op = 16
 ·subst h1
  exact ⟨_, rfl, by cases h : (a == 5) <;> simp [nrm, h]⟩
 by_cases h2 : op = 9
 ·subst h2
  refine ⟨(a, a == 1 || (a == 2 || a == 3)), ?_, ?_⟩
  ·cases h : (a == 1) <;> cases h' : (a == 2) <;> simp [h, h']
  ·cases h : (a == 1 || (a == 2 || a == 3)) <;> simp [nrm, h]
 have e1 : (op == 16) = false := by simpa using h1
 have e2 : (op == 9) = false := by simpa using h2
 exact ⟨(0, false), by simp [e1, e2], by simp [nrm, h1, h2]⟩
theorem qy4 : qbE = some (ariL.map q8t) := by
 rw [qD0, qvf]; rfl
theorem qun (op a b : Int) : ∃ p, qkW op a b = some p /\ nrm p = qiT op a b := by
 rw [qyg, qjy]
 by_cases h1 : op = 10
 ·subst h1; exact ⟨_, rfl, by cases h : (a == b) <;> simp [nrm, qiT, h]⟩
 by_cases h2 : op = 11
 ·subst h2; exact ⟨_, rfl, by cases h : (a == b) <;> simp [nrm, qiT, h]⟩
 by_cases h3 : op = 12
 ·subst h3; exact ⟨(5, a == b && a != 5), by cases h : (a == b) <;> simp [h], by cases h : (a == b && a != 5) <;> simp [nrm, qiT, h]⟩
 by_cases h4 : op = 13
 ·subst h4; exact ⟨(5, a == b && a != 5), by cases h : (a == b) <;> simp [h], by cases h : (a == b && a != 5) <;> simp [nrm, qiT, h]⟩
 by_cases h5 : op = 14
 ·subst h5; exact ⟨(5, a == b && a == 5), by cases h : (a == b) <;> simp [h], by cases h : (a == b && a == 5) <;> simp [nrm, qiT, h]⟩
 by_cases h6 : op = 15
 ·subst h6; exact ⟨(5, a == b && a == 5), by cases h : (a == b) <;> simp [h], by cases h : (a == b && a == 5) <;> simp [nrm, qiT, h]⟩
 by_cases h7 : op = 17
 ·subst h7; exact ⟨(a, a == b && a != 5), by cases h : (a == b) <;> simp [h], by cases h : (a == b && a != 5) <;> simp [nrm, qiT, h]⟩
 by_cases h8 : op = 18
 ·subst h8; exact ⟨(a, a == b && a != 5), by cases h : (a == b) <;> simp [h], by cases h : (a == b && a != 5) <;> simp [nrm, qiT, h]⟩
 have e1 : (op == 10) = false := by simpa using h1
 have e2 : (op == 11) = false := by simpa using h2
 have e3 : (op == 12) = false := by simpa using h3
 have e4 : (op == 13) = false := by simpa using h4
 have e5 : (op == 14) = false := by simpa using h5
 have e6 : (op == 15) = false := by simpa using h6
 have e7 : (op == 17) = false := by simpa using h7
 have e8 : (op == 18) = false := by simpa using h8
 simp only [e1, e2, e3, e4, e5, e6, e7, e8, ev_br, cond_false, qy4, ev_bi_some, zaC, zaD, qiT, h1, h2, h3, h4, h5, h6, h7, h8, or_self, if_false]
 cases hq : qOn op a b with
 | none => exact ⟨(0, false), by simp, rfl⟩
 | some t =>
  have ht := (qMy hq).1
  rw [zaG hq]
  refine ⟨(t, t != 0), rfl, ?_⟩
  have : (t != 0) = true := by simpa using ht
  simp [nrm, this]
theorem qdg (x : Int) : qb8 x = some (x == 1 || (x == 2 || x == 3)) := by
 rw [qx6, qjo]
 cases h : (x == 1) <;> cases h' : (x == 2) <;> simp [h, h']
theorem quG {op a b : Int} (ha : qaJ a = true) (hb : qaJ b = true) : ∃ p, qli op a b = some p /\ nrm p = qiT op a b := by
 rw [qyU, qkc]
 by_cases h1 : op = 5
 ·subst h1
  simp only [qdg]
  rcases qaL ha with rfl | rfl | rfl | rfl | rfl <;> rcases qaL hb with rfl | rfl | rfl | rfl | rfl <;> exact ⟨_, rfl, rfl⟩
 by_cases h2 : op = 6
 ·subst h2
  simp only [qdg]
  rcases qaL ha with rfl | rfl | rfl | rfl | rfl <;> rcases qaL hb with rfl | rfl | rfl | rfl | rfl <;> exact ⟨_, rfl, rfl⟩
 by_cases h3 : op = 7
 ·subst h3
  simp only [qxO, qjb, qdg]
  rcases qaL ha with rfl | rfl | rfl | rfl | rfl <;> rcases qaL hb with rfl | rfl | rfl | rfl | rfl <;> exact ⟨_, rfl, rfl⟩
 by_cases h4 : op = 8
 ·subst h4
  simp only [qdg]
  rcases qaL ha with rfl | rfl | rfl | rfl | rfl <;> rcases qaL hb with rfl | rfl | rfl | rfl | rfl <;> exact ⟨_, rfl, rfl⟩
 by_cases g1 : op = 10
 ·subst g1; exact ⟨_, rfl, by cases h : (a == b) <;> simp [nrm, qiT, h]⟩
 by_cases g2 : op = 11
 ·subst g2; exact ⟨_, rfl, by cases h : (a == b) <;> simp [nrm, qiT, h]⟩
 by_cases g3 : op = 12
 ·subst g3; exact ⟨(5, a == b && a != 5), by cases h : (a == b) <;> simp [h], by cases h : (a == b && a != 5) <;> simp [nrm, qiT, h]⟩
 by_cases g4 : op = 13
 ·subst g4; exact ⟨(5, a == b && a != 5), by cases h : (a == b) <;> simp [h], by cases h : (a == b && a != 5) <;> simp [nrm, qiT, h]⟩
 have hand : (a == 5 && b == 5) = (a == b && a == 5) := by
  rw [Bool.eq_iff_iff]; simp only [Bool.and_eq_true, beq_iff_eq]
  constructor
  ·rintro ⟨rfl, rfl⟩; exact ⟨rfl, rfl⟩
  ·rintro ⟨rfl, rfl⟩; exact ⟨rfl, rfl⟩
 by_cases g5 : op = 14
 ·subst g5; exact ⟨(5, a == 5 && b == 5), by cases h : (a == 5) <;> simp [h], by rw [hand]; cases h : (a == b && a == 5) <;> simp [nrm, qiT, h]⟩
 by_cases g6 : op = 15
 ·subst g6; exact ⟨(5, a == 5 && b == 5), by cases h : (a == 5) <;> simp [h], by rw [hand]; cases h : (a == b && a == 5) <;> simp [nrm, qiT, h]⟩
 by_cases g7 : op = 17
 ·subst g7; exact ⟨(a, a == b && a != 5), by cases h : (a == b) <;> simp [h], by cases h : (a == b && a != 5) <;> simp [nrm, qiT, h]⟩
 by_cases g8 : op = 18
 ·subst g8; exact ⟨(a, a == b && a != 5), by cases h : (a == b) <;> simp [h], by cases h : (a == b && a != 5) <;> simp [nrm, qiT, h]⟩
 have e1 : (op == 10) = false := by simpa using g1
 have e2 : (op == 11) = false := by simpa using g2
 have e3 : (op == 12) = false := by simpa using g3
 have e4 : (op == 13) = false := by simpa using g4
 have e5 : (op == 14) = false := by simpa using g5
 have e6 : (op == 15) = false := by simpa using g6
 have e7 : (op == 17) = false := by simpa using g7
 have e8 : (op == 18) = false := by simpa using g8
 have d1 : (op == 5) = false := by simpa using h1
 have d2 : (op == 6) = false := by simpa using h2
 have d3 : (op == 7) = false := by simpa using h3
 have d4 : (op == 8) = false := by simpa using h4
 refine ⟨(0, false), by simp only [d1, d2, d3, d4, e1, e2, e3, e4, e5, e6, e7, e8, ev_br, ev_at, cond_false], ?_⟩
 simp only [qiT, g1, g2, g3, g4, g5, g6, g7, g8, or_self, if_false]
 rw [qZL (by omega)]; rfl
theorem qzz {l : List Int} (hl : l.length <= big) (op : Int) : qr4 (op, EI l, EI l, (l.length : Int), 0) = some (qf0 (fun t => !qaJ t) (fun _ => 0) 1 l, op, EI l, EI l, (l.length : Int), ((l.findIdx (fun t => !qaJ t) : Nat) : Int)) := by
 rw [qr5]
 refine qaC (hd := fun i => (op, EI l, EI l, (l.length : Int), (i : Int))) (jx := fun _ => 0) _ 1 (fun i hn => ?_) ?_
 ·simp only [qmv, qmw, qar hn, okI hn, qi0 hn, qgj, ev_br, ev_at, ev_bi_some, cond_true, qal hn hl]
  cases qaJ l[i] <;> rfl
 ·simp [qmv, qmw]
theorem qhZ {l : List Int} (hl : l.length <= big) (op : Int) : qb4 op (EI l) = some (qa0 op l) := by
 rw [qEC, qqR, List.length_map, qzz hl, qaE, show l.any (fun t => !qaJ t) = !l.all qaJ by rw [List.any_eq_not_all_not]; simp]
 unfold qa0
 cases hg : l.all qaJ
 ·rfl
 ·simp only [Bool.not_true, cond_false, pj_some, if_true, Nat.one_ne_zero, if_false, ev_bi_none, ev_bi_some, List.length_map]
  match l with
  | [] => rfl
  | [a] =>
   obtain ⟨p, h1, h2⟩ := qum op a
   have e0 : intOf (cellAt (EI [a]) 0 0) = a := rfl
   have e1 : qay ksI (EI [a]) 0 = true := rfl
   simp only [e0, e1, h1, <- h2, nrm, ev_br, ev_bi_some, ev_at]
   cases p.2 <;> rfl
  | [a, b] =>
   obtain ⟨p, h1, h2⟩ := qun op a b
   have e0 : intOf (cellAt (EI [a, b]) 0 0) = a := rfl
   have e0' : intOf (cellAt (EI [a, b]) 1 0) = b := rfl
   have e1 : qay ksI (EI [a, b]) 0 = true := rfl
   have e1' : qay ksI (EI [a, b]) 1 = true := rfl
   simp only [e0, e0', e1, e1', h1, <- h2, nrm, ev_br, ev_bi_some, ev_at]
   cases p.2 <;> rfl
  | [a, b, c] =>
   have e0 : intOf (cellAt (EI [a, b, c]) 0 0) = a := rfl
   have e1 : intOf (cellAt (EI [a, b, c]) 1 0) = b := rfl
   have e2 : intOf (cellAt (EI [a, b, c]) 2 0) = c := rfl
   have d0 : qay ksI (EI [a, b, c]) 0 = true := rfl
   have d1 : qay ksI (EI [a, b, c]) 1 = true := rfl
   have d2 : qay ksI (EI [a, b, c]) 2 = true := rfl
   simp only [e0, e1, e2, d0, d1, d2, qxc, ev_br, ev_bi_some, ev_at]
   cases (op == 19) <;> cases (a == 5) <;> cases (b == c) <;> rfl
  | a :: b :: c :: d :: r =>
   have e1 : (((a :: b :: c :: d :: r).length : Int) == 1) = false := by simp; omega
   have e2 : (((a :: b :: c :: d :: r).length : Int) == 2) = false := by simp; omega
   have e3 : (((a :: b :: c :: d :: r).length : Int) == 3) = false := by simp; omega
   simp only [e1, e2, e3, ev_br, ev_at, cond_false]
theorem qfG {l : List Int} (hl : l.length <= big) (op : Int) : qsg (op, EI l, 0) = some (qf0 (fun t => !qaJ t) (fun _ => 0) 1 l, op, EI l, ((l.findIdx (fun t => !qaJ t) : Nat) : Int)) := by
 rw [qsh]
 refine qaC (hd := fun i => (op, EI l, (i : Int))) (jx := fun _ => 0) _ 1 (fun i hn => ?_) ?_
 ·simp only [qmJ, qmK, List.length_map, qar hn, okI hn, qi0 hn, qgu, ev_br, ev_at, ev_bi_some, cond_true, qal hn hl]
  cases qaJ l[i] <;> rfl
 ·simp [qmJ, qmK]
theorem qeI (l : List Int) (op : Int) : qbU op (EI l) = some (qa0 op l) := by
 rw [qx5, qjn]
 unfold qa0
 match l with
 | a :: b :: c :: d :: r =>
  have e1 : decide (((EI (a :: b :: c :: d :: r)).length : Int) > 3) = true := by simp; omega
  simp only [e1, ev_br, ev_at, cond_true]
  cases (a :: b :: c :: d :: r).all qaJ <;> rfl
 | [] =>
  rw [qfG (by decide)]
  have hr : qe6 op (EI []) = some (0, false) := by
   rw [qfy, qeS]
   cases (op == 9) <;> cases (op == 16) <;> cases (op == 19) <;> rfl
  simp [-List.map_nil, qf0, hr]
 | [a] =>
  rw [qfG (by simp [big]), qaE, show [a].any (fun t => !qaJ t) = !qaJ a by simp]
  have hr : ∃ p, qe6 op (EI [a]) = some p /\ nrm p = qTR op a := by
   rw [qfy, qeS]
   have e0 : intOf (cellAt (EI [a]) 0 0) = a := rfl
   have e1 : qay ksI (EI [a]) 0 = true := rfl
   unfold qTR
   by_cases h1 : op = 9
   ·subst h1
    refine ⟨(a, a == 1 || (a == 2 || a == 3)), by simp [-List.map_cons, -List.map_nil, qdg, e0, e1], ?_⟩
    cases h : (a == 1 || (a == 2 || a == 3)) <;> simp [nrm, h]
   by_cases h2 : op = 16
   ·subst h2
    refine ⟨(5, a == 5), by simp [-List.map_cons, -List.map_nil, e0, e1], ?_⟩
    cases h : (a == 5) <;> simp [nrm, h]
   have d1 : (op == 9) = false := by simpa using h1
   have d2 : (op == 16) = false := by simpa using h2
   refine ⟨(0, false), ?_, by simp [nrm, h1, h2]⟩
   cases h : (op == 19) <;> simp [-List.map_cons, -List.map_nil, d1, d2, h]
  obtain ⟨p, h1, h2⟩ := hr
  cases hg : qaJ a
  ·simp [hg]
  ·simp only [List.all_cons, List.all_nil, hg, Bool.and_self, Bool.not_true, cond_false, <- h2, nrm]
   cases hp : p.2 <;> simp [-List.map_cons, -List.map_nil, h1, hp]
 | [a, b] =>
  rw [qfG (by simp [big]), qaE, show [a, b].any (fun t => !qaJ t) = !(qaJ a && qaJ b) by simp]
  cases hg : (qaJ a && qaJ b)
  ·simp [hg]
  ·have hab := hg
   simp only [Bool.and_eq_true] at hab
   obtain ⟨q, hq1, hq2⟩ := quG (op := op) hab.1 hab.2
   have hr : qe6 op (EI [a, b]) = some q := by
    rw [qfy, qeS]
    have e0 : intOf (cellAt (EI [a, b]) 0 0) = a := rfl
    have e0' : intOf (cellAt (EI [a, b]) 1 0) = b := rfl
    have e1 : qay ksI (EI [a, b]) 0 = true := rfl
    have e1' : qay ksI (EI [a, b]) 1 = true := rfl
    cases (op == 9) <;> cases (op == 16) <;> cases (op == 19) <;> simp [-List.map_cons, -List.map_nil, e0, e0', e1, e1', hq1]
   simp only [List.all_cons, List.all_nil, hg, Bool.and_true, Bool.not_true, cond_false, <- hq2, nrm]
   cases hp : q.2 <;> simp [-List.map_cons, -List.map_nil, hr, hp]
 | [a, b, c] =>
  rw [qfG (by simp [big]), qaE, show [a, b, c].any (fun t => !qaJ t) = !(qaJ a && (qaJ b && qaJ c)) by simp]
  cases hg : (qaJ a && (qaJ b && qaJ c))
  ·simp [hg]
  ·have hr : ∃ p, qe6 op (EI [a, b, c]) = some p /\ nrm p = qxc op a b c := by
    rw [qfy, qeS]
    have e0 : intOf (cellAt (EI [a, b, c]) 0 0) = a := rfl
    have e1 : intOf (cellAt (EI [a, b, c]) 1 0) = b := rfl
    have e2 : intOf (cellAt (EI [a, b, c]) 2 0) = c := rfl
    have d0 : qay ksI (EI [a, b, c]) 0 = true := rfl
    have d1 : qay ksI (EI [a, b, c]) 1 = true := rfl
    have d2 : qay ksI (EI [a, b, c]) 2 = true := rfl
    unfold qxc
    cases h9 : (op == 9) <;> cases h16 : (op == 16) <;> cases h19 : (op == 19) <;> cases h5 : (a == 5) <;> cases hbc : (b == c) <;> simp [-List.map_cons, -List.map_nil, e0, e1, e2, d0, d1, d2, h5, hbc, nrm]
   obtain ⟨p, h1, h2⟩ := hr
   simp only [List.all_cons, List.all_nil, hg, Bool.and_true, Bool.not_true, cond_false, <- h2, nrm]
   cases hp : p.2 <;> simp [-List.map_cons, -List.map_nil, h1, hp]
theorem qzv {vs : List Va} (hl : vs.length <= big) (s : Bs) : qou (s, EV vs, (vs.length : Int), 0) = some (qf0 (fun v => v.name == s) (fun v => bif qaJ v.ty then 1 else 0) 2 vs, s, EV vs, (vs.length : Int), ((vs.findIdx (fun v => v.name == s) : Nat) : Int)) := by
 rw [qr0]
 refine qaC (hd := fun i => (s, EV vs, (vs.length : Int), (i : Int))) _ _ 2 (fun i hn => ?_) ?_
 ·simp only [qmn, qmo, qar hn, okV hn, qv0 hn, qv1 hn, qgj, ev_br, ev_at, ev_bi_some, cond_true, qal hn hl]
  cases (vs[i].name == s) <;> cases qaJ vs[i].ty <;> rfl
 ·simp [qmn, qmo]
theorem qiX {α : Type} {l : List α} {p : α -> Bool} {x : α} (h : l.find? p = some x) : ∃ h' : l.findIdx p < l.length, l[l.findIdx p] = x := by
 have hlt : l.findIdx p < l.length := List.findIdx_lt_length.2 ⟨x, List.mem_of_find?_eq_some h, List.find?_some h⟩
 refine ⟨hlt, ?_⟩
 rw [List.find?_eq_getElem?_findIdx, List.getElem?_eq_getElem hlt] at h
 exact Option.some.inj h
theorem qy5 {vs : List Va} (hl : vs.length <= big) (s : Bs) : qnS s (EV vs) = some (qmU vs s) := by
 rw [qD8, qqn, List.length_map, qzv hl]
 unfold qmU qf0
 cases hf : vs.find? (fun v => v.name == s) with
 | none => rfl
 | some v =>
  obtain ⟨h1, h2⟩ := qiX hf
  have hq := qv1 h1
  rw [h2] at hq
  simp only
  cases hg : qaJ v.ty
  ·simp
  ·simp [-List.map_cons, hq]
theorem qu3 {vs : List Va} (hl : vs.length <= big) (o n : Int) (s : Bs) (A : List AV) : qfk (EV vs, 0, o, n, s, A) = some (qf0 (fun v => v.name == s) (fun v => bif qaJ v.ty then 0 else 1) 2 vs, EV vs, ((vs.findIdx (fun v => v.name == s) : Nat) : Int), o, n, s, A) := by
 rw [qot]
 refine qaC (hd := fun i => (EV vs, (i : Int), o, n, s, A)) _ _ 2 (fun i hn => ?_) ?_
 ·simp only [qhl, qiv, List.length_map, qar hn, okV hn, qv0 hn, qv1 hn, qgu, ev_br, ev_at, ev_bi_some, cond_true, qal hn hl]
  cases (vs[i].name == s) <;> cases qaJ vs[i].ty <;> rfl
 ·simp [qhl, qiv]
def hdP (vs : List Va) (l : List Ex) (i : Int) (o n : Int) (s : Bs) : List Int -> qby
 | [] => .inl (EV vs, EX l, (l.length : Int), i, o, n, s, EX l)
 | acc => .inr (EV vs, EX l, (l.length : Int), i, o, n, s, EX l, EI acc)
def hdQ (vs : List Va) (l : List Ex) (i : Int) (o n : Int) (s : Bs) : List Int -> qbz
 | [] => .inl (EV vs, i, o, n, s, EX l)
 | acc => .inr (EV vs, i, o, n, s, EX l, EI acc)
noncomputable def ofT (G : Int -> Int -> List UInt8 -> List AV -> List AV -> Option qhB) (y : Option (Nat × qby)) : DT qhB :=
     (.bi (pj 0 y) (fun y0 =>
      .at ((0, (gv
    (G (intOf (cellAt (sl y0).snd.fst (sl y0).snd.snd.snd.fst 0)) (intOf (cellAt (sl y0).snd.fst (sl y0).snd.snd.snd.fst 1))
      (strOf (cellAt (sl y0).snd.fst (sl y0).snd.snd.snd.fst 2)) (qaj (cellAt (sl y0).snd.fst (sl y0).snd.snd.snd.fst 3)) (sl y0).fst)).snd)))
      (.bi (pj 1 y) (fun y0 =>
       .bi (qb4 (sl y0).snd.snd.snd.snd.fst []) (fun y1 =>
        .br (!y1.snd) (.at ((0, 3))) (.at ((y1.fst, 0))))
        (.no))
       (.bi (pj 2 y) (fun y0 =>
        .at ((0, (gv
    (G (intOf (cellAt (sr y0).snd.fst (sr y0).snd.snd.snd.fst 0)) (intOf (cellAt (sr y0).snd.fst (sr y0).snd.snd.snd.fst 1))
      (strOf (cellAt (sr y0).snd.fst (sr y0).snd.snd.snd.fst 2)) (qaj (cellAt (sr y0).snd.fst (sr y0).snd.snd.snd.fst 3)) (sr y0).fst)).snd)))
        (.bi (pj 3 y) (fun y0 =>
         .bi (qb4 (sr y0).snd.snd.snd.snd.fst (sr y0).snd.snd.snd.snd.snd.snd.snd.snd) (fun y1 =>
          .br (!y1.snd) (.at ((0, 3))) (.at ((y1.fst, 0))))
          (.no))
         (.no)))))
theorem q16 (G : Int -> Int -> List UInt8 -> List AV -> List AV -> Option qhB) (x0 x1 : Int) (x2 : Bs) (x3 x4 : List AV) : qp8 G x0 x1 x2 x3 x4 =
  .br (x0 == 1) (.at ((1, 0))) (.br (x0 == 2) (.at ((2, 0))) (.br (x0 == 3) (.at ((3, 0))) (.br (x0 == 4) (.bi (qnS x2 x4) (fun y0 => .at ((y0.fst, y0.snd))) .no)
   (ofT G (qfj G (.inl (x4, x3, (x3.length : Int), 0, x0, x1, x2, x3))))))) := rfl
def qAk (op : Int) (acc : List Int) (p : List Int × Int) : Int × Int := qAl op (acc ++ p.1, p.2)
theorem qq4 {vs : List Va} (hv : vs.length <= big) : ∀ (e : Ex), e.nodes <= 1000000 -> ∀ n, e.dep <= n -> qbR n e.op e.num e.txt (EX e.args) (EV vs) = some (e.ty vs) := by
 intro e
 induction e using Ex.ind with
 | h o n s l ih =>
  intro h m hm
  simp only [Ex.dep] at hm
  have hll := Ex.nodesL_len l
  simp only [Ex.nodes] at h
  cases m with
  | zero => omega
  | succ k =>
   have key : ∀ (r i : Nat) (acc : List Int), i + r = l.length -> acc.length + (l.drop i).length <= 1000000 -> (ofT (qbR k) (qfj (qbR k) (hdP vs l (i : Int) o n s acc))).ev = some (qAk o acc (Ex.tys vs (l.drop i))) := by
    intro r
    induction r with
    | zero =>
     intro i acc hi _
     have : i = l.length := by omega
     subst this
     rw [qfE, List.drop_length]
     have hres := fun (acc : List Int) (ha : acc.length <= big) => qhZ ha o
     cases acc with
     | nil =>
      rw [qag (j := 1)]
      ·have h0 : qb4 o [] = some (qa0 o []) := hres [] (by simp [big])
       simp (decide := true) only [ofT, hdP, pj_some, if_true, if_false, ev_bi_none, ev_bi_some, sl_inl, h0, ev_br, ev_at, qAk, qAl, Ex.tys, List.append_nil]
       cases (qa0 o []).2 <;> rfl
      ·simp [hdP, qcr, qfS]
     | cons a acc =>
      rw [qag (j := 3)]
      ·have h0 := hres (a :: acc) (by simp [big] at *; omega)
       simp (decide := true) only [ofT, hdP, pj_some, if_true, if_false, ev_bi_none, ev_bi_some, sr_inr, h0, ev_br, ev_at, qAk, qAl, Ex.tys, List.append_nil]
       cases (qa0 o (a :: acc)).2 <;> rfl
      ·simp [hdP, qcr, qfT]
    | succ r ihr =>
     intro i acc hi hb
     have hn : i < l.length := by omega
     have hx : l[i] ∈ l := List.getElem_mem hn
     have h1 := Ex.nodesL_mem hx
     have h2 := Ex.depL_mem hx
     have hg := ih l[i] hx (by omega) k (by omega)
     rw [drop_at hn] at hb ⊢
     simp only [List.length_cons] at hb
     have hroom : room (acc.length + 1) 8 = true := qcA (by simp only [lim]; omega)
     cases he : ((Ex.ty vs l[i]).2 != 0)
     ·have hst : (qcr (qbR k) (hdP vs l (i : Int) o n s acc)).ev = some (.next (hdP vs l ((i + 1 : Nat) : Int) o n s (acc ++ [(Ex.ty vs l[i]).1]))) := by
       cases acc with
       | nil => simp only [hdP, qcr, Sum.elim_inl, qfS, qar hn, okX hn, qx0 hn, qx1 hn, qx2 hn, qx3 hn, hg, he, ev_br, ev_at, ev_bi_some, cond_true, cond_false, qal hn (show l.length <= big by simp only [big]; omega)]; rfl
       | cons a acc =>
        simp only [List.length_cons] at hroom
        simp only [hdP, qcr, Sum.elim_inr, qfT, qar hn, okX hn, qx0 hn, qx1 hn, qx2 hn, qx3 hn, hg, he, ev_br, ev_at, ev_bi_some, cond_true, cond_false, qal hn (show l.length <= big by simp only [big]; omega), List.length_map, List.length_cons, hroom]
        simp [hdP]
      have ihn := ihr (i + 1) (acc ++ [(Ex.ty vs l[i]).1]) (by omega) (by simp only [List.length_append, List.length_cons, List.length_nil]; omega)
      rw [qfE] at ihn ⊢
      rw [qaw hst, ihn]
      congr 1
      simp only [Ex.tys, he, cond_false, qAk, qAl]
      cases hz : ((Ex.tys vs (l.drop (i + 1))).2 != 0)
      ·simp at hz; simp [hz]
      ·simp [hz]
     ·have hfin : ∀ a : List Int, qAk o a (Ex.tys vs (l[i] :: l.drop (i + 1))) = (0, (Ex.ty vs l[i]).2) := by
       intro a
       simp only [Ex.tys, he, cond_true, qAk, qAl]
      rw [hfin, qfE]
      cases acc with
      | nil =>
       rw [qag (j := 0)]
       ·simp (decide := true) only [ofT, hdP, pj_some, if_true, ev_bi_some, sl_inl, qx0 hn, qx1 hn, qx2 hn, qx3 hn, hg, gv_some, ev_at]
       ·simp only [hdP, qcr, Sum.elim_inl, qfS, qar hn, okX hn, qx0 hn, qx1 hn, qx2 hn, qx3 hn, hg, he, ev_br, ev_at, ev_bi_some, cond_true]
      | cons a acc =>
       rw [qag (j := 2)]
       ·simp (decide := true) only [ofT, hdP, pj_some, if_true, if_false, ev_bi_none, ev_bi_some, sr_inr, qx0 hn, qx1 hn, qx2 hn, qx3 hn, hg, gv_some, ev_at]
       ·simp only [hdP, qcr, Sum.elim_inr, qfT, qar hn, okX hn, qx0 hn, qx1 hn, qx2 hn, qx3 hn, hg, he, ev_br, ev_at, ev_bi_some, cond_true]
   show qbR (k + 1) o n s (EX l) (EV vs) = some ((Ex.mk o n s l).ty vs)
   simp only [qbR, q16, ev_br, ev_at, qy5 hv, ev_bi_some, Ex.ty]
   by_cases h1 : o = 1
   ·subst h1; rfl
   by_cases h2 : o = 2
   ·subst h2; rfl
   by_cases h3 : o = 3
   ·subst h3; rfl
   by_cases h4 : o = 4
   ·subst h4; rfl
   have e1 : (o == 1) = false := by simpa using h1
   have e2 : (o == 2) = false := by simpa using h2
   have e3 : (o == 3) = false := by simpa using h3
   have e4 : (o == 4) = false := by simpa using h4
   rw [e1, e2, e3, e4]
   simp only [cond_false, h1, h2, h3, h4, if_false, List.length_map]
   exact key l.length 0 [] (by omega) (by simp; omega)
theorem quw {vs : List Va} (hv : vs.length <= big) {e : Ex} (h : e.nodes <= 1000000) : qpo e.op e.num e.txt (EX e.args) (EV vs) = some (e.ty vs) := qb2 (qq4 hv e h)
noncomputable def ofU (G : Int -> Int -> List UInt8 -> List AV -> List AV -> Option qgd) (y : Option (Nat × qbz)) : DT qgd :=
     (.bi (pj 0 y) (fun y0 =>
      .at ((0, (gv
    (G (intOf (cellAt (sl y0).snd.snd.snd.snd.snd (sl y0).snd.fst 0)) (intOf (cellAt (sl y0).snd.snd.snd.snd.snd (sl y0).snd.fst 1))
      (strOf (cellAt (sl y0).snd.snd.snd.snd.snd (sl y0).snd.fst 2)) (qaj (cellAt (sl y0).snd.snd.snd.snd.snd (sl y0).snd.fst 3)) (sl y0).fst)).snd)))
      (.bi (pj 1 y) (fun y0 =>
       .bi (qbU (sl y0).snd.snd.fst []) (fun y1 =>
        .br (!y1.snd) (.at ((0, 3))) (.at ((y1.fst, 0))))
        (.no))
       (.bi (pj 2 y) (fun y0 =>
        .at ((0, (gv
    (G (intOf (cellAt (sr y0).snd.snd.snd.snd.snd.fst (sr y0).snd.fst 0)) (intOf (cellAt (sr y0).snd.snd.snd.snd.snd.fst (sr y0).snd.fst 1))
      (strOf (cellAt (sr y0).snd.snd.snd.snd.snd.fst (sr y0).snd.fst 2)) (qaj (cellAt (sr y0).snd.snd.snd.snd.snd.fst (sr y0).snd.fst 3)) (sr y0).fst)).snd)))
        (.bi (pj 3 y) (fun y0 =>
         .bi (qbU (sr y0).snd.snd.fst (sr y0).snd.snd.snd.snd.snd.snd) (fun y1 =>
          .br (!y1.snd) (.at ((0, 3))) (.at ((y1.fst, 0))))
          (.no))
         (.no)))))
noncomputable def ofW (y : Option (Nat × qcn)) : DT qgd :=
     (.bi (pj 0 y) (fun y0 =>
      .at ((intOf (cellAt y0.fst y0.snd.fst 1), 0)))
      (.bi (pj 1 y) (fun y0 =>
       .at ((0, 3)))
       (.bi (pj 2 y) (fun y0 =>
        .at ((0, 4)))
        (.no))))
theorem q17 (G : Int -> Int -> List UInt8 -> List AV -> List AV -> Option qgd) (x0 x1 : Int) (x2 : Bs) (x3 x4 : List AV) : qqc G x0 x1 x2 x3 x4 =
  .br (x0 == 1) (.at ((1, 0))) (.br (x0 == 2) (.at ((2, 0))) (.br (x0 == 3) (.at ((3, 0))) (.br (x0 == 4) (ofW (qfk (x4, 0, x0, x1, x2, x3)))
   (ofU G (qfl G (.inl (x4, 0, x0, x1, x2, x3))))))) := rfl
theorem qWb {vs : List Va} (hl : vs.length <= big) (o n : Int) (s : Bs) (A : List AV) : (ofW (qfk (EV vs, 0, o, n, s, A))).ev = some (qmU vs s) := by
 rw [qu3 hl]
 unfold qmU qf0 ofW
 cases hf : vs.find? (fun v => v.name == s) with
 | none => rfl
 | some v =>
  obtain ⟨h1, h2⟩ := qiX hf
  have hq := qv1 h1
  rw [h2] at hq
  simp only
  cases hg : qaJ v.ty
  ·simp
  ·simp [-List.map_cons, hq]
theorem qxm {vs : List Va} (hv : vs.length <= big) : ∀ (e : Ex), e.nodes <= 1000000 -> ∀ n, e.dep <= n -> qbS n e.op e.num e.txt (EX e.args) (EV vs) = some (e.ty vs) := by
 intro e
 induction e using Ex.ind with
 | h o n s l ih =>
  intro h m hm
  simp only [Ex.dep] at hm
  have hll := Ex.nodesL_len l
  simp only [Ex.nodes] at h
  cases m with
  | zero => omega
  | succ k =>
   have key : ∀ (r i : Nat) (acc : List Int), i + r = l.length -> acc.length + (l.drop i).length <= 1000000 -> (ofU (qbS k) (qfl (qbS k) (hdQ vs l (i : Int) o n s acc))).ev = some (qAk o acc (Ex.tys vs (l.drop i))) := by
    intro r
    induction r with
    | zero =>
     intro i acc hi _
     have : i = l.length := by omega
     subst this
     rw [qfF, List.drop_length]
     have hres := fun (acc : List Int) => qeI acc o
     cases acc with
     | nil =>
      rw [qag (j := 1)]
      ·have h0 : qbU o [] = some (qa0 o []) := hres []
       simp (decide := true) only [ofU, hdQ, pj_some, if_true, if_false, ev_bi_none, ev_bi_some, sl_inl, h0, ev_br, ev_at, qAk, qAl, Ex.tys, List.append_nil]
       cases (qa0 o []).2 <;> rfl
      ·simp [hdQ, qct, qfU]
     | cons a acc =>
      rw [qag (j := 3)]
      ·have h0 := hres (a :: acc)
       simp (decide := true) only [ofU, hdQ, pj_some, if_true, if_false, ev_bi_none, ev_bi_some, sr_inr, h0, ev_br, ev_at, qAk, qAl, Ex.tys, List.append_nil]
       cases (qa0 o (a :: acc)).2 <;> rfl
      ·simp [hdQ, qct, qfV]
    | succ r ihr =>
     intro i acc hi hb
     have hn : i < l.length := by omega
     have hx : l[i] ∈ l := List.getElem_mem hn
     have h1 := Ex.nodesL_mem hx
     have h2 := Ex.depL_mem hx
     have hg := ih l[i] hx (by omega) k (by omega)
     rw [drop_at hn] at hb ⊢
     simp only [List.length_cons] at hb
     have hroom : room (acc.length + 1) 8 = true := qcA (by simp only [lim]; omega)
     cases he : ((Ex.ty vs l[i]).2 != 0)
     ·have hst : (qct (qbS k) (hdQ vs l (i : Int) o n s acc)).ev = some (.next (hdQ vs l ((i + 1 : Nat) : Int) o n s (acc ++ [(Ex.ty vs l[i]).1]))) := by
       cases acc with
       | nil => simp only [hdQ, qct, Sum.elim_inl, qfU, List.length_map, qar hn, okX hn, qx0 hn, qx1 hn, qx2 hn, qx3 hn, hg, he, ev_br, ev_at, ev_bi_some, cond_true, cond_false, qal hn (show l.length <= big by simp only [big]; omega)]; rfl
       | cons a acc =>
        simp only [List.length_cons] at hroom
        simp only [hdQ, qct, Sum.elim_inr, qfV, qar hn, okX hn, qx0 hn, qx1 hn, qx2 hn, qx3 hn, hg, he, ev_br, ev_at, ev_bi_some, cond_true, cond_false, qal hn (show l.length <= big by simp only [big]; omega), List.length_map, List.length_cons, hroom]
        simp [hdQ]
      have ihn := ihr (i + 1) (acc ++ [(Ex.ty vs l[i]).1]) (by omega) (by simp only [List.length_append, List.length_cons, List.length_nil]; omega)
      rw [qfF] at ihn ⊢
      rw [qaw hst, ihn]
      congr 1
      simp only [Ex.tys, he, cond_false, qAk, qAl]
      cases hz : ((Ex.tys vs (l.drop (i + 1))).2 != 0)
      ·simp at hz; simp [hz]
      ·simp [hz]
     ·have hfin : ∀ a : List Int, qAk o a (Ex.tys vs (l[i] :: l.drop (i + 1))) = (0, (Ex.ty vs l[i]).2) := by
       intro a
       simp only [Ex.tys, he, cond_true, qAk, qAl]
      rw [hfin, qfF]
      cases acc with
      | nil =>
       rw [qag (j := 0)]
       ·simp (decide := true) only [ofU, hdQ, pj_some, if_true, ev_bi_some, sl_inl, qx0 hn, qx1 hn, qx2 hn, qx3 hn, hg, gv_some, ev_at]
       ·simp only [hdQ, qct, Sum.elim_inl, qfU, List.length_map, qar hn, okX hn, qx0 hn, qx1 hn, qx2 hn, qx3 hn, hg, he, ev_br, ev_at, ev_bi_some, cond_true]
      | cons a acc =>
       rw [qag (j := 2)]
       ·simp (decide := true) only [ofU, hdQ, pj_some, if_true, if_false, ev_bi_none, ev_bi_some, sr_inr, qx0 hn, qx1 hn, qx2 hn, qx3 hn, hg, gv_some, ev_at]
       ·simp only [hdQ, qct, Sum.elim_inr, qfV, List.length_map, qar hn, okX hn, qx0 hn, qx1 hn, qx2 hn, qx3 hn, hg, he, ev_br, ev_at, ev_bi_some, cond_true]
   show qbS (k + 1) o n s (EX l) (EV vs) = some ((Ex.mk o n s l).ty vs)
   simp only [qbS, q17, ev_br, ev_at, qWb hv, ev_bi_some, Ex.ty]
   by_cases h1 : o = 1
   ·subst h1; rfl
   by_cases h2 : o = 2
   ·subst h2; rfl
   by_cases h3 : o = 3
   ·subst h3; rfl
   by_cases h4 : o = 4
   ·subst h4; rfl
   have e1 : (o == 1) = false := by simpa using h1
   have e2 : (o == 2) = false := by simpa using h2
   have e3 : (o == 3) = false := by simpa using h3
   have e4 : (o == 4) = false := by simpa using h4
   rw [e1, e2, e3, e4]
   simp only [cond_false, h1, h2, h3, h4, if_false]
   exact key l.length 0 [] (by omega) (by simp; omega)
theorem quK {vs : List Va} (hv : vs.length <= big) {e : Ex} (h : e.nodes <= 1000000) : qpp e.op e.num e.txt (EX e.args) (EV vs) = some (e.ty vs) := qb2 (qxm hv e h)
theorem qgs {vs : List Va} (hv : vs.length <= big) {e : Ex} (h : e.nodes <= big) : qhN e.op e.num e.txt (EX e.args) (EV vs) = some (ofS e vs) := by
 rw [qyt, qjL, qnY h]
 unfold ofS
 cases hz : (qbJ e != 0)
 ·have hz' : qbJ e = 0 := by simpa using hz
  have := (qoJ hz').1
  simp [hz, quw hv (e := e) (by omega)]
 ·simp [hz]
theorem quJ {vs : List Va} (hv : vs.length <= big) {e : Ex} (hw : Wd e) : qll e.op e.num e.txt (EX e.args) (EV vs) = some (ofS e vs) := by
 rw [qy0, qki, qzi hw]
 unfold ofS
 cases hz : (qbJ e != 0)
 ·have hz' : qbJ e = 0 := by simpa using hz
  have := (qoJ hz').1
  simp [hz, quK hv (e := e) (by omega)]
 ·simp [hz]
theorem qzE {vs : List Va} (hl : vs.length <= big) {n : Nat} (hn : n <= vs.length) (A B : List AV) (x y : Int) (s : Bs) (t : Int) : qsd (A, B, x, y, EV (vs.take n), (n : Int), 0, s, t) = some (qf0 (fun w => w.name == s) (fun _ => 0) 1 (vs.take n), A, B, x, y, EV (vs.take n), (n : Int), (((vs.take n).findIdx (fun w => w.name == s) : Nat) : Int), s, t) := by
 have hlen : (vs.take n).length = n := by rw [List.length_take]; omega
 rw [qse]
 refine qaC (hd := fun i => (A, B, x, y, EV (vs.take n), (n : Int), (i : Int), s, t)) (jx := fun _ => 0) _ 1 (fun i hi => ?_) ?_
 ·have hi' : i < n := by omega
  simp only [qmH, qmI, qar hi', okV hi, qv0 hi, ev_br, ev_at, cond_true, qal hi' (show n <= big by omega)]
  cases ((vs.take n)[i].name == s) <;> rfl
 ·rw [hlen]; simp [qmH, qmI]
theorem quL (s : Bs) : qln 4 0 s [] = some (bif qoK s then 0 else 4) := by
 have := qnY (e := .mk 4 0 s []) (by simp [Ex.nodes, Ex.nodesL, big])
 rw [qTJ] at this
 exact this
theorem qzD {vs : List Va} (hl : vs.length <= big) : ∃ w, qlG (EV vs, EV vs, (vs.length : Int), 0) = some (eV vs, w) := by
 rw [qsc]
 refine ⟨_, qb1 (N := vs.length) (hd := fun i => (EV vs, EV vs, (vs.length : Int), (i : Int))) (jx := qeY vs) _ 3 (fun i hn => ?_) ?_⟩
 ·have htk : List.take (i : Int).toNat (EV vs) = EV (vs.take i) := by simp [List.map_take]
  have hlen : ((EV (vs.take i)).length : Int) = (i : Int) := by simp; omega
  have hs := qzE hl (Nat.le_of_lt hn) (EV vs) (EV vs) (vs.length : Int) (i : Int) vs[i].name vs[i].ty
  rw [qaE] at hs
  have hle : leB (i : Int) (EV vs).length = true := qaF (by simp; omega)
  have hwr : qeY vs i = bif !qoK vs[i].name then 0 else bif (vs.take i).any (fun w => w.name == vs[i].name) then 1 else bif !qaJ vs[i].ty then 2 else 9 := by
   unfold qeY; rw [List.getElem?_eq_getElem hn]
  simp only [qmF, qmG, qar hn, okV hn, qv0 hn, qv1 hn, quL, ev_br, ev_at, ev_bi_some, cond_true, htk, hlen, hs, hle, Bool.and_true, hwr]
  cases qoK vs[i].name
  ·rfl
  ·cases (vs.take i).any (fun w => w.name == vs[i].name)
   ·simp (decide := true) only [pj_some, cond_false, cond_true, if_false, if_true, Bool.not_true, ev_bi_none, ev_bi_some, qgj, ev_br, ev_at, qal hn hl]
    cases qaJ vs[i].ty <;> rfl
   ·rfl
 ·simp [qmF, qmG]
theorem qvt (vs : List Va) : eV vs = 0 \/ eV vs = 1 \/ eV vs = 2 \/ eV vs = 3 := by
 unfold eV qf0
 cases hf : (List.range vs.length).find? (fun n => qeY vs n != 9) with
 | none => simp
 | some n =>
  have := List.find?_some hf
  simp only
  rcases qsG vs n with h | h | h | h
  ·exact .inl h
  ·exact .inr (.inl h)
  ·exact .inr (.inr (.inl h))
  ·rw [h] at this; cases this
theorem qgl {vs : List Va} (hl : vs.length <= big) : qhJ (EV vs) = some (qdv vs) := by
 obtain ⟨w, hw⟩ := qzD hl
 rw [qxX, qjj, List.length_map, hw, qdv]
 by_cases h : vs.length > 64
 ·rw [if_pos h, decide_eq_true (by omega)]; rfl
 ·rw [if_neg h, decide_eq_false (by omega)]
  rcases qvt vs with h | h | h | h <;> rw [h] <;> simp
theorem qu1 {vs : List Va} (hl : vs.length <= big) {n : Nat} (hn : n < vs.length) : qlA (EV vs, (n : Int), 0) = some (qf0 (fun w => w.name == vs[n].name) (fun _ => 0) 1 (vs.take n), EV vs, (n : Int), (((vs.take n).findIdx (fun w => w.name == vs[n].name) : Nat) : Int)) := by
 have hlen : (vs.take n).length = n := by rw [List.length_take]; omega
 rw [qop]
 refine qaC (hd := fun i => (EV vs, (n : Int), (i : Int))) (jx := fun _ => 0) _ 1 (fun i hi => ?_) ?_
 ·have hi' : i < n := by omega
  have hi2 : i < vs.length := by omega
  simp only [qhh, qit, qar hi', okV hi2, okV hn, qv0 hi2, qv0 hn, ev_br, ev_at, cond_true, qal hi' (show n <= big by omega), List.getElem_take]
  cases (vs[i].name == vs[n].name) <;> rfl
 ·rw [hlen]; simp [qhh, qit]
theorem qu0 {vs : List Va} (hl : vs.length <= big) : ∃ w, qgE (EV vs, 0) = some (eV vs, w) := by
 rw [qoo]
 refine ⟨_, qb1 (N := vs.length) (hd := fun i => (EV vs, (i : Int))) (jx := qeY vs) _ 3 (fun i hn => ?_) ?_⟩
 ·have hs := qu1 hl hn
  rw [qaE] at hs
  have hwr : qeY vs i = bif !qoK vs[i].name then 0 else bif (vs.take i).any (fun w => w.name == vs[i].name) then 1 else bif !qaJ vs[i].ty then 2 else 9 := by
   unfold qeY; rw [List.getElem?_eq_getElem hn]
  simp only [qhg, qis, List.length_map, qar hn, okV hn, qv0 hn, qv1 hn, qn6, ev_br, ev_at, ev_bi_some, cond_true, hs, hwr]
  cases qoK vs[i].name
  ·rfl
  ·cases (vs.take i).any (fun w => w.name == vs[i].name)
   ·simp (decide := true) only [pj_some, cond_false, cond_true, if_false, if_true, Bool.not_true, ev_bi_none, ev_bi_some, okV hn, qv1 hn, qgu, ev_br, ev_at, qal hn hl]
    cases qaJ vs[i].ty <;> rfl
   ·rfl
 ·simp [qhg, qis]
theorem qk7 {vs : List Va} (hl : vs.length <= big) : qhP (EV vs) = some (qdv vs) := by
 obtain ⟨w, hw⟩ := qu0 hl
 rw [qyD, qjV, List.length_map, hw, qdv]
 by_cases h : vs.length > 64
 ·rw [if_pos h, decide_eq_true (by omega)]; rfl
 ·rw [if_neg h, decide_eq_false (by omega)]
  rcases qvt vs with h | h | h | h <;> rw [h] <;> simp
end Go.Proofs.H13

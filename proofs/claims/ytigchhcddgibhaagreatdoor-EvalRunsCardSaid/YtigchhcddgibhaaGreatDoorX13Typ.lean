/- Types of expressions: what the printed functions come to. -/
import Derived.Test.YtigchhcddgibhaaGreatDoorX13Ref
import Derived.Test.YtigchhcddgibhaaGreatDoorTyA
set_option linter.unusedVariables false
set_option linter.unusedSimpArgs false
set_option linter.unnecessarySimpa false
namespace Go.Proofs.H13
open Go Go.Eng Go.Tk
set_option maxRecDepth 20000
theorem qgj (x : Int) : qgi x = some (qaJ x) := by
 rw [qxL, qi9]; by_cases h : x >= 1 <;> simp [qaJ, h]
theorem qgu (x : Int) : qgt x = some (qaJ x) := by
 rw [qyC, qjU]; by_cases h : x >= 1 <;> simp [qaJ, h]
theorem qum (op a : Int) : ∃ p, qkV op a = some p /\ nrm p = qTR op a := by
 rw [qyf, qjx]
 unfold qTR
 by_cases h1 : op = 16
 ·subst h1
  exact ⟨_, rfl, by cases h : (a == 5) <;> simp [nrm, h]⟩
 by_cases h2 : op = 9
 ·subst h2
  refine ⟨(a, a == 1 || (a == 2 || a == 3)), ?_, ?_⟩
  ·cases h : (a == 1) <;> cases h' : (a == 2) <;> simp [h, h']
  ·cases h : (a == 1 || (a == 2 || a == 3)) <;> simp [nrm, h]
 have e1 : (op == 16) = false := by simpa using h1
 have e2 : (op == 9) = false := by simpa using h2
 exact ⟨(0, false), by simp [e1, e2], by simp [nrm, h1, h2]⟩
theorem qy4 : qbE = some (ariL.map q8t) := by
 rw [qD0, qvf]; rfl
theorem qun (op a b : Int) : ∃ p, qkW op a b = some p /\ nrm p = qiT op a b := by
 rw [qyg, qjy]
 by_cases h1 : op = 10
 ·subst h1; exact ⟨_, rfl, by cases h : (a == b) <;> simp [nrm, qiT, h]⟩
 by_cases h2 : op = 11
 ·subst h2; exact ⟨_, rfl, by cases h : (a == b) <;> simp [nrm, qiT, h]⟩
 by_cases h3 : op = 12
 ·subst h3; exact ⟨(5, a == b && a != 5), by cases h : (a == b) <;> simp [h], by cases h : (a == b && a != 5) <;> simp [nrm, qiT, h]⟩
 by_cases h4 : op = 13
 ·subst h4; exact ⟨(5, a == b && a != 5), by cases h : (a == b) <;> simp [h], by cases h : (a == b && a != 5) <;> simp [nrm, qiT, h]⟩
 by_cases h5 : op = 14
 ·subst h5; exact ⟨(5, a == b && a == 5), by cases h : (a == b) <;> simp [h], by cases h : (a == b && a == 5) <;> simp [nrm, qiT, h]⟩
 by_cases h6 : op = 15
 ·subst h6; exact ⟨(5, a == b && a == 5), by cases h : (a == b) <;> simp [h], by cases h : (a == b && a == 5) <;> simp [nrm, qiT, h]⟩
 by_cases h7 : op = 17
 ·subst h7; exact ⟨(a, a == b && a != 5), by cases h : (a == b) <;> simp [h], by cases h : (a == b && a != 5) <;> simp [nrm, qiT, h]⟩
 by_cases h8 : op = 18
 ·subst h8; exact ⟨(a, a == b && a != 5), by cases h : (a == b) <;> simp [h], by cases h : (a == b && a != 5) <;> simp [nrm, qiT, h]⟩
 have e1 : (op == 10) = false := by simpa using h1
 have e2 : (op == 11) = false := by simpa using h2
 have e3 : (op == 12) = false := by simpa using h3
 have e4 : (op == 13) = false := by simpa using h4
 have e5 : (op == 14) = false := by simpa using h5
 have e6 : (op == 15) = false := by simpa using h6
 have e7 : (op == 17) = false := by simpa using h7
 have e8 : (op == 18) = false := by simpa using h8
 simp only [e1, e2, e3, e4, e5, e6, e7, e8, ev_br, cond_false, qy4, ev_bi_some, zaC, zaD, qiT, h1, h2, h3, h4, h5, h6, h7, h8, or_self, if_false]
 cases hq : qOn op a b with
 | none => exact ⟨(0, false), by simp, rfl⟩
 | some t =>
  have ht := (qMy hq).1
  rw [zaG hq]
  refine ⟨(t, t != 0), rfl, ?_⟩
  have : (t != 0) = true := by simpa using ht
  simp [nrm, this]
theorem qdg (x : Int) : qb8 x = some (x == 1 || (x == 2 || x == 3)) := by
 rw [qx6, qjo]
 cases h : (x == 1) <;> cases h' : (x == 2) <;> simp [h, h']
theorem quG {op a b : Int} (ha : qaJ a = true) (hb : qaJ b = true) : ∃ p, qli op a b = some p /\ nrm p = qiT op a b := by
 rw [qyU, qkc]
 by_cases h1 : op = 5
 ·subst h1
  simp only [qdg]
  rcases qaL ha with rfl | rfl | rfl | rfl | rfl <;> rcases qaL hb with rfl | rfl | rfl | rfl | rfl <;> exact ⟨_, rfl, rfl⟩
 by_cases h2 : op = 6
 ·subst h2
  simp only [qdg]
  rcases qaL ha with rfl | rfl | rfl | rfl | rfl <;> rcases qaL hb with rfl | rfl | rfl | rfl | rfl <;> exact ⟨_, rfl, rfl⟩
 by_cases h3 : op = 7
 ·subst h3
  simp only [qxO, qjb, qdg]
  rcases qaL ha with rfl | rfl | rfl | rfl | rfl <;> rcases qaL hb with rfl | rfl | rfl | rfl | rfl <;> exact ⟨_, rfl, rfl⟩
 by_cases h4 : op = 8
 ·subst h4
  simp only [qdg]
  rcases qaL ha with rfl | rfl | rfl | rfl | rfl <;> rcases qaL hb with rfl | rfl | rfl | rfl | rfl <;> exact ⟨_, rfl, rfl⟩
 by_cases g1 : op = 10
 ·subst g1; exact ⟨_, rfl, by cases h : (a == b) <;> simp [nrm, qiT, h]⟩
 by_cases g2 : op = 11
 ·subst g2; exact ⟨_, rfl, by cases h : (a == b) <;> simp [nrm, qiT, h]⟩
 by_cases g3 : op = 12
 ·subst g3; exact ⟨(5, a == b && a != 5), by cases h : (a == b) <;> simp [h], by cases h : (a == b && a != 5) <;> simp [nrm, qiT, h]⟩
 by_cases g4 : op = 13
 ·subst g4; exact ⟨(5, a == b && a != 5), by cases h : (a == b) <;> simp [h], by cases h : (a == b && a != 5) <;> simp [nrm, qiT, h]⟩
 have hand : (a == 5 && b == 5) = (a == b && a == 5) := by
  rw [Bool.eq_iff_iff]; simp only [Bool.and_eq_true, beq_iff_eq]
  constructor
  ·rintro ⟨rfl, rfl⟩; exact ⟨rfl, rfl⟩
  ·rintro ⟨rfl, rfl⟩; exact ⟨rfl, rfl⟩
 by_cases g5 : op = 14
 ·subst g5; exact ⟨(5, a == 5 && b == 5), by cases h : (a == 5) <;> simp [h], by rw [hand]; cases h : (a == b && a == 5) <;> simp [nrm, qiT, h]⟩
 by_cases g6 : op = 15
 ·subst g6; exact ⟨(5, a == 5 && b == 5), by cases h : (a == 5) <;> simp [h], by rw [hand]; cases h : (a == b && a == 5) <;> simp [nrm, qiT, h]⟩
 by_cases g7 : op = 17
 ·subst g7; exact ⟨(a, a == b && a != 5), by cases h : (a == b) <;> simp [h], by cases h : (a == b && a != 5) <;> simp [nrm, qiT, h]⟩
 by_cases g8 : op = 18
 ·subst g8; exact ⟨(a, a == b && a != 5), by cases h : (a == b) <;> simp [h], by cases h : (a == b && a != 5) <;> simp [nrm, qiT, h]⟩
 have e1 : (op == 10) = false := by simpa using g1
 have e2 : (op == 11) = false := by simpa using g2
 have e3 : (op == 12) = false := by simpa using g3
 have e4 : (op == 13) = false := by simpa using g4
 have e5 : (op == 14) = false := by simpa using g5
 have e6 : (op == 15) = false := by simpa using g6
 have e7 : (op == 17) = false := by simpa using g7
 have e8 : (op == 18) = false := by simpa using g8
 have d1 : (op == 5) = false := by simpa using h1
 have d2 : (op == 6) = false := by simpa using h2
 have d3 : (op == 7) = false := by simpa using h3
 have d4 : (op == 8) = false := by simpa using h4
 refine ⟨(0, false), by simp only [d1, d2, d3, d4, e1, e2, e3, e4, e5, e6, e7, e8, ev_br, ev_at, cond_false], ?_⟩
 simp only [qiT, g1, g2, g3, g4, g5, g6, g7, g8, or_self, if_false]
 rw [qZL (by omega)]; rfl
theorem qzz {l : List Int} (hl : l.length <= big) (op : Int) : qr4 (op, EI l, EI l, (l.length : Int), 0) = some (qf0 (fun t => !qaJ t) (fun _ => 0) 1 l, op, EI l, EI l, (l.length : Int), ((l.findIdx (fun t => !qaJ t) : Nat) : Int)) := by
 rw [qr5]
 refine qaC (hd := fun i => (op, EI l, EI l, (l.length : Int), (i : Int))) (jx := fun _ => 0) _ 1 (fun i hn => ?_) ?_
 ·simp only [qmv, qmw, qar hn, okI hn, qi0 hn, qgj, ev_br, ev_at, ev_bi_some, cond_true, qal hn hl]
  cases qaJ l[i] <;> rfl
 ·simp [qmv, qmw]
theorem qhZ {l : List Int} (hl : l.length <= big) (op : Int) : qb4 op (EI l) = some (qa0 op l) := by
 rw [qEC, qqR, List.length_map, qzz hl, qaE, show l.any (fun t => !qaJ t) = !l.all qaJ by rw [List.any_eq_not_all_not]; simp]
 unfold qa0
 cases hg : l.all qaJ
 ·rfl
 ·simp only [Bool.not_true, cond_false, pj_some, if_true, Nat.one_ne_zero, if_false, ev_bi_none, ev_bi_some, List.length_map]
  match l with
  | [] => rfl
  | [a] =>
   obtain ⟨p, h1, h2⟩ := qum op a
   have e0 : intOf (cellAt (EI [a]) 0 0) = a := rfl
   have e1 : qay ksI (EI [a]) 0 = true := rfl
   simp only [e0, e1, h1, <- h2, nrm, ev_br, ev_bi_some, ev_at]
   cases p.2 <;> rfl
  | [a, b] =>
   obtain ⟨p, h1, h2⟩ := qun op a b
   have e0 : intOf (cellAt (EI [a, b]) 0 0) = a := rfl
   have e0' : intOf (cellAt (EI [a, b]) 1 0) = b := rfl
   have e1 : qay ksI (EI [a, b]) 0 = true := rfl
   have e1' : qay ksI (EI [a, b]) 1 = true := rfl
   simp only [e0, e0', e1, e1', h1, <- h2, nrm, ev_br, ev_bi_some, ev_at]
   cases p.2 <;> rfl
  | [a, b, c] =>
   have e0 : intOf (cellAt (EI [a, b, c]) 0 0) = a := rfl
   have e1 : intOf (cellAt (EI [a, b, c]) 1 0) = b := rfl
   have e2 : intOf (cellAt (EI [a, b, c]) 2 0) = c := rfl
   have d0 : qay ksI (EI [a, b, c]) 0 = true := rfl
   have d1 : qay ksI (EI [a, b, c]) 1 = true := rfl
   have d2 : qay ksI (EI [a, b, c]) 2 = true := rfl
   simp only [e0, e1, e2, d0, d1, d2, qxc, ev_br, ev_bi_some, ev_at]
   cases (op == 19) <;> cases (a == 5) <;> cases (b == c) <;> rfl
  | a :: b :: c :: d :: r =>
   have e1 : (((a :: b :: c :: d :: r).length : Int) == 1) = false := by simp; omega
   have e2 : (((a :: b :: c :: d :: r).length : Int) == 2) = false := by simp; omega
   have e3 : (((a :: b :: c :: d :: r).length : Int) == 3) = false := by simp; omega
   simp only [e1, e2, e3, ev_br, ev_at, cond_false]
theorem qfG {l : List Int} (hl : l.length <= big) (op : Int) : qsg (op, EI l, 0) = some (qf0 (fun t => !qaJ t) (fun _ => 0) 1 l, op, EI l, ((l.findIdx (fun t => !qaJ t) : Nat) : Int)) := by
 rw [qsh]
 refine qaC (hd := fun i => (op, EI l, (i : Int))) (jx := fun _ => 0) _ 1 (fun i hn => ?_) ?_
 ·simp only [qmJ, qmK, List.length_map, qar hn, okI hn, qi0 hn, qgu, ev_br, ev_at, ev_bi_some, cond_true, qal hn hl]
  cases qaJ l[i] <;> rfl
 ·simp [qmJ, qmK]
theorem qeI (l : List Int) (op : Int) : qbU op (EI l) = some (qa0 op l) := by
 rw [qx5, qjn]
 unfold qa0
 match l with
 | a :: b :: c :: d :: r =>
  have e1 : decide (((EI (a :: b :: c :: d :: r)).length : Int) > 3) = true := by simp; omega
  simp only [e1, ev_br, ev_at, cond_true]
  cases (a :: b :: c :: d :: r).all qaJ <;> rfl
 | [] =>
  rw [qfG (by decide)]
  have hr : qe6 op (EI []) = some (0, false) := by
   rw [qfy, qeS]
   cases (op == 9) <;> cases (op == 16) <;> cases (op == 19) <;> rfl
  simp [-List.map_nil, qf0, hr]
 | [a] =>
  rw [qfG (by simp [big]), qaE, show [a].any (fun t => !qaJ t) = !qaJ a by simp]
  have hr : ∃ p, qe6 op (EI [a]) = some p /\ nrm p = qTR op a := by
   rw [qfy, qeS]
   have e0 : intOf (cellAt (EI [a]) 0 0) = a := rfl
   have e1 : qay ksI (EI [a]) 0 = true := rfl
   unfold qTR
   by_cases h1 : op = 9
   ·subst h1
    refine ⟨(a, a == 1 || (a == 2 || a == 3)), by simp [-List.map_cons, -List.map_nil, qdg, e0, e1], ?_⟩
    cases h : (a == 1 || (a == 2 || a == 3)) <;> simp [nrm, h]
   by_cases h2 : op = 16
   ·subst h2
    refine ⟨(5, a == 5), by simp [-List.map_cons, -List.map_nil, e0, e1], ?_⟩
    cases h : (a == 5) <;> simp [nrm, h]
   have d1 : (op == 9) = false := by simpa using h1
   have d2 : (op == 16) = false := by simpa using h2
   refine ⟨(0, false), ?_, by simp [nrm, h1, h2]⟩
   cases h : (op == 19) <;> simp [-List.map_cons, -List.map_nil, d1, d2, h]
  obtain ⟨p, h1, h2⟩ := hr
  cases hg : qaJ a
  ·simp [hg]
  ·simp only [List.all_cons, List.all_nil, hg, Bool.and_self, Bool.not_true, cond_false, <- h2, nrm]
   cases hp : p.2 <;> simp [-List.map_cons, -List.map_nil, h1, hp]
 | [a, b] =>
  rw [qfG (by simp [big]), qaE, show [a, b].any (fun t => !qaJ t) = !(qaJ a && qaJ b) by simp]
  cases hg : (qaJ a && qaJ b)
  ·simp [hg]
  ·have hab := hg
   simp only [Bool.and_eq_true] at hab
   obtain ⟨q, hq1, hq2⟩ := quG (op := op) hab.1 hab.2
   have hr : qe6 op (EI [a, b]) = some q := by
    rw [qfy, qeS]
    have e0 : intOf (cellAt (EI [a, b]) 0 0) = a := rfl
    have e0' : intOf (cellAt (EI [a, b]) 1 0) = b := rfl
    have e1 : qay ksI (EI [a, b]) 0 = true := rfl
    have e1' : qay ksI (EI [a, b]) 1 = true := rfl
    cases (op == 9) <;> cases (op == 16) <;> cases (op == 19) <;> simp [-List.map_cons, -List.map_nil, e0, e0', e1, e1', hq1]
   simp only [List.all_cons, List.all_nil, hg, Bool.and_true, Bool.not_true, cond_false, <- hq2, nrm]
   cases hp : q.2 <;> simp [-List.map_cons, -List.map_nil, hr, hp]
 | [a, b, c] =>
  rw [qfG (by simp [big]), qaE, show [a, b, c].any (fun t => !qaJ t) = !(qaJ a && (qaJ b && qaJ c)) by simp]
  cases hg : (qaJ a && (qaJ b && qaJ c))
  ·simp [hg]
  ·have hr : ∃ p, qe6 op (EI [a, b, c]) = some p /\ nrm p = qxc op a b c := by
    rw [qfy, qeS]
    have e0 : intOf (cellAt (EI [a, b, c]) 0 0) = a := rfl
    have e1 : intOf (cellAt (EI [a, b, c]) 1 0) = b := rfl
    have e2 : intOf (cellAt (EI [a, b, c]) 2 0) = c := rfl
    have d0 : qay ksI (EI [a, b, c]) 0 = true := rfl
    have d1 : qay ksI (EI [a, b, c]) 1 = true := rfl
    have d2 : qay ksI (EI [a, b, c]) 2 = true := rfl
    unfold qxc
    cases h9 : (op == 9) <;> cases h16 : (op == 16) <;> cases h19 : (op == 19) <;> cases h5 : (a == 5) <;> cases hbc : (b == c) <;> simp [-List.map_cons, -List.map_nil, e0, e1, e2, d0, d1, d2, h5, hbc, nrm]
   obtain ⟨p, h1, h2⟩ := hr
   simp only [List.all_cons, List.all_nil, hg, Bool.and_true, Bool.not_true, cond_false, <- h2, nrm]
   cases hp : p.2 <;> simp [-List.map_cons, -List.map_nil, h1, hp]
theorem qzE {vs : List Va} (hl : vs.length <= big) {n : Nat} (hn : n <= vs.length) (A B : List AV) (x y : Int) (s : Bs) (t : Int) : qsd (A, B, x, y, EV (vs.take n), (n : Int), 0, s, t) = some (qf0 (fun w => w.name == s) (fun _ => 0) 1 (vs.take n), A, B, x, y, EV (vs.take n), (n : Int), (((vs.take n).findIdx (fun w => w.name == s) : Nat) : Int), s, t) := by
 have hlen : (vs.take n).length = n := by rw [List.length_take]; omega
 rw [qse]
 refine qaC (hd := fun i => (A, B, x, y, EV (vs.take n), (n : Int), (i : Int), s, t)) (jx := fun _ => 0) _ 1 (fun i hi => ?_) ?_
 ·have hi' : i < n := by omega
  simp only [qmH, qmI, qar hi', okV hi, qv0 hi, ev_br, ev_at, cond_true, qal hi' (show n <= big by omega)]
  cases ((vs.take n)[i].name == s) <;> rfl
 ·rw [hlen]; simp [qmH, qmI]
theorem quL (s : Bs) : qln 4 0 s [] = some (bif qoK s then 0 else 4) := by
 have := qnY (e := .mk 4 0 s []) (by simp [Ex.nodes, Ex.nodesL, big])
 rw [qTJ] at this
 exact this
theorem qzD {vs : List Va} (hl : vs.length <= big) : ∃ w, qlG (EV vs, EV vs, (vs.length : Int), 0) = some (eV vs, w) := by
 rw [qsc]
 refine ⟨_, qb1 (N := vs.length) (hd := fun i => (EV vs, EV vs, (vs.length : Int), (i : Int))) (jx := qeY vs) _ 3 (fun i hn => ?_) ?_⟩
 ·have htk : List.take (i : Int).toNat (EV vs) = EV (vs.take i) := by simp [List.map_take]
  have hlen : ((EV (vs.take i)).length : Int) = (i : Int) := by simp; omega
  have hs := qzE hl (Nat.le_of_lt hn) (EV vs) (EV vs) (vs.length : Int) (i : Int) vs[i].name vs[i].ty
  rw [qaE] at hs
  have hle : leB (i : Int) (EV vs).length = true := qaF (by simp; omega)
  have hwr : qeY vs i = bif !qoK vs[i].name then 0 else bif (vs.take i).any (fun w => w.name == vs[i].name) then 1 else bif !qaJ vs[i].ty then 2 else 9 := by
   unfold qeY; rw [List.getElem?_eq_getElem hn]
  simp only [qmF, qmG, qar hn, okV hn, qv0 hn, qv1 hn, quL, ev_br, ev_at, ev_bi_some, cond_true, htk, hlen, hs, hle, Bool.and_true, hwr]
  cases qoK vs[i].name
  ·rfl
  ·cases (vs.take i).any (fun w => w.name == vs[i].name)
   ·simp (decide := true) only [pj_some, cond_false, cond_true, if_false, if_true, Bool.not_true, ev_bi_none, ev_bi_some, qgj, ev_br, ev_at, qal hn hl]
    cases qaJ vs[i].ty <;> rfl
   ·rfl
 ·simp [qmF, qmG]
theorem qvt (vs : List Va) : eV vs = 0 \/ eV vs = 1 \/ eV vs = 2 \/ eV vs = 3 := by
 unfold eV qf0
 cases hf : (List.range vs.length).find? (fun n => qeY vs n != 9) with
 | none => simp
 | some n =>
  have := List.find?_some hf
  simp only
  rcases qsG vs n with h | h | h | h
  ·exact .inl h
  ·exact .inr (.inl h)
  ·exact .inr (.inr (.inl h))
  ·rw [h] at this; cases this
theorem qgl {vs : List Va} (hl : vs.length <= big) : qhJ (EV vs) = some (qdv vs) := by
 obtain ⟨w, hw⟩ := qzD hl
 rw [qxX, qjj, List.length_map, hw, qdv]
 by_cases h : vs.length > 64
 ·rw [if_pos h, decide_eq_true (by omega)]; rfl
 ·rw [if_neg h, decide_eq_false (by omega)]
  rcases qvt vs with h | h | h | h <;> rw [h] <;> simp
theorem qu1 {vs : List Va} (hl : vs.length <= big) {n : Nat} (hn : n < vs.length) : qlA (EV vs, (n : Int), 0) = some (qf0 (fun w => w.name == vs[n].name) (fun _ => 0) 1 (vs.take n), EV vs, (n : Int), (((vs.take n).findIdx (fun w => w.name == vs[n].name) : Nat) : Int)) := by
 have hlen : (vs.take n).length = n := by rw [List.length_take]; omega
 rw [qop]
 refine qaC (hd := fun i => (EV vs, (n : Int), (i : Int))) (jx := fun _ => 0) _ 1 (fun i hi => ?_) ?_
 ·have hi' : i < n := by omega
  have hi2 : i < vs.length := by omega
  simp only [qhh, qit, qar hi', okV hi2, okV hn, qv0 hi2, qv0 hn, ev_br, ev_at, cond_true, qal hi' (show n <= big by omega), List.getElem_take]
  cases (vs[i].name == vs[n].name) <;> rfl
 ·rw [hlen]; simp [qhh, qit]
theorem qu0 {vs : List Va} (hl : vs.length <= big) : ∃ w, qgE (EV vs, 0) = some (eV vs, w) := by
 rw [qoo]
 refine ⟨_, qb1 (N := vs.length) (hd := fun i => (EV vs, (i : Int))) (jx := qeY vs) _ 3 (fun i hn => ?_) ?_⟩
 ·have hs := qu1 hl hn
  rw [qaE] at hs
  have hwr : qeY vs i = bif !qoK vs[i].name then 0 else bif (vs.take i).any (fun w => w.name == vs[i].name) then 1 else bif !qaJ vs[i].ty then 2 else 9 := by
   unfold qeY; rw [List.getElem?_eq_getElem hn]
  simp only [qhg, qis, List.length_map, qar hn, okV hn, qv0 hn, qv1 hn, qn6, ev_br, ev_at, ev_bi_some, cond_true, hs, hwr]
  cases qoK vs[i].name
  ·rfl
  ·cases (vs.take i).any (fun w => w.name == vs[i].name)
   ·simp (decide := true) only [pj_some, cond_false, cond_true, if_false, if_true, Bool.not_true, ev_bi_none, ev_bi_some, okV hn, qv1 hn, qgu, ev_br, ev_at, qal hn hl]
    cases qaJ vs[i].ty <;> rfl
   ·rfl
 ·simp [qhg, qis]
theorem qk7 {vs : List Va} (hl : vs.length <= big) : qhP (EV vs) = some (qdv vs) := by
 obtain ⟨w, hw⟩ := qu0 hl
 rw [qyD, qjV, List.length_map, hw, qdv]
 by_cases h : vs.length > 64
 ·rw [if_pos h, decide_eq_true (by omega)]; rfl
 ·rw [if_neg h, decide_eq_false (by omega)]
  rcases qvt vs with h | h | h | h <;> rw [h] <;> simp
end Go.Proofs.H13

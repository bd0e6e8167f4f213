/- Chapter 13: the laws over plain data. -/
import Derived.Test.YtigchhcddgibhaaGreatDoorX13Run
import Derived.Test.YtigchhcddgibhaaGreatDoorX13Cdd
import Derived.Test.YtigchhcddgibhaaGreatDoorEvE
set_option linter.unusedVariables false
set_option linter.unusedSimpArgs false
set_option linter.unnecessarySimpa false
namespace Go.Proofs.H13
open Go Go.Eng Go.Tk
set_option maxRecDepth 20000
abbrev sE : Ex := .mk 5 0 [] [.mk 4 0 [97] [], .mk 1 2 [] []]
abbrev sV : List Va := [⟨[97], 1⟩]
abbrev sI : List In := [⟨2, 0, 0⟩, ⟨1, 1, 2⟩, ⟨3, 5, 0⟩]
theorem q4B : qca sE sV = (⟨1, sV, sI⟩, 0) := by kernel_rfl
theorem q6j : qcC sE sV [⟨1, 5⟩] = (⟨1, 7⟩, 0) := by kernel_rfl
theorem q5N : qlG ⟨1, sV, sI⟩ [⟨1, 5⟩] 3 = (⟨1, 7⟩, 0, 0) := by kernel_rfl
theorem q5M : qlG ⟨1, sV, sI⟩ [⟨1, 5⟩] 2 = (⟨0, 0⟩, 0, 8) := by kernel_rfl
theorem q3m : qa8 7 [⟨2, 250⟩, ⟨3, 10000⟩] = (⟨2, 2⟩, 0) := by kernel_rfl
theorem q3n : qa8 8 [⟨2, -7⟩, ⟨1, 2⟩] = (⟨2, -4⟩, 0) := by kernel_rfl
theorem q3o : qa8 5 [⟨4, 73048⟩, ⟨1, 1⟩] = (⟨0, 0⟩, 6) := by kernel_rfl
theorem qPI {t n : Int} : qcO t n = some (t, n) := by rw [qDN, qmH]; rfl
theorem qgs : qbb = some true := by
 have i5 : ∀ x ∈ [(⟨1, 5⟩ : Vl)], qbd x.n = true := by decide
 have a1 := qbU (op := 7) (l := [⟨2, 250⟩, ⟨3, 10000⟩]) (by decide) (by decide)
 have a2 := qbU (op := 8) (l := [⟨2, -7⟩, ⟨1, 2⟩]) (by decide) (by decide)
 have a3 := qbU (op := 5) (l := [⟨4, 73048⟩, ⟨1, 1⟩]) (by decide) (by decide)
 rw [q3m] at a1
 rw [q3n] at a2
 rw [q3o] at a3
 have h1 := qgi (vs := sV) (env := [⟨1, 5⟩]) (by decide) (by decide) i5 (e := sE) (by decide)
 rw [q6j] at h1
 have h2 := qr0 (vs := sV) (by decide) (e := sE) (by decide)
 rw [q4B] at h2
 have h3 := qeq (c := ⟨1, sV, sI⟩) (env := [⟨1, 5⟩]) (fuel := 3) (by decide) (by decide) (by decide) i5 (by decide)
 rw [q5N] at h3
 have h4 := qeq (c := ⟨1, sV, sI⟩) (env := [⟨1, 5⟩]) (fuel := 2) (by decide) (by decide) (by decide) i5 (by decide)
 rw [q5M] at h4
 have h5 := qc6 (vs := sV) (env := [⟨1, 5⟩]) (by decide)
 have h6 := qc6 (vs := sV) (env := []) (by decide)
 rw [show qhp sV [⟨1, 5⟩] = true by kernel_rfl] at h5
 rw [show qhp sV [] = false by kernel_rfl] at h6
 simp only [Ex.op, Ex.num, Ex.txt] at h1 h2
 have a1' : qaW 7 [AV.agg [AV.int IntKind.i64 2, AV.int IntKind.i64 250], AV.agg [AV.int IntKind.i64 3, AV.int IntKind.i64 10000]] = some (2, 2, 0) := a1
 have a2' : qaW 8 [AV.agg [AV.int IntKind.i64 2, AV.int IntKind.i64 (-7)], AV.agg [AV.int IntKind.i64 1, AV.int IntKind.i64 2]] = some (2, -4, 0) := a2
 have a3' : qaW 5 [AV.agg [AV.int IntKind.i64 4, AV.int IntKind.i64 73048], AV.agg [AV.int IntKind.i64 1, AV.int IntKind.i64 1]] = some (0, 0, 6) := a3
 have h1' : qgh 5 0 [] [AV.agg [AV.int IntKind.i64 4, AV.int IntKind.i64 0, AV.str [97], AV.view 4 []], AV.agg [AV.int IntKind.i64 1, AV.int IntKind.i64 2, AV.str [], AV.view 4 []]] [AV.agg [AV.str [97], AV.int IntKind.i64 1]] [AV.agg [AV.int IntKind.i64 1, AV.int IntKind.i64 5]] = some (1, 7, 0) := h1
 have h2' : qoQ 5 0 [] [AV.agg [AV.int IntKind.i64 4, AV.int IntKind.i64 0, AV.str [97], AV.view 4 []], AV.agg [AV.int IntKind.i64 1, AV.int IntKind.i64 2, AV.str [], AV.view 4 []]] [AV.agg [AV.str [97], AV.int IntKind.i64 1]] = some (1, EV sV, EN sI, 0) := h2
 have h3' : qep 1 (EV sV) (EN sI) [AV.agg [AV.int IntKind.i64 1, AV.int IntKind.i64 5]] 3 = some (1, 7, 0, 0) := h3
 have h4' : qep 1 (EV sV) (EN sI) [AV.agg [AV.int IntKind.i64 1, AV.int IntKind.i64 5]] 2 = some (0, 0, 0, 8) := h4
 have h5' : qco [AV.agg [AV.str [97], AV.int IntKind.i64 1]] [AV.agg [AV.int IntKind.i64 1, AV.int IntKind.i64 5]] = some true := h5
 have h6' : qco [AV.agg [AV.str [97], AV.int IntKind.i64 1]] [] = some false := h6
 rw [qD0, qmU]
 simp only [qPI, ev_bi_some, a1', a2', a3', h1', h2', h3', h4', h5', h6']
 rfl
theorem q8F {n : Nat} : decide ((n : Int) > 100) = decide (n > 100) := by
 by_cases h : n > 100
 ·rw [decide_eq_true h, decide_eq_true (by omega)]
 ·rw [decide_eq_false h, decide_eq_false (by omega)]
theorem qo0 {e : Ex} {vs : List Va} {env : List Vl} (hw : Wd e) : qiC e.op e.num e.txt (EX e.args) (EV vs) (EL env) = some (decide (e.nodes > 300) || (decide (vs.length > 100) || decide (env.length > 100))) := by
 have hg := qos hw (most := 300) (by omega)
 rw [show ((300 : Nat) : Int) = 300 from rfl] at hg
 rw [qDM, qmG, hg]
 simp only [ev_bi_some, List.length_map, q8F]
 cases decide (e.nodes > 300) <;> cases decide (vs.length > 100) <;> cases decide (env.length > 100) <;> rfl
theorem qpt {e : Ex} {vs : List Va} {env : List Vl} (h : (decide (e.nodes > 300) || (decide (vs.length > 100) || decide (env.length > 100))) = false) : e.nodes ≤ 300 ∧ vs.length ≤ 100 ∧ env.length ≤ 100 := by
 simp only [Bool.or_eq_false_iff, decide_eq_false_iff_not] at h
 omega
theorem bra {c d : Bool} : br c (some d) (some false) = some (c && d) := by cases c <;> rfl
theorem qfi (op : Int) {x y : Vl} (hx : qbd x.n = true) (hy : qbd y.n = true) : qaW op [AV.agg [AV.int IntKind.i64 x.ty, AV.int IntKind.i64 x.n], AV.agg [AV.int IntKind.i64 y.ty, AV.int IntKind.i64 y.n]] = some (trp (qa8 op [x, y])) :=
 qbU (l := [x, y]) (by simp) (fun z hz => by
  rcases List.mem_cons.1 hz with rfl | hz
  ·exact qcQ.2 hx
  ·rw [List.mem_singleton.1 hz]; exact qcQ.2 hy)
theorem qSA {a b : Vl} : (a.ty == b.ty && (a.n == b.n && true)) = decide (a = b) := by
 obtain ⟨s, m⟩ := a
 obtain ⟨t, n⟩ := b
 by_cases h1 : s = t
 ·by_cases h2 : m = n
  ·subst h1; subst h2; simp
  ·simp [h1, h2]
 ·simp [h1]
theorem q48 {a b : Vl} (ha : qbd a.n = true) (hb : qbd b.n = true) : (lwT a.ty a.n b.ty b.n).ev = some true := by
 obtain ⟨c1, c2⟩ := q0b (a := a) (b := b)
 obtain ⟨m1, m2⟩ := qz9 (a := a) (b := b)
 have i12 : qbd (qa8 12 [a, b]).1.n = true := qnL (fun x hx => by
   rcases List.mem_cons.1 hx with rfl | hx
   ·exact ha
   ·rw [List.mem_singleton.1 hx]; exact hb)
 rw [lwT]
 simp only [qfi 12 ha hb, qfi 13 hb ha, qfi 17 ha hb, qfi 18 ha hb, ev_bi_some, trp]
 generalize qa8 12 [a, b] = p at *
 generalize qa8 13 [b, a] = q at *
 generalize qa8 17 [a, b] = u at *
 generalize qa8 18 [a, b] = v at *
 have e1 : (p.2 != q.2) = false := by simpa using c1
 have e2 : br (p.2 == 0) (some (IntKind.i64.wrap (p.1.n + q.1.n) != 1)) (some false) = some false := by
  by_cases h : p.2 = 0
  ·rw [c2 h]
   cases (p.2 == 0) <;> rfl
  ·rw [show (p.2 == 0) = false by simpa using h]; rfl
 rw [e1, e2]
 simp only [br_eq, cond_false, ev_bi_some, ev_br]
 have e3 : (u.2 == v.2) = true := by simpa using m1
 rw [e3]
 by_cases h : u.2 = 0
 ·obtain ⟨k1, k2⟩ := m2 h
  have e4 : (u.2 != 0) = false := by simpa using h
  rw [e4, decide_eq_true k1]
  simp only [cond_true, cond_false, Bool.false_eq_true, if_false, qSA, qgs, sm_some, gv_some]
  rcases k2 with ⟨k3, k4⟩ | ⟨k3, k4⟩
  ·rw [decide_eq_true k3, decide_eq_true k4]; rfl
  ·rw [decide_eq_true k3, decide_eq_true k4]
   cases decide (u.1 = a) <;> cases decide (v.1 = b) <;> rfl
 ·have e4 : (u.2 != 0) = true := by simpa using h
  rw [e4]
  simp only [cond_true, qgs, sm_some, gv_some, ev_bi_some, ev_at]
theorem qRf {a b : Vl} (ha : qbd a.n = true) (hb : qbd b.n = true) : qAS a.ty a.n b.ty b.n = some true := by
 have hs64 : qbd (qa8 6 [a, b]).1.n = true := qnL (fun x hx => by
   rcases List.mem_cons.1 hx with rfl | hx
   ·exact ha
   ·rw [List.mem_singleton.1 hx]; exact hb)
 have t7' := qfi 7 hb ha
 rw [← qxc] at t7'
 rw [qKc, qvz]
 simp only [qfi 5 ha hb, qfi 5 hb ha, qfi 7 ha hb, t7', qfi 6 ha hb, ev_bi_some, trp, if_true]
 have e1 : br (a.ty == b.ty) (br (!((qa8 5 [a, b]).1.ty == (qa8 5 [b, a]).1.ty && ((qa8 5 [a, b]).1.n == (qa8 5 [b, a]).1.n && true))) (some true) (some ((qa8 5 [a, b]).2 != (qa8 5 [b, a]).2))) (some false) = some false := by
  by_cases h : a.ty = b.ty
  ·rw [qvX h, qSA, decide_eq_true rfl]
   cases (a.ty == b.ty) <;> simp
  ·rw [show (a.ty == b.ty) = false by simpa using h]; rfl
 rw [e1, ev_bi_some, ev_br, cond_false]
 have e2 : br (!((qa8 7 [a, b]).1.ty == (qa8 7 [a, b]).1.ty && ((qa8 7 [a, b]).1.n == (qa8 7 [a, b]).1.n && true))) (some true) (some ((qa8 7 [a, b]).2 != (qa8 7 [a, b]).2)) = some false := by
  rw [qSA, decide_eq_true rfl]; simp
 rw [ev_bi_some, ev_bi_some, e2, ev_bi_some, ev_br, cond_false]
 have l : (lwT a.ty a.n b.ty b.n).ev = some true := q48 ha hb
 have e3 : br ((qa8 6 [a, b]).2 == 0) (some (a.ty == b.ty)) (some false) = some ((qa8 6 [a, b]).2 == 0 && a.ty == b.ty) := bra
 rw [ev_bi_some, e3, ev_bi_some, bra, ev_bi_some, ev_br]
 cases h : ((qa8 6 [a, b]).2 == 0 && a.ty == b.ty && a.ty != 4)
 ·exact l
 ·simp only [Bool.and_eq_true, beq_iff_eq, bne_iff_ne, ne_eq] at h
  obtain ⟨⟨h1, h2⟩, h3⟩ := h
  have hs := qAh (x := (qa8 6 [a, b]).1) h2 h3 ha (by rw [← h1])
  have t5s := qfi 5 hs64 hb
  rw [hs] at t5s
  rw [cond_true, t5s, ev_bi_some]
  simp only [qSA, decide_true, Bool.not_true, br_eq, cond_false, bne_self_eq_false, ev_bi_some, ev_br]
  exact l
theorem qHu {vs : List Va} {env : List Vl} (hv : vs.length ≤ big) (hl : env.length ≤ big) (h64 : ∀ x ∈ env, qbd x.n = true) {e : Ex} (hw : Wd e) : qAQ e.op e.num e.txt (EX e.args) (EV vs) (EL env) = some true := by
 rw [qJN, qva, qo0 hw, qgs]
 cases hg : (decide (e.nodes > 300) || (decide (vs.length > 100) || decide (env.length > 100)))
 ·obtain ⟨n1, n2, n3⟩ := qpt hg
  have hn : e.nodes ≤ big := by simp only [big]; omega
  rw [qgi hv hl h64 hn, qiG hv hn]
  simp only [ev_bi_some, ev_br, cond_false, trp, sm_some, gv_some]
  by_cases ht : (qcC e vs env).2 = 0
  ·obtain ⟨k1, k2, k3⟩ := qPy ht
   rw [show ((qcC e vs env).2 != 0) = false by simpa using ht, k1, k2, cond_false]
   have hV := qc6 (vs := [⟨[120], (qcC e vs env).1.ty⟩]) (env := [(qcC e vs env).1]) (by simp [big])
   have hE : qhp [⟨[120], (qcC e vs env).1.ty⟩] [(qcC e vs env).1] = true := by
    show (_ && (_ && true)) = true
    simp [k3]
   rw [hE] at hV
   have hV' : qco [AV.agg [AV.str [120], AV.int IntKind.i64 (qcC e vs env).1.ty]] [AV.agg [AV.int IntKind.i64 (qcC e vs env).1.ty, AV.int IntKind.i64 (qcC e vs env).1.n]] = some true := hV
   rw [hV']
   simp only [beq_self_eq_true, br_eq, cond_true, ev_bi_some, ev_br, sm_some, gv_some, ev_at]
  ·rw [show ((qcC e vs env).2 != 0) = true by simpa using ht, qCG ht]
   rfl
 ·rfl
theorem qCM {vs : List Va} {env : List Vl} (hv : vs.length ≤ big) (hl : env.length ≤ big) (h64 : ∀ x ∈ env, qbd x.n = true) {e : Ex} (hw : Wd e) : qAP e.op e.num e.txt (EX e.args) (EV vs) (EL env) = some true := by
 rw [qJI, qu5, qo0 hw, qgs]
 cases hg : (decide (e.nodes > 300) || (decide (vs.length > 100) || decide (env.length > 100)))
 ·obtain ⟨n1, n2, n3⟩ := qpt hg
  have hn : e.nodes ≤ big := by simp only [big]; omega
  rw [qr0 hv hn]
  simp only [ev_bi_some, ev_br, cond_false]
  by_cases hc : (qca e vs).2 = 0
  ·rw [show ((qca e vs).2 != 0) = false by simpa using hc, cond_false, qgi hv hl h64 hn, ev_bi_some]
   obtain ⟨v1, v2, v3⟩ := qIZ hc
   obtain ⟨s, s1, s2, hrun⟩ := qIO (env := env) hc
   have hN : (((qca e vs).1.ins.length : Int)) ≤ 128 := by omega
   have hw1 : IntKind.i64.wrap (((qca e vs).1.ins.length : Int) + 1000) = ((qca e vs).1.ins.length : Int) + 1000 := by rw [qhn]; omega
   have hr1 := qeq (c := (qca e vs).1) (env := env) (fuel := ((qca e vs).1.ins.length : Int)) (by rw [v1]; omega) hl (qAF hc) h64 (by rw [qdr]; omega)
   have hr2 := qeq (c := (qca e vs).1) (env := env) (fuel := ((qca e vs).1.ins.length : Int) + 1000) (by rw [v1]; omega) hl (qAF hc) h64 (by rw [qdr]; omega)
   rw [hrun _ (by omega)] at hr1 hr2
   simp only [List.length_map, hw1]
   rw [hr1, ev_bi_some, hr2, ev_bi_some]
   generalize (qca e vs).1.ins.length = N at *
   by_cases ht : (qcC e vs env).2 = 0
   ·simp only [if_pos ht, qW2, trp]
    have w2 : IntKind.i64.wrap ((N : Int) - s + 1000) = (N : Int) + 1000 - s := by rw [qhn]; omega
    rw [w2]
    simp only [if_true, Bool.and_self, Bool.not_true, br_eq, cond_false, cond_true, bne_self_eq_false, ev_bi_some, ev_br, ht, beq_self_eq_true, sm_some, gv_some, decide_eq_true (show (N : Int) - s ≥ 0 by omega), decide_eq_true (show (N : Int) - s < (N : Int) by omega), ev_at]
   ·simp only [if_neg ht, qW2, trp, qCG ht]
    have e1 : ((qcC e vs env).2 != 0) = true := by simpa using ht
    have e2 : ((qcC e vs env).2 == 0) = false := by simpa using ht
    simp only [if_true, beq_self_eq_true, Bool.and_self, Bool.not_true, br_eq, cond_false, cond_true, bne_self_eq_false, ev_bi_some, ev_br, e1, e2, sm_some, gv_some, ev_at]
  ·rw [show ((qca e vs).2 != 0) = true by simpa using hc]
   rfl
 ·rfl
end Go.Proofs.H13

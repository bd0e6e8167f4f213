/- Products: short ones, the document's comparisons. -/
import Derived.Test.YthljpgljbpdmjaaGreatDoorX15cPrd
set_option linter.unusedVariables false
set_option linter.unusedSimpArgs false
set_option linter.unnecessarySimpa false
namespace Go.Proofs.H15c
open Go Go.Eng Go.Tk
set_option maxRecDepth 20000
theorem qGC : ∀ (n k : Nat), n < k → n ≤ 100 → ∀ e : Ex, qcu k e.op e.num e.txt (EX e.args) (n : Int) = some (qbs n e) := by
 intro n
 induction n with
 | zero =>
  intro k hk _ e
  obtain ⟨k, rfl⟩ : ∃ k', k = k' + 1 := ⟨k - 1, by omega⟩
  rfl
 | succ n ih =>
  intro k hk h100 e
  obtain ⟨k, rfl⟩ : ∃ k', k = k' + 1 := ⟨k - 1, by omega⟩
  show (qjk (qcu k) e.op e.num e.txt (EX e.args) ((n + 1 : Nat) : Int)).ev = _
  have e0 : ((((n + 1 : Nat) : Int)) == 0) = false := by simp; omega
  have e1 : decide (((EX e.args).length : Int) > 8) = decide (e.args.length > 8) := by rw [List.length_map]; congr 1; exact propext ⟨fun h => by omega, fun h => by omega⟩
  have e2 : decide ((e.txt.length : Int) > 40) = decide (e.txt.length > 40) := by congr 1; exact propext ⟨fun h => by omega, fun h => by omega⟩
  rw [qjk, e0, e1, e2, qbi, ev_bi_some, qbi, ev_bi_some, ev_br, qbs, Bool.false_or]
  by_cases h8 : e.args.length > 8
  ·rw [decide_eq_true h8]; rfl
  ·rw [decide_eq_false h8, Bool.false_or]
   cases decide (e.txt.length > 40)
   ·have hloop : ∃ w, qkT (qcu k) (((n + 1 : Nat) : Int), 0, e.op, e.num, e.txt, EX e.args) = some (bif e.args.any (qbs n) then 0 else 1, w) := by
     have h := qav (st := fun v => (qfB (qcu k) v).ev) (l := e.args) (hd := fun i => (((n + 1 : Nat) : Int), (i : Int), e.op, e.num, e.txt, EX e.args)) (jx := fun _ => 0) (qbs n) 1 (fun i hn => ?_) ?_
     ·rw [qas] at h
      rw [qnP]; exact ⟨_, h⟩
     ·have w1 : IntKind.i64.wrap (((n + 1 : Nat) : Int) - 1) = (n : Int) := by rw [wrap64 (by omega) (by omega)]; omega
      simp only [qfB, qhZ, List.length_map, qaK hn, okX hn, qx0 hn, qx1 hn, qx2 hn, qx3 hn, w1, ih k (by omega) (by omega) e.args[i], ev_bi_some, ev_br, ev_at, cond_true, qai hn (show e.args.length ≤ big by simp only [big]; omega)]
      cases qbs n e.args[i] <;> rfl
     ·simp [qfB, qhZ]
    obtain ⟨w, h⟩ := hloop
    rw [h]
    cases e.args.any (qbs n) <;> simp (decide := true)
   ·rfl
theorem qkj (e : Ex) : qgi e.op e.num e.txt (EX e.args) 12 = some (qbs 12 e) := qcf (n := 13) fun k hk => qGC 12 k (by omega) (by omega) e
abbrev HdP (p : Pr) (i : Int) : qck := (i, p.name, p.cur, p.cal, p.from_, p.every, p.over, p.tax, ETr p.cr.tiers, p.cr.marg, p.cr.basis, p.cr.mode, p.cr.keep, ETr p.de.tiers, p.de.marg, p.de.basis, p.de.mode, p.de.keep, EF p.fees, ER p.rules)
theorem qtO (p : Pr) : qkr p.name p.cur p.cal p.from_ p.every p.over p.tax (ETr p.cr.tiers) p.cr.marg p.cr.basis p.cr.mode p.cr.keep (ETr p.de.tiers) p.de.marg p.de.basis p.de.mode p.de.keep (EF p.fees) (ER p.rules) = some (qOa p) := by
 have d : ∀ {α : Type} (f : α → AV) (l : List α), decide (((l.map f).length : Int) > 12) = decide (l.length > 12) := by
  intro α f l
  rw [List.length_map]; congr 1; exact propext ⟨fun h => by omega, fun h => by omega⟩
 rw [qw0, qju, d, d, d, d, qbi, ev_bi_some, qbi, ev_bi_some, qbi, ev_bi_some, ev_br, qOa]
 by_cases hb : (((decide (p.fees.length > 12) || decide (p.rules.length > 12)) || decide (p.cr.tiers.length > 12)) || decide (p.de.tiers.length > 12)) = true
 ·rw [hb]; rfl
 ·have hb' : (((decide (p.fees.length > 12) || decide (p.rules.length > 12)) || decide (p.cr.tiers.length > 12)) || decide (p.de.tiers.length > 12)) = false := by simpa using hb
  rw [hb']
  simp only [Bool.or_eq_false_iff, decide_eq_false_iff_not] at hb'
  obtain ⟨⟨⟨hf, hr⟩, _⟩, _⟩ := hb'
  have l0 : qkZ (HdP p 0) = some (bif p.fees.any (fun x => qbs 12 x.when_ || qbs 12 x.amount) then 0 else 1, HdP p ((p.fees.findIdx fun x => qbs 12 x.when_ || qbs 12 x.amount : Nat) : Int)) := by
   have h := qav (st := fun v => (qfD v).ev) (l := p.fees) (hd := fun i => HdP p (i : Int)) (jx := fun _ => 0) (fun x => qbs 12 x.when_ || qbs 12 x.amount) 1 (fun i hn => ?_) ?_
   ·rw [qas] at h
    rw [qnV]; exact h
   ·simp only [qfD, qh5, List.length_map, qaK hn, okF hn, qf2 hn, qf3 hn, qf4 hn, qf5 hn, qf6 hn, qf7 hn, qf8 hn, qf9 hn, qkj, ev_bi_some, sm_some, gv_some, ev_br, ev_at, br_eq, cond_true, qai hn (show p.fees.length ≤ big by simp only [big]; omega)]
    cases qbs 12 p.fees[i].when_ <;> cases qbs 12 p.fees[i].amount <;> rfl
   ·simp [qfD, qh5]
  have l1 : ∀ q : Int, ∃ w, qk3 (HdP p 0) = some (bif p.rules.any (fun x => qbs 12 x.amount) then 0 else 1, w) := by
   intro _
   have h := qav (st := fun v => (qfE v).ev) (l := p.rules) (hd := fun i => HdP p (i : Int)) (jx := fun _ => 0) (fun x => qbs 12 x.amount) 1 (fun i hn => ?_) ?_
   ·rw [qas] at h
    rw [qnW]; exact ⟨_, h⟩
   ·simp only [qfE, qh6, List.length_map, qaK hn, okR hn, qr2 hn, qr3 hn, qr4 hn, qr5 hn, qkj, ev_bi_some, ev_br, ev_at, cond_true, qai hn (show p.rules.length ≤ big by simp only [big]; omega)]
    cases qbs 12 p.rules[i].amount <;> rfl
   ·simp [qfE, qh6]
  obtain ⟨w, h1⟩ := l1 0
  simp only [HdP] at l0 h1
  rw [l0]
  cases p.fees.any (fun x => qbs 12 x.when_ || qbs 12 x.amount)
  ·simp (decide := true) only [cond_false, pj_some, if_true, if_false, ev_bi_none, ev_bi_some, h1]
   cases p.rules.any (fun x => qbs 12 x.amount) <;> simp (decide := true)
  ·simp (decide := true)
theorem qJD {p : Pr} (h : qOa p = true) : p.fees.length ≤ 12 ∧ p.rules.length ≤ 12 ∧ p.cr.tiers.length ≤ 12 ∧ p.de.tiers.length ≤ 12 ∧ (∀ x ∈ p.fees, qbs 12 x.when_ = false ∧ qbs 12 x.amount = false) ∧ ∀ x ∈ p.rules, qbs 12 x.amount = false := by
 simp only [qOa] at h
 cases h1 : (((decide (p.fees.length > 12) || decide (p.rules.length > 12)) || decide (p.cr.tiers.length > 12)) || decide (p.de.tiers.length > 12)) with
 | true => rw [h1] at h; cases h
 | false =>
  rw [h1] at h
  simp only [cond_false, Bool.and_eq_true, Bool.not_eq_true', List.any_eq_false, Bool.or_eq_true, not_or] at h
  simp only [Bool.or_eq_false_iff, decide_eq_false_iff_not] at h1
  refine ⟨by omega, by omega, by omega, by omega, fun x hx => ?_, fun x hx => ?_⟩
  ·have := h.1 x hx; simpa using this
  ·have := h.2 x hx; simpa using this
theorem qvV : ∀ (n : Nat) (e : Ex), qbs n e = false → e.allX (fun x => decide (x.args.length ≤ 8)) = true := by
 intro n
 induction n with
 | zero => intro e h; cases h
 | succ n ih =>
  intro e h
  simp only [qbs, Bool.or_eq_false_iff, decide_eq_false_iff_not, List.any_eq_false] at h
  rw [Ex.allX_eq, Bool.and_eq_true, List.all_eq_true]
  exact ⟨decide_eq_true (by omega), fun x hx => ih x (by simpa using h.2.2 x hx)⟩
theorem qqB {p q : Ex → Bool} (hpq : ∀ x, p x = true → q x = true) : ∀ e : Ex, e.allX p = true → e.allX q = true := by
 intro e
 induction e using Ex.ind with
 | h o n s l ih =>
  intro h
  rw [Ex.allX_eq, Bool.and_eq_true, List.all_eq_true] at h ⊢
  exact ⟨hpq _ h.1, fun x hx => ih x hx (h.2 x hx)⟩
theorem qut {e : Ex} (h : qbs 12 e = false) : Wd e := qqB (fun x hx => decide_eq_true (Nat.le_trans (of_decide_eq_true hx) (by decide))) e (qvV 12 e h)
theorem qM3 {p : Pr} (h : qOa p = true) : PrW p := by
 obtain ⟨h1, h2, h3, h4, h5, h6⟩ := qJD h
 exact ⟨by omega, by omega, by omega, by omega, fun x hx => ⟨qut (h5 x hx).1, qut (h5 x hx).2⟩, fun x hx => qut (h6 x hx)⟩
end Go.Proofs.H15c

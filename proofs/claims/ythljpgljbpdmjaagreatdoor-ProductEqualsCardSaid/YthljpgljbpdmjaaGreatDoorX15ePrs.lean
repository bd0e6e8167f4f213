/- Products: short ones, the document's comparisons. -/
import Derived.Test.YthljpgljbpdmjaaGreatDoorX15ePrd
set_option linter.unusedVariables false
set_option linter.unusedSimpArgs false
set_option linter.unnecessarySimpa false
namespace Go.Proofs.H15e
open Go Go.Eng Go.Tk
set_option maxRecDepth 20000
theorem tall_key : ∀ (n k : Nat), n < k → n ≤ 100 → ∀ e : Ex, N_u122q k e.op e.num e.txt (EX e.args) (n : Int) = some (tallX n e) := by
  intro n
  induction n with
  | zero =>
    intro k hk _ e
    obtain ⟨k, rfl⟩ : ∃ k', k = k' + 1 := ⟨k - 1, by omega⟩
    rfl
  | succ n ih =>
    intro k hk h100 e
    obtain ⟨k, rfl⟩ : ∃ k', k = k' + 1 := ⟨k - 1, by omega⟩
    show (tr_u122q (N_u122q k) e.op e.num e.txt (EX e.args) ((n + 1 : Nat) : Int)).ev = _
    have e0 : ((((n + 1 : Nat) : Int)) == 0) = false := by simp; omega
    have e1 : decide (((EX e.args).length : Int) > 8) = decide (e.args.length > 8) := by rw [List.length_map]; congr 1; exact propext ⟨fun h => by omega, fun h => by omega⟩
    have e2 : decide ((e.txt.length : Int) > 40) = decide (e.txt.length > 40) := by congr 1; exact propext ⟨fun h => by omega, fun h => by omega⟩
    rw [tr_u122q, e0, e1, e2, br_or, ev_bi_some, br_or, ev_bi_some, ev_br, tallX, Bool.false_or]
    by_cases h8 : e.args.length > 8
    · rw [decide_eq_true h8]; rfl
    · rw [decide_eq_false h8, Bool.false_or]
      cases decide (e.txt.length > 40)
      · have hloop : ∃ w, l_u100q (N_u122q k) (((n + 1 : Nat) : Int), 0, e.op, e.num, e.txt, EX e.args) = some (bif e.args.any (tallX n) then 0 else 1, w) := by
          have h := loop_search (st := fun v => (st_u100q (N_u122q k) v).ev) (l := e.args) (hd := fun i => (((n + 1 : Nat) : Int), (i : Int), e.op, e.num, e.txt, EX e.args)) (jx := fun _ => 0) (tallX n) 1 (fun i hn => ?_) ?_
          · rw [seek_const] at h
            rw [l_u100q_eq]; exact ⟨_, h⟩
          · have w1 : IntKind.i64.wrap (((n + 1 : Nat) : Int) - 1) = (n : Int) := by rw [wrap64 (by omega) (by omega)]; omega
            simp only [st_u100q, st_u100q_0, List.length_map, lt_at hn, okX hn, qx0 hn, qx1 hn, qx2 hn, qx3 hn, w1, ih k (by omega) (by omega) e.args[i], ev_bi_some, ev_br, ev_at, cond_true, wrap_succ hn (show e.args.length ≤ big by simp only [big]; omega)]
            cases tallX n e.args[i] <;> rfl
          · simp [st_u100q, st_u100q_0]
        obtain ⟨w, h⟩ := hloop
        rw [h]
        cases e.args.any (tallX n) <;> simp (decide := true)
      · rfl
theorem f_u122q_val (e : Ex) : f_u122q e.op e.num e.txt (EX e.args) 12 = some (tallX 12 e) := limO_of (n := 13) fun k hk => tall_key 12 k (by omega) (by omega) e
abbrev HdP (p : Pr) (i : Int) : TT_u115q := (i, p.name, p.cur, p.cal, p.from_, p.every, p.over, p.tax, ETr p.cr.tiers, p.cr.marg, p.cr.basis, p.cr.mode, p.cr.keep, ETr p.de.tiers, p.de.marg, p.de.basis, p.de.mode, p.de.keep, EF p.fees, ER p.rules)
theorem f_u125q_val (p : Pr) : f_u125q p.name p.cur p.cal p.from_ p.every p.over p.tax (ETr p.cr.tiers) p.cr.marg p.cr.basis p.cr.mode p.cr.keep (ETr p.de.tiers) p.de.marg p.de.basis p.de.mode p.de.keep (EF p.fees) (ER p.rules) = some (fewS p) := by
  have d : ∀ {α : Type} (f : α → AV) (l : List α), decide (((l.map f).length : Int) > 12) = decide (l.length > 12) := by
    intro α f l
    rw [List.length_map]; congr 1; exact propext ⟨fun h => by omega, fun h => by omega⟩
  rw [f_u125q_eq, tr_u125q, d, d, d, d, br_or, ev_bi_some, br_or, ev_bi_some, br_or, ev_bi_some, ev_br, fewS]
  by_cases hb : (((decide (p.fees.length > 12) || decide (p.rules.length > 12)) || decide (p.cr.tiers.length > 12)) || decide (p.de.tiers.length > 12)) = true
  · rw [hb]; rfl
  · have hb' : (((decide (p.fees.length > 12) || decide (p.rules.length > 12)) || decide (p.cr.tiers.length > 12)) || decide (p.de.tiers.length > 12)) = false := by simpa using hb
    rw [hb']
    simp only [Bool.or_eq_false_iff, decide_eq_false_iff_not] at hb'
    obtain ⟨⟨⟨hf, hr⟩, _⟩, _⟩ := hb'
    have l0 : l_u115q (HdP p 0) = some (bif p.fees.any (fun x => tallX 12 x.when_ || tallX 12 x.amount) then 0 else 1, HdP p ((p.fees.findIdx fun x => tallX 12 x.when_ || tallX 12 x.amount : Nat) : Int)) := by
      have h := loop_search (st := fun v => (st_u115q v).ev) (l := p.fees) (hd := fun i => HdP p (i : Int)) (jx := fun _ => 0) (fun x => tallX 12 x.when_ || tallX 12 x.amount) 1 (fun i hn => ?_) ?_
      · rw [seek_const] at h
        rw [l_u115q_eq]; exact h
      · simp only [st_u115q, st_u115q_0, List.length_map, lt_at hn, okF hn, qf2 hn, qf3 hn, qf4 hn, qf5 hn, qf6 hn, qf7 hn, qf8 hn, qf9 hn, f_u122q_val, ev_bi_some, sm_some, gv_some, ev_br, ev_at, br_eq, cond_true, wrap_succ hn (show p.fees.length ≤ big by simp only [big]; omega)]
        cases tallX 12 p.fees[i].when_ <;> cases tallX 12 p.fees[i].amount <;> rfl
      · simp [st_u115q, st_u115q_0]
    have l1 : ∀ q : Int, ∃ w, l_u116q (HdP p 0) = some (bif p.rules.any (fun x => tallX 12 x.amount) then 0 else 1, w) := by
      intro _
      have h := loop_search (st := fun v => (st_u116q v).ev) (l := p.rules) (hd := fun i => HdP p (i : Int)) (jx := fun _ => 0) (fun x => tallX 12 x.amount) 1 (fun i hn => ?_) ?_
      · rw [seek_const] at h
        rw [l_u116q_eq]; exact ⟨_, h⟩
      · simp only [st_u116q, st_u116q_0, List.length_map, lt_at hn, okR hn, qr2 hn, qr3 hn, qr4 hn, qr5 hn, f_u122q_val, ev_bi_some, ev_br, ev_at, cond_true, wrap_succ hn (show p.rules.length ≤ big by simp only [big]; omega)]
        cases tallX 12 p.rules[i].amount <;> rfl
      · simp [st_u116q, st_u116q_0]
    obtain ⟨w, h1⟩ := l1 0
    simp only [HdP] at l0 h1
    rw [l0]
    cases p.fees.any (fun x => tallX 12 x.when_ || tallX 12 x.amount)
    · simp (decide := true) only [cond_false, pj_some, if_true, if_false, ev_bi_none, ev_bi_some, h1]
      cases p.rules.any (fun x => tallX 12 x.amount) <;> simp (decide := true)
    · simp (decide := true)
theorem few_fe {p : Pr} (h : fewS p = true) : p.fees.length ≤ 12 ∧ p.rules.length ≤ 12 ∧ p.cr.tiers.length ≤ 12 ∧ p.de.tiers.length ≤ 12 ∧ (∀ x ∈ p.fees, tallX 12 x.when_ = false ∧ tallX 12 x.amount = false) ∧ ∀ x ∈ p.rules, tallX 12 x.amount = false := by
  simp only [fewS] at h
  cases h1 : (((decide (p.fees.length > 12) || decide (p.rules.length > 12)) || decide (p.cr.tiers.length > 12)) || decide (p.de.tiers.length > 12)) with
  | true => rw [h1] at h; cases h
  | false =>
    rw [h1] at h
    simp only [cond_false, Bool.and_eq_true, Bool.not_eq_true', List.any_eq_false, Bool.or_eq_true, not_or] at h
    simp only [Bool.or_eq_false_iff, decide_eq_false_iff_not] at h1
    refine ⟨by omega, by omega, by omega, by omega, fun x hx => ?_, fun x hx => ?_⟩
    · have := h.1 x hx; simpa using this
    · have := h.2 x hx; simpa using this
theorem tall_wid : ∀ (n : Nat) (e : Ex), tallX n e = false → e.allX (fun x => decide (x.args.length ≤ 8)) = true := by
  intro n
  induction n with
  | zero => intro e h; cases h
  | succ n ih =>
    intro e h
    simp only [tallX, Bool.or_eq_false_iff, decide_eq_false_iff_not, List.any_eq_false] at h
    rw [Ex.allX_eq, Bool.and_eq_true, List.all_eq_true]
    exact ⟨decide_eq_true (by omega), fun x hx => ih x (by simpa using h.2.2 x hx)⟩
theorem allX_mono {p q : Ex → Bool} (hpq : ∀ x, p x = true → q x = true) : ∀ e : Ex, e.allX p = true → e.allX q = true := by
  intro e
  induction e using Ex.ind with
  | h o n s l ih =>
    intro h
    rw [Ex.allX_eq, Bool.and_eq_true, List.all_eq_true] at h ⊢
    exact ⟨hpq _ h.1, fun x hx => ih x hx (h.2 x hx)⟩
theorem tall_wd {e : Ex} (h : tallX 12 e = false) : Wd e := allX_mono (fun x hx => decide_eq_true (Nat.le_trans (of_decide_eq_true hx) (by decide))) e (tall_wid 12 e h)
theorem f_u32q_val {a b : In} (ha : a.tiers.length ≤ 1000000) (hb : b.tiers.length ≤ 1000000) : f_u32q (ETr a.tiers) a.marg a.basis a.mode a.keep (ETr b.tiers) b.marg b.basis b.mode b.keep = some (sameIn a b) := by
  rw [f_u32q_eq, tr_u32q, List.length_map, List.length_map, sameIn]
  by_cases hl : a.tiers.length = b.tiers.length
  · have e1 : ((a.tiers.length : Int) != (b.tiers.length : Int)) = false := by simp [hl]
    have e2 : (a.tiers.length == b.tiers.length) = true := by simp [hl]
    have hloop : ∃ w, l_u26q (0, ETr a.tiers, a.marg, a.basis, a.mode, a.keep, ETr b.tiers, b.marg, b.basis, b.mode, b.keep) = some (bif (List.range a.tiers.length).any (difB eqT a.tiers b.tiers) then 0 else 1, w) := by
      have h := loop_searchI (st := fun v => (st_u26q v).ev) (N := a.tiers.length) (hd := fun i => ((i : Int), ETr a.tiers, a.marg, a.basis, a.mode, a.keep, ETr b.tiers, b.marg, b.basis, b.mode, b.keep)) (jx := fun _ => 0) (difB eqT a.tiers b.tiers) 1 (fun i hn => ?_) ?_
      · rw [seek_const] at h
        rw [l_u26q_eq]; exact ⟨_, h⟩
      · have hn' : i < b.tiers.length := by omega
        simp only [st_u26q, st_u26q_0, List.length_map, lt_at hn, okTr hn, okTr hn', qtr0 hn, qtr1 hn, qtr0 hn', qtr1 hn', ev_br, ev_at, cond_true, wrap_succ hn (le_big ha), if_true, difB, List.getElem?_eq_getElem hn, List.getElem?_eq_getElem hn', eqT]
        cases (a.tiers[i].from_ == b.tiers[i].from_ && (a.tiers[i].ppm == b.tiers[i].ppm && true)) <;> rfl
      · simp [st_u26q, st_u26q_0]
    obtain ⟨w, h⟩ := hloop
    rw [e1, e2, h, if_pos rfl, if_pos rfl, br_or, ev_bi_some, br_or, ev_bi_some, br_or, ev_bi_some, br_or, ev_bi_some, ev_br]
    simp only [bne]
    generalize (a.marg == b.marg) = q1
    generalize (a.basis == b.basis) = q2
    generalize (a.mode == b.mode) = q3
    generalize (a.keep == b.keep) = q4
    cases (List.range a.tiers.length).any (difB eqT a.tiers b.tiers) <;> cases q1 <;> cases q2 <;> cases q3 <;> cases q4 <;> rfl
  · have e1 : ((a.tiers.length : Int) != (b.tiers.length : Int)) = true := by simp; omega
    have e2 : (a.tiers.length == b.tiers.length) = false := by simpa using hl
    rw [e1, e2, br_or, ev_bi_some, br_or, ev_bi_some, br_or, ev_bi_some, br_or, ev_bi_some, ev_br]; rfl
theorem R10_Same_key : ∀ (e : Ex), Wd e → ∀ (f : Ex), Wd f → ∀ k, e.dep ≤ k → N_u123q k e.op e.num e.txt (EX e.args) f.op f.num f.txt (EX f.args) = some (sameX e f) := by
  intro e
  induction e using Ex.ind with
  | h o n s l ih =>
    intro hw f hf k hk
    have hd := Ex.dep_pos (.mk o n s l)
    obtain ⟨k, rfl⟩ : ∃ k', k = k' + 1 := ⟨k - 1, by omega⟩
    obtain ⟨o', n', s', m⟩ := f
    have hlen : l.length ≤ big := hw.len
    show (tr_u123q (N_u123q k) o n s (EX l) o' n' s' (EX m)).ev = _
    rw [tr_u123q, List.length_map, List.length_map, br_or, ev_bi_some, br_or, ev_bi_some, br_or, ev_bi_some, ev_br, sameX, sameXs_eq, sameL]
    by_cases hl : l.length = m.length
    · have e1 : ((l.length : Int) != (m.length : Int)) = false := by simp [hl]
      have e2 : (l.length == m.length) = true := by simp [hl]
      have hloop : ∃ w, l_u101q (N_u123q k) (0, o, n, s, EX l, o', n', s', EX m) = some (bif (List.range l.length).any (difB sameX l m) then 0 else 1, w) := by
        have h := loop_searchI (st := fun v => (st_u101q (N_u123q k) v).ev) (N := l.length) (hd := fun i => ((i : Int), o, n, s, EX l, o', n', s', EX m)) (jx := fun _ => 0) (difB sameX l m) 1 (fun i hn => ?_) ?_
        · rw [seek_const] at h
          rw [l_u101q_eq]; exact ⟨_, h⟩
        · have hn' : i < m.length := by omega
          have hxd := dep_arg (e := .mk o n s l) (x := l[i]) (List.getElem_mem hn)
          have hv := ih l[i] (List.getElem_mem hn) (hw.arg (List.getElem_mem hn)) m[i] (hf.arg (List.getElem_mem hn')) k (by omega)
          simp only [st_u101q, st_u101q_0, List.length_map, lt_at hn, okX hn, okX hn', qx0 hn, qx1 hn, qx2 hn, qx3 hn, qx0 hn', qx1 hn', qx2 hn', qx3 hn', hv, ev_bi_some, ev_br, ev_at, cond_true, wrap_succ hn hlen, difB, List.getElem?_eq_getElem hn, List.getElem?_eq_getElem hn']
          cases sameX l[i] m[i] <;> rfl
        · simp [st_u101q, st_u101q_0]
      obtain ⟨w, h⟩ := hloop
      rw [e1, e2, h]
      simp only [bne]
      generalize (o == o') = q1
      generalize (n == n') = q2
      generalize (s == s') = q3
      cases (List.range l.length).any (difB sameX l m) <;> cases q1 <;> cases q2 <;> cases q3 <;> rfl
    · have e1 : ((l.length : Int) != (m.length : Int)) = true := by simp; omega
      have e2 : (l.length == m.length) = false := by simpa using hl
      rw [e1, e2]
      simp
theorem f_u123q_val {e f : Ex} (he : Wd e) (hf : Wd f) : f_u123q e.op e.num e.txt (EX e.args) f.op f.num f.txt (EX f.args) = some (sameX e f) := limO_of (R10_Same_key e he f hf)
theorem f_u69q_val {l m : List Fe} (hlen : l.length ≤ 1000000) (hl' : ∀ x ∈ l, FeW x) (hm' : ∀ x ∈ m, FeW x) : f_u69q (EF l) (EF m) = some (sameL sameFe l m) := by
  rw [f_u69q_eq, tr_u69q, sameL, List.length_map, List.length_map]
  by_cases hl : l.length = m.length
  · have e1 : ((l.length : Int) != (m.length : Int)) = false := by simp [hl]
    have e2 : (l.length == m.length) = true := by simp [hl]
    have hloop : ∃ w, l_u45q (EF l, EF m, 0) = some (bif (List.range l.length).any (difB sameFe l m) then 0 else 1, w) := by
      have h := loop_searchI (st := fun v => (st_u45q v).ev) (N := l.length) (hd := fun i => (EF l, EF m, (i : Int))) (jx := fun _ => 0) (difB sameFe l m) 1 (fun i hn => ?_) ?_
      · rw [seek_const] at h
        rw [l_u45q_eq]; exact ⟨_, h⟩
      · have hn' : i < m.length := by omega
        simp only [st_u45q, st_u45q_0, List.length_map, lt_at hn, okF hn, okF hn', qf0 hn, qf1 hn, qf2 hn, qf3 hn, qf4 hn, qf5 hn, qf6 hn, qf7 hn, qf8 hn, qf9 hn, qf0 hn', qf1 hn', qf2 hn', qf3 hn', qf4 hn', qf5 hn', qf6 hn', qf7 hn', qf8 hn', qf9 hn', f_u123q_val (hl' _ (List.getElem_mem hn)).1 (hm' _ (List.getElem_mem hn')).1, f_u123q_val (hl' _ (List.getElem_mem hn)).2 (hm' _ (List.getElem_mem hn')).2, ev_bi_some, ev_br, ev_at, cond_true, wrap_succ hn (le_big hlen), difB, List.getElem?_eq_getElem hn, List.getElem?_eq_getElem hn', sameFe, bne]
        cases (l[i].name == m[i].name) <;> cases (l[i].event == m[i].event) <;> cases sameX l[i].when_ m[i].when_ <;> cases sameX l[i].amount m[i].amount <;> rfl
      · simp [st_u45q, st_u45q_0]
    obtain ⟨w, h⟩ := hloop
    rw [e1, e2, h]
    cases (List.range l.length).any (difB sameFe l m) <;> simp (decide := true)
  · have e1 : ((l.length : Int) != (m.length : Int)) = true := by simp; omega
    have e2 : (l.length == m.length) = false := by simpa using hl
    rw [e1, e2]; rfl
theorem not_few {p : Pr} (h : fewS p = true) : PrW p := by
  obtain ⟨h1, h2, h3, h4, h5, h6⟩ := few_fe h
  exact ⟨by omega, by omega, by omega, by omega, fun x hx => ⟨tall_wd (h5 x hx).1, tall_wd (h5 x hx).2⟩, fun x hx => tall_wd (h6 x hx)⟩
abbrev HdS (p q : Pr) (i : Int) : TT_u102q := (i, p.name, p.cur, p.cal, p.from_, p.every, p.over, p.tax, ETr p.cr.tiers, p.cr.marg, p.cr.basis, p.cr.mode, p.cr.keep, ETr p.de.tiers, p.de.marg, p.de.basis, p.de.mode, p.de.keep, EF p.fees, ER p.rules,
  q.name, q.cur, q.cal, q.from_, q.every, q.over, q.tax, ETr q.cr.tiers, q.cr.marg, q.cr.basis, q.cr.mode, q.cr.keep, ETr q.de.tiers, q.de.marg, q.de.basis, q.de.mode, q.de.keep, EF q.fees, ER q.rules)
theorem l_u102q_val {p q : Pr} (hp : PrW p) (hq : PrW q) (hl : p.rules.length = q.rules.length) : ∃ w, l_u102q (HdS p q 0) = some (bif (List.range p.rules.length).any (difB sameRu p.rules q.rules) then 0 else 1, w) := by
  have h := loop_searchI (st := fun v => (st_u102q v).ev) (N := p.rules.length) (hd := fun i => HdS p q (i : Int)) (jx := fun _ => 0) (difB sameRu p.rules q.rules) 1 (fun i hn => ?_) ?_
  · rw [seek_const] at h
    rw [l_u102q_eq]; exact ⟨_, h⟩
  · have hn' : i < q.rules.length := by omega
    simp only [HdS, st_u102q, st_u102q_0, List.length_map, lt_at hn, okR hn, okR hn', qr0 hn, qr1 hn, qr2 hn, qr3 hn, qr4 hn, qr5 hn, qr0 hn', qr1 hn', qr2 hn', qr3 hn', qr4 hn', qr5 hn', f_u123q_val (hp.rules _ (List.getElem_mem hn)) (hq.rules _ (List.getElem_mem hn')), ev_bi_some, ev_br, ev_at, cond_true, wrap_succ hn (le_big hp.rul), difB, List.getElem?_eq_getElem hn, List.getElem?_eq_getElem hn', sameRu, bne]
    cases (p.rules[i].name == q.rules[i].name) <;> cases (p.rules[i].window == q.rules[i].window) <;> cases sameX p.rules[i].amount q.rules[i].amount <;> rfl
  · simp [st_u102q, st_u102q_0]
theorem f_u124q_val {p q : Pr} (hp : PrW p) (hq : PrW q) : f_u124q p.name p.cur p.cal p.from_ p.every p.over p.tax (ETr p.cr.tiers) p.cr.marg p.cr.basis p.cr.mode p.cr.keep (ETr p.de.tiers) p.de.marg p.de.basis p.de.mode p.de.keep (EF p.fees) (ER p.rules)
    q.name q.cur q.cal q.from_ q.every q.over q.tax (ETr q.cr.tiers) q.cr.marg q.cr.basis q.cr.mode q.cr.keep (ETr q.de.tiers) q.de.marg q.de.basis q.de.mode q.de.keep (EF q.fees) (ER q.rules) = some (samePr p q) := by
  have hR : ∃ b : Bool, sameL sameRu p.rules q.rules = b := ⟨_, rfl⟩
  rw [f_u124q_eq, tr_u124q, f_u32q_val hp.crl hq.crl, f_u32q_val hp.del hq.del, f_u69q_val hp.fel hp.fees hq.fees, samePr, List.length_map, List.length_map]
  have hz : ∀ b1 b2 b3 b4 b5 b6 b7 : Bool, ((((((!b1 || !b2) || !b3) || b4) || b5) || b6) || b7) = ((!b1) || ((!b2) || ((!b3) || (b4 || (b5 || (b6 || b7)))))) := by intro b1 b2 b3 b4 b5 b6 b7; simp only [Bool.or_assoc]
  rw [← hz, br_or, ev_bi_some, br_or, ev_bi_some, br_or, ev_bi_some, br_or, ev_bi_some, br_or, ev_bi_some, br_or, ev_bi_some, ev_br, ev_bi_some, sm_some, sm_some, gv_some, gv_some]
  have hloop : p.rules.length = q.rules.length → ∃ w, l_u102q (HdS p q 0) = some (bif (List.range p.rules.length).any (difB sameRu p.rules q.rules) then 0 else 1, w) := l_u102q_val hp hq
  simp only [HdS] at hloop
  generalize ((((((!(p.name == q.name) || !(p.cur == q.cur)) || !(p.cal == q.cal)) || (p.from_ != q.from_)) || (p.every != q.every)) || (p.over != q.over)) || (p.tax != q.tax)) = z
  generalize sameIn p.cr q.cr = b8
  generalize sameIn p.de q.de = b9
  generalize sameL sameFe p.fees q.fees = b10
  cases z
  · cases b8
    · rfl
    · cases b9
      · rfl
      · cases b10
        · rfl
        · rw [sameL]
          by_cases hl : p.rules.length = q.rules.length
          · have e1 : ((p.rules.length : Int) != (q.rules.length : Int)) = false := by simp [hl]
            have e2 : (p.rules.length == q.rules.length) = true := by simp [hl]
            obtain ⟨w, h⟩ := hloop hl
            rw [e1, e2, h]
            cases (List.range p.rules.length).any (difB sameRu p.rules q.rules) <;> rfl
          · have e1 : ((p.rules.length : Int) != (q.rules.length : Int)) = true := by simp; omega
            have e2 : (p.rules.length == q.rules.length) = false := by simpa using hl
            rw [e1, e2]; rfl
  · rfl
end Go.Proofs.H15e

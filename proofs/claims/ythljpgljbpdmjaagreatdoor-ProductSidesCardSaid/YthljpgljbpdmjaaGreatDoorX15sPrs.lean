/- Products: short ones, the document's comparisons. -/
import Derived.Test.YthljpgljbpdmjaaGreatDoorX15sPrd
set_option linter.unusedVariables false
set_option linter.unusedSimpArgs false
set_option linter.unnecessarySimpa false
namespace Go.Proofs.H15s
open Go Go.Eng Go.Tk
set_option maxRecDepth 20000
theorem tall_key : ∀ (n k : Nat), n < k → n ≤ 100 → ∀ e : Ex, N_u122q k e.op e.num e.txt (EX e.args) (n : Int) = some (tallX n e) := by
  intro n
  induction n with
  | zero =>
    intro k hk _ e
    obtain ⟨k, rfl⟩ : ∃ k', k = k' + 1 := ⟨k - 1, by omega⟩
    rfl
  | succ n ih =>
    intro k hk h100 e
    obtain ⟨k, rfl⟩ : ∃ k', k = k' + 1 := ⟨k - 1, by omega⟩
    show (tr_u122q (N_u122q k) e.op e.num e.txt (EX e.args) ((n + 1 : Nat) : Int)).ev = _
    have e0 : ((((n + 1 : Nat) : Int)) == 0) = false := by simp; omega
    have e1 : decide (((EX e.args).length : Int) > 8) = decide (e.args.length > 8) := by rw [List.length_map]; congr 1; exact propext ⟨fun h => by omega, fun h => by omega⟩
    have e2 : decide ((e.txt.length : Int) > 40) = decide (e.txt.length > 40) := by congr 1; exact propext ⟨fun h => by omega, fun h => by omega⟩
    rw [tr_u122q, e0, e1, e2, br_or, ev_bi_some, br_or, ev_bi_some, ev_br, tallX, Bool.false_or]
    by_cases h8 : e.args.length > 8
    · rw [decide_eq_true h8]; rfl
    · rw [decide_eq_false h8, Bool.false_or]
      cases decide (e.txt.length > 40)
      · have hloop : ∃ w, l_u100q (N_u122q k) (((n + 1 : Nat) : Int), 0, e.op, e.num, e.txt, EX e.args) = some (bif e.args.any (tallX n) then 0 else 1, w) := by
          have h := loop_search (st := fun v => (st_u100q (N_u122q k) v).ev) (l := e.args) (hd := fun i => (((n + 1 : Nat) : Int), (i : Int), e.op, e.num, e.txt, EX e.args)) (jx := fun _ => 0) (tallX n) 1 (fun i hn => ?_) ?_
          · rw [seek_const] at h
            rw [l_u100q_eq]; exact ⟨_, h⟩
          · have w1 : IntKind.i64.wrap (((n + 1 : Nat) : Int) - 1) = (n : Int) := by rw [wrap64 (by omega) (by omega)]; omega
            simp only [st_u100q, st_u100q_0, List.length_map, lt_at hn, okX hn, qx0 hn, qx1 hn, qx2 hn, qx3 hn, w1, ih k (by omega) (by omega) e.args[i], ev_bi_some, ev_br, ev_at, cond_true, wrap_succ hn (show e.args.length ≤ big by simp only [big]; omega)]
            cases tallX n e.args[i] <;> rfl
          · simp [st_u100q, st_u100q_0]
        obtain ⟨w, h⟩ := hloop
        rw [h]
        cases e.args.any (tallX n) <;> simp (decide := true)
      · rfl
theorem f_u122q_val (e : Ex) : f_u122q e.op e.num e.txt (EX e.args) 12 = some (tallX 12 e) := limO_of (n := 13) fun k hk => tall_key 12 k (by omega) (by omega) e
abbrev HdP (p : Pr) (i : Int) : TT_u115q := (i, p.name, p.cur, p.cal, p.from_, p.every, p.over, p.tax, ETr p.cr.tiers, p.cr.marg, p.cr.basis, p.cr.mode, p.cr.keep, ETr p.de.tiers, p.de.marg, p.de.basis, p.de.mode, p.de.keep, EF p.fees, ER p.rules)
theorem f_u126q_val (p : Pr) : f_u126q p.name p.cur p.cal p.from_ p.every p.over p.tax (ETr p.cr.tiers) p.cr.marg p.cr.basis p.cr.mode p.cr.keep (ETr p.de.tiers) p.de.marg p.de.basis p.de.mode p.de.keep (EF p.fees) (ER p.rules) = some (fewS p) := by
  have d : ∀ {α : Type} (f : α → AV) (l : List α), decide (((l.map f).length : Int) > 12) = decide (l.length > 12) := by
    intro α f l
    rw [List.length_map]; congr 1; exact propext ⟨fun h => by omega, fun h => by omega⟩
  rw [f_u126q_eq, tr_u126q, d, d, d, d, br_or, ev_bi_some, br_or, ev_bi_some, br_or, ev_bi_some, ev_br, fewS]
  by_cases hb : (((decide (p.fees.length > 12) || decide (p.rules.length > 12)) || decide (p.cr.tiers.length > 12)) || decide (p.de.tiers.length > 12)) = true
  · rw [hb]; rfl
  · have hb' : (((decide (p.fees.length > 12) || decide (p.rules.length > 12)) || decide (p.cr.tiers.length > 12)) || decide (p.de.tiers.length > 12)) = false := by simpa using hb
    rw [hb']
    simp only [Bool.or_eq_false_iff, decide_eq_false_iff_not] at hb'
    obtain ⟨⟨⟨hf, hr⟩, _⟩, _⟩ := hb'
    have l0 : l_u115q (HdP p 0) = some (bif p.fees.any (fun x => tallX 12 x.when_ || tallX 12 x.amount) then 0 else 1, HdP p ((p.fees.findIdx fun x => tallX 12 x.when_ || tallX 12 x.amount : Nat) : Int)) := by
      have h := loop_search (st := fun v => (st_u115q v).ev) (l := p.fees) (hd := fun i => HdP p (i : Int)) (jx := fun _ => 0) (fun x => tallX 12 x.when_ || tallX 12 x.amount) 1 (fun i hn => ?_) ?_
      · rw [seek_const] at h
        rw [l_u115q_eq]; exact h
      · simp only [st_u115q, st_u115q_0, List.length_map, lt_at hn, okF hn, qf2 hn, qf3 hn, qf4 hn, qf5 hn, qf6 hn, qf7 hn, qf8 hn, qf9 hn, f_u122q_val, ev_bi_some, sm_some, gv_some, ev_br, ev_at, br_eq, cond_true, wrap_succ hn (show p.fees.length ≤ big by simp only [big]; omega)]
        cases tallX 12 p.fees[i].when_ <;> cases tallX 12 p.fees[i].amount <;> rfl
      · simp [st_u115q, st_u115q_0]
    have l1 : ∀ q : Int, ∃ w, l_u116q (HdP p 0) = some (bif p.rules.any (fun x => tallX 12 x.amount) then 0 else 1, w) := by
      intro _
      have h := loop_search (st := fun v => (st_u116q v).ev) (l := p.rules) (hd := fun i => HdP p (i : Int)) (jx := fun _ => 0) (fun x => tallX 12 x.amount) 1 (fun i hn => ?_) ?_
      · rw [seek_const] at h
        rw [l_u116q_eq]; exact ⟨_, h⟩
      · simp only [st_u116q, st_u116q_0, List.length_map, lt_at hn, okR hn, qr2 hn, qr3 hn, qr4 hn, qr5 hn, f_u122q_val, ev_bi_some, ev_br, ev_at, cond_true, wrap_succ hn (show p.rules.length ≤ big by simp only [big]; omega)]
        cases tallX 12 p.rules[i].amount <;> rfl
      · simp [st_u116q, st_u116q_0]
    obtain ⟨w, h1⟩ := l1 0
    simp only [HdP] at l0 h1
    rw [l0]
    cases p.fees.any (fun x => tallX 12 x.when_ || tallX 12 x.amount)
    · simp (decide := true) only [cond_false, pj_some, if_true, if_false, ev_bi_none, ev_bi_some, h1]
      cases p.rules.any (fun x => tallX 12 x.amount) <;> simp (decide := true)
    · simp (decide := true)
theorem few_fe {p : Pr} (h : fewS p = true) : p.fees.length ≤ 12 ∧ p.rules.length ≤ 12 ∧ p.cr.tiers.length ≤ 12 ∧ p.de.tiers.length ≤ 12 ∧ (∀ x ∈ p.fees, tallX 12 x.when_ = false ∧ tallX 12 x.amount = false) ∧ ∀ x ∈ p.rules, tallX 12 x.amount = false := by
  simp only [fewS] at h
  cases h1 : (((decide (p.fees.length > 12) || decide (p.rules.length > 12)) || decide (p.cr.tiers.length > 12)) || decide (p.de.tiers.length > 12)) with
  | true => rw [h1] at h; cases h
  | false =>
    rw [h1] at h
    simp only [cond_false, Bool.and_eq_true, Bool.not_eq_true', List.any_eq_false, Bool.or_eq_true, not_or] at h
    simp only [Bool.or_eq_false_iff, decide_eq_false_iff_not] at h1
    refine ⟨by omega, by omega, by omega, by omega, fun x hx => ?_, fun x hx => ?_⟩
    · have := h.1 x hx; simpa using this
    · have := h.2 x hx; simpa using this
theorem tall_wid : ∀ (n : Nat) (e : Ex), tallX n e = false → e.allX (fun x => decide (x.args.length ≤ 8)) = true := by
  intro n
  induction n with
  | zero => intro e h; cases h
  | succ n ih =>
    intro e h
    simp only [tallX, Bool.or_eq_false_iff, decide_eq_false_iff_not, List.any_eq_false] at h
    rw [Ex.allX_eq, Bool.and_eq_true, List.all_eq_true]
    exact ⟨decide_eq_true (by omega), fun x hx => ih x (by simpa using h.2.2 x hx)⟩
theorem allX_mono {p q : Ex → Bool} (hpq : ∀ x, p x = true → q x = true) : ∀ e : Ex, e.allX p = true → e.allX q = true := by
  intro e
  induction e using Ex.ind with
  | h o n s l ih =>
    intro h
    rw [Ex.allX_eq, Bool.and_eq_true, List.all_eq_true] at h ⊢
    exact ⟨hpq _ h.1, fun x hx => ih x hx (h.2 x hx)⟩
theorem tall_wm {e : Ex} (h : tallX 12 e = false) : Wm e := allX_mono (fun x hx => decide_eq_true (Nat.le_trans (of_decide_eq_true hx) (by decide))) e (tall_wid 12 e h)
theorem tall_wd {e : Ex} (h : tallX 12 e = false) : Wd e := allX_mono (fun x hx => decide_eq_true (Nat.le_trans (of_decide_eq_true hx) (by decide))) e (tall_wid 12 e h)
theorem f_u125q_val (p : Pr) (f r : List AV) (b : Int) : f_u125q p.name p.cur p.cal p.from_ p.every p.over p.tax (ETr p.cr.tiers) p.cr.marg p.cr.basis p.cr.mode p.cr.keep (ETr p.de.tiers) p.de.marg p.de.basis p.de.mode p.de.keep f r b =
    some (bif decide (b < 0) then (ETr p.de.tiers, p.de.marg, p.de.basis, p.de.mode, p.de.keep) else (ETr p.cr.tiers, p.cr.marg, p.cr.basis, p.cr.mode, p.cr.keep)) := by
  rw [f_u125q_eq, tr_u125q, ev_br]
  cases decide (b < 0) <;> rfl
theorem f_u32q_val {a b : In} (ha : a.tiers.length ≤ 1000000) (hb : b.tiers.length ≤ 1000000) : f_u32q (ETr a.tiers) a.marg a.basis a.mode a.keep (ETr b.tiers) b.marg b.basis b.mode b.keep = some (sameIn a b) := by
  rw [f_u32q_eq, tr_u32q, List.length_map, List.length_map, sameIn]
  by_cases hl : a.tiers.length = b.tiers.length
  · have e1 : ((a.tiers.length : Int) != (b.tiers.length : Int)) = false := by simp [hl]
    have e2 : (a.tiers.length == b.tiers.length) = true := by simp [hl]
    have hloop : ∃ w, l_u26q (0, ETr a.tiers, a.marg, a.basis, a.mode, a.keep, ETr b.tiers, b.marg, b.basis, b.mode, b.keep) = some (bif (List.range a.tiers.length).any (difB eqT a.tiers b.tiers) then 0 else 1, w) := by
      have h := loop_searchI (st := fun v => (st_u26q v).ev) (N := a.tiers.length) (hd := fun i => ((i : Int), ETr a.tiers, a.marg, a.basis, a.mode, a.keep, ETr b.tiers, b.marg, b.basis, b.mode, b.keep)) (jx := fun _ => 0) (difB eqT a.tiers b.tiers) 1 (fun i hn => ?_) ?_
      · rw [seek_const] at h
        rw [l_u26q_eq]; exact ⟨_, h⟩
      · have hn' : i < b.tiers.length := by omega
        simp only [st_u26q, st_u26q_0, List.length_map, lt_at hn, okTr hn, okTr hn', qtr0 hn, qtr1 hn, qtr0 hn', qtr1 hn', ev_br, ev_at, cond_true, wrap_succ hn (le_big ha), if_true, difB, List.getElem?_eq_getElem hn, List.getElem?_eq_getElem hn', eqT]
        cases (a.tiers[i].from_ == b.tiers[i].from_ && (a.tiers[i].ppm == b.tiers[i].ppm && true)) <;> rfl
      · simp [st_u26q, st_u26q_0]
    obtain ⟨w, h⟩ := hloop
    rw [e1, e2, h, if_pos rfl, if_pos rfl, br_or, ev_bi_some, br_or, ev_bi_some, br_or, ev_bi_some, br_or, ev_bi_some, ev_br]
    simp only [bne]
    generalize (a.marg == b.marg) = q1
    generalize (a.basis == b.basis) = q2
    generalize (a.mode == b.mode) = q3
    generalize (a.keep == b.keep) = q4
    cases (List.range a.tiers.length).any (difB eqT a.tiers b.tiers) <;> cases q1 <;> cases q2 <;> cases q3 <;> cases q4 <;> rfl
  · have e1 : ((a.tiers.length : Int) != (b.tiers.length : Int)) = true := by simp; omega
    have e2 : (a.tiers.length == b.tiers.length) = false := by simpa using hl
    rw [e1, e2, br_or, ev_bi_some, br_or, ev_bi_some, br_or, ev_bi_some, br_or, ev_bi_some, ev_br]; rfl
theorem R10_Same_key : ∀ (e : Ex), Wd e → ∀ (f : Ex), Wd f → ∀ k, e.dep ≤ k → N_u123q k e.op e.num e.txt (EX e.args) f.op f.num f.txt (EX f.args) = some (sameX e f) := by
  intro e
  induction e using Ex.ind with
  | h o n s l ih =>
    intro hw f hf k hk
    have hd := Ex.dep_pos (.mk o n s l)
    obtain ⟨k, rfl⟩ : ∃ k', k = k' + 1 := ⟨k - 1, by omega⟩
    obtain ⟨o', n', s', m⟩ := f
    have hlen : l.length ≤ big := hw.len
    show (tr_u123q (N_u123q k) o n s (EX l) o' n' s' (EX m)).ev = _
    rw [tr_u123q, List.length_map, List.length_map, br_or, ev_bi_some, br_or, ev_bi_some, br_or, ev_bi_some, ev_br, sameX, sameXs_eq, sameL]
    by_cases hl : l.length = m.length
    · have e1 : ((l.length : Int) != (m.length : Int)) = false := by simp [hl]
      have e2 : (l.length == m.length) = true := by simp [hl]
      have hloop : ∃ w, l_u101q (N_u123q k) (0, o, n, s, EX l, o', n', s', EX m) = some (bif (List.range l.length).any (difB sameX l m) then 0 else 1, w) := by
        have h := loop_searchI (st := fun v => (st_u101q (N_u123q k) v).ev) (N := l.length) (hd := fun i => ((i : Int), o, n, s, EX l, o', n', s', EX m)) (jx := fun _ => 0) (difB sameX l m) 1 (fun i hn => ?_) ?_
        · rw [seek_const] at h
          rw [l_u101q_eq]; exact ⟨_, h⟩
        · have hn' : i < m.length := by omega
          have hxd := dep_arg (e := .mk o n s l) (x := l[i]) (List.getElem_mem hn)
          have hv := ih l[i] (List.getElem_mem hn) (hw.arg (List.getElem_mem hn)) m[i] (hf.arg (List.getElem_mem hn')) k (by omega)
          simp only [st_u101q, st_u101q_0, List.length_map, lt_at hn, okX hn, okX hn', qx0 hn, qx1 hn, qx2 hn, qx3 hn, qx0 hn', qx1 hn', qx2 hn', qx3 hn', hv, ev_bi_some, ev_br, ev_at, cond_true, wrap_succ hn hlen, difB, List.getElem?_eq_getElem hn, List.getElem?_eq_getElem hn']
          cases sameX l[i] m[i] <;> rfl
        · simp [st_u101q, st_u101q_0]
      obtain ⟨w, h⟩ := hloop
      rw [e1, e2, h]
      simp only [bne]
      generalize (o == o') = q1
      generalize (n == n') = q2
      generalize (s == s') = q3
      cases (List.range l.length).any (difB sameX l m) <;> cases q1 <;> cases q2 <;> cases q3 <;> rfl
    · have e1 : ((l.length : Int) != (m.length : Int)) = true := by simp; omega
      have e2 : (l.length == m.length) = false := by simpa using hl
      rw [e1, e2]
      simp
theorem f_u123q_val {e f : Ex} (he : Wd e) (hf : Wd f) : f_u123q e.op e.num e.txt (EX e.args) f.op f.num f.txt (EX f.args) = some (sameX e f) := limO_of (R10_Same_key e he f hf)
theorem f_u69q_val {l m : List Fe} (hlen : l.length ≤ 1000000) (hl' : ∀ x ∈ l, FeW x) (hm' : ∀ x ∈ m, FeW x) : f_u69q (EF l) (EF m) = some (sameL sameFe l m) := by
  rw [f_u69q_eq, tr_u69q, sameL, List.length_map, List.length_map]
  by_cases hl : l.length = m.length
  · have e1 : ((l.length : Int) != (m.length : Int)) = false := by simp [hl]
    have e2 : (l.length == m.length) = true := by simp [hl]
    have hloop : ∃ w, l_u45q (EF l, EF m, 0) = some (bif (List.range l.length).any (difB sameFe l m) then 0 else 1, w) := by
      have h := loop_searchI (st := fun v => (st_u45q v).ev) (N := l.length) (hd := fun i => (EF l, EF m, (i : Int))) (jx := fun _ => 0) (difB sameFe l m) 1 (fun i hn => ?_) ?_
      · rw [seek_const] at h
        rw [l_u45q_eq]; exact ⟨_, h⟩
      · have hn' : i < m.length := by omega
        simp only [st_u45q, st_u45q_0, List.length_map, lt_at hn, okF hn, okF hn', qf0 hn, qf1 hn, qf2 hn, qf3 hn, qf4 hn, qf5 hn, qf6 hn, qf7 hn, qf8 hn, qf9 hn, qf0 hn', qf1 hn', qf2 hn', qf3 hn', qf4 hn', qf5 hn', qf6 hn', qf7 hn', qf8 hn', qf9 hn', f_u123q_val (hl' _ (List.getElem_mem hn)).1 (hm' _ (List.getElem_mem hn')).1, f_u123q_val (hl' _ (List.getElem_mem hn)).2 (hm' _ (List.getElem_mem hn')).2, ev_bi_some, ev_br, ev_at, cond_true, wrap_succ hn (le_big hlen), difB, List.getElem?_eq_getElem hn, List.getElem?_eq_getElem hn', sameFe, bne]
        cases (l[i].name == m[i].name) <;> cases (l[i].event == m[i].event) <;> cases sameX l[i].when_ m[i].when_ <;> cases sameX l[i].amount m[i].amount <;> rfl
      · simp [st_u45q, st_u45q_0]
    obtain ⟨w, h⟩ := hloop
    rw [e1, e2, h]
    cases (List.range l.length).any (difB sameFe l m) <;> simp (decide := true)
  · have e1 : ((l.length : Int) != (m.length : Int)) = true := by simp; omega
    have e2 : (l.length == m.length) = false := by simpa using hl
    rw [e1, e2]; rfl
def hdFr (ev : Int) (p : Pr) (i : Int) : List Fe → TT_u102q
  | [] => .inl (ev, i, p.name, p.cur, p.cal, p.from_, p.every, p.over, p.tax, ETr p.cr.tiers, p.cr.marg, p.cr.basis, p.cr.mode, p.cr.keep, ETr p.de.tiers, p.de.marg, p.de.basis, p.de.mode, p.de.keep, EF p.fees, ER p.rules)
  | acc => .inr (ev, i, p.name, p.cur, p.cal, p.from_, p.every, p.over, p.tax, ETr p.cr.tiers, p.cr.marg, p.cr.basis, p.cr.mode, p.cr.keep, ETr p.de.tiers, p.de.marg, p.de.basis, p.de.mode, p.de.keep, EF p.fees, ER p.rules, EF acc)
theorem f_u124q_val (p : Pr) (hl : p.fees.length ≤ 1000000) (ev : Int) : f_u124q p.name p.cur p.cal p.from_ p.every p.over p.tax (ETr p.cr.tiers) p.cr.marg p.cr.basis p.cr.mode p.cr.keep (ETr p.de.tiers) p.de.marg p.de.basis p.de.mode p.de.keep (EF p.fees) (ER p.rules) ev =
    some (EF (p.fees.filter fun f => f.event == ev)) := by
  have key : ∀ (r i : Nat), i + r = p.fees.length → ∃ j, iterO (fun v => (st_u102q v).ev) (hdFr ev p (i : Int) ((p.fees.take i).filter fun f => f.event == ev)) = some (j, hdFr ev p (p.fees.length : Int) (p.fees.filter fun f => f.event == ev)) ∧ j = (if (p.fees.filter fun f => f.event == ev) = [] then 0 else 1) := by
    intro r
    induction r with
    | zero =>
      intro i hi
      have : i = p.fees.length := by omega
      subst this
      rw [List.take_length]
      cases hf : p.fees.filter (fun f => f.event == ev) with
      | nil => exact ⟨_, iterO_done (by simp [hdFr, st_u102q, st_u102q_0]), rfl⟩
      | cons q m => exact ⟨_, iterO_done (by simp [hdFr, st_u102q, st_u102q_1]), rfl⟩
    | succ r ihr =>
      intro i hi
      have hi' : i < p.fees.length := by omega
      obtain ⟨j, h1, h2⟩ := ihr (i + 1) (by omega)
      refine ⟨j, ?_, h2⟩
      rw [← h1]
      refine iterO_next ?_
      have e4 : (p.fees.take (i + 1)).filter (fun f => f.event == ev) = (p.fees.take i).filter (fun f => f.event == ev) ++ (bif p.fees[i].event == ev then [p.fees[i]] else []) := by
        rw [List.take_succ_eq_append_getElem hi', List.filter_append]
        cases hq : (p.fees[i].event == ev) <;> simp [hq]
      have hlen2 : ((p.fees.take i).filter fun f => f.event == ev).length ≤ 1000000 := Nat.le_trans (List.length_filter_le _ _) (by simp; omega)
      rw [e4]
      generalize (p.fees.take i).filter (fun f => f.event == ev) = acc at hlen2
      cases acc with
      | nil =>
        simp only [hdFr, st_u102q, Sum.elim_inl, st_u102q_0, List.length_map, lt_at hi', okF hi', qf0 hi', qf1 hi', qf2 hi', qf3 hi', qf4 hi', qf5 hi', qf6 hi', qf7 hi', qf8 hi', qf9 hi', ev_br, ev_at, ev_bi_some, cond_true, wrap_succ hi' (le_big hl)]
        cases hq : (p.fees[i].event == ev) <;> rfl
      | cons q acc =>
        have hroom : room ((EF (q :: acc)).length + 1) 136 = true := room_of (by simp only [lim, List.length_map]; omega)
        simp only [hdFr, st_u102q, Sum.elim_inr, st_u102q_1, hroom]
        simp only [List.length_map, lt_at hi', okF hi', qf0 hi', qf1 hi', qf2 hi', qf3 hi', qf4 hi', qf5 hi', qf6 hi', qf7 hi', qf8 hi', qf9 hi', ev_br, ev_at, ev_bi_some, cond_true, wrap_succ hi' (le_big hl)]
        cases hq : (p.fees[i].event == ev)
        · simp [hdFr]
        · simp [hdFr, Fe.av]
  obtain ⟨j, h1, rfl⟩ := key p.fees.length 0 (by omega)
  have hloop : l_u102q (hdFr ev p 0 []) = some (if (p.fees.filter fun f => f.event == ev) = [] then 0 else 1, hdFr ev p (p.fees.length : Int) (p.fees.filter fun f => f.event == ev)) := by rw [l_u102q_eq]; exact h1
  rw [f_u124q_eq, tr_u124q]
  simp only [hdFr] at hloop
  rw [hloop]
  cases p.fees.filter (fun f => f.event == ev) with
  | nil => simp (decide := true) [hdFr]
  | cons q m => simp (decide := true) [hdFr]
end Go.Proofs.H15s

/- Products: the document's Check. -/
import Derived.Test.YthljpgljbpdmjaaGreatDoorX15cPrs
set_option linter.unusedVariables false
set_option linter.unusedSimpArgs false
set_option linter.unnecessarySimpa false
namespace Go.Proofs.H15c
open Go Go.Eng Go.Tk
set_option maxRecDepth 20000
theorem qkp : qgl = some (EV varsP) := by rw [qwY, qjs]; rfl
theorem qgg {vs : List Va} (hv : vs.length ≤ big) {e : Ex} (hw : Wd e) (want : Int) : qgf e.op e.num e.txt (EX e.args) (EV vs) want = some (qfM e vs want) := by
 rw [qwM, qje, qtQ hv hw, qfM]
 cases h1 : ((ofS e vs).2 != 0) <;> cases h3 : ((ofS e vs).1 != want) <;> simp [h1, h3]
theorem qtJ {l : List Cu} (hl : l.length ≤ big) (s : Bs) : ∃ a b, qkk (EC l) s = some (a, b, l.any fun c => c.code == s) := by
 have hloop : qkU (EC l, s, 0, [], 0) = some (qix (fun c => c.code == s) (fun _ => 0) 1 l, EC l, s, ((l.findIdx fun c => c.code == s : Nat) : Int), [], 0) := by
  rw [qnQ]
  refine qav (hd := fun i => (EC l, s, (i : Int), [], 0)) (jx := fun _ => 0) _ 1 (fun i hn => ?_) ?_
  ·simp only [qhb, qh0, List.length_map, qaK hn, okC hn, qc0 hn, ev_br, ev_at, cond_true, qai hn hl]
   cases (l[i].code == s) <;> rfl
  ·simp [qhb, qh0]
 rw [qwR, qjl, hloop, qas]
 cases h : l.any (fun c => c.code == s)
 ·exact ⟨_, _, by simp (decide := true); exact ⟨rfl, rfl⟩⟩
 ·exact ⟨_, _, by simp (decide := true); exact ⟨rfl, rfl⟩⟩
theorem qtK {l : List Cal} (hl : l.length ≤ big) (s : Bs) : ∃ a b c, qkl (Tk.EK l) s = some (a, b, c, l.any fun c => c.name == s) := by
 have hloop : qkV (Tk.EK l, s, 0, []) = some (qix (fun c => c.name == s) (fun _ => 0) 1 l, Tk.EK l, s, ((l.findIdx fun c => c.name == s : Nat) : Int), []) := by
  rw [qnR]
  refine qav (hd := fun i => (Tk.EK l, s, (i : Int), [])) (jx := fun _ => 0) _ 1 (fun i hn => ?_) ?_
  ·simp only [qhc, qh1, List.length_map, qaK hn, okK hn, qk0 hn, ev_br, ev_at, cond_true, qai hn hl]
   cases (l[i].name == s) <;> rfl
  ·simp [qhc, qh1]
 rw [qwS, qjm, hloop, qas]
 cases h : l.any (fun c => c.name == s)
 ·exact ⟨_, _, _, by simp (decide := true); exact ⟨rfl, rfl, rfl⟩⟩
 ·exact ⟨_, _, _, by simp (decide := true); exact ⟨rfl, rfl, rfl⟩⟩
theorem qty (d : Int) : qkb d = some (decide (d ≥ 0) && decide (d ≤ 73048)) := by
 rw [qwJ, qjb]
 cases decide (d ≥ 0) <;> simp
theorem qtY {l : List Tr} (hl : l.length ≤ big) : qkP (ETr l, 0) = some (bif l.any qzT then 0 else 1, ETr l, ((l.findIdx qzT : Nat) : Int)) := by
 have h := qav (st := fun v => (qfv v).ev) (l := l) (hd := fun i => (ETr l, (i : Int))) (jx := fun _ => 0) qzT 1 (fun i hn => ?_) ?_
 ·rw [qas] at h
  rw [qnL]; exact h
 ·simp only [qfv, qhV, List.length_map, qaK hn, qFx hn, qFy hn, qKJ hn, ev_br, ev_at, br_eq, cond_true, qai hn hl, qzT]
  cases decide (l[i].from_ < 0) <;> cases decide (l[i].from_ > 1000000000000) <;> cases decide (l[i].ppm < 0) <;> cases decide (l[i].ppm > 1000000) <;> rfl
 ·simp [qfv, qhV]
theorem qtZ {l : List Tr} (hl : l.length ≤ big) : ∃ w, qkQ (ETr l, 1) = some (bif (List.range (l.length - 1)).any (qz8 l) then 0 else 1, ETr l, w) := by
 have h := qbl (st := fun v => (qfw v).ev) (N := l.length - 1) (hd := fun i => (ETr l, ((i + 1 : Nat) : Int))) (jx := fun _ => 0) (qz8 l) 1 (fun i hn => ?_) ?_
 ·rw [qas] at h
  rw [qnM]; exact ⟨_, h⟩
 ·have h1 : i + 1 < l.length := by omega
  have h0 : i < l.length := by omega
  have e1 : IntKind.i64.wrap (((i + 1 : Nat) : Int) - 1) = (i : Int) := by rw [wrap64 (by omega) (by simp only [big] at hl; omega)]; omega
  simp only [qfw, qhW, List.length_map, qaK h1, qFx h1, qFy h1, qKJ h1, e1, qFx h0, qFy h0, qKJ h0, ev_br, ev_at, cond_true, qai h1 hl, qz8, List.getElem?_eq_getElem h0, List.getElem?_eq_getElem h1]
  cases decide (l[i + 1].from_ ≤ l[i].from_) <;> rfl
 ·have : decide (((l.length - 1 + 1 : Nat) : Int) < (((ETr l).length : Nat) : Int)) = false := by simp; omega
  simp only [qfw, qhW, this]; rfl
theorem qtE {l : List Tr} (hl : l.length ≤ big) : qkf (ETr l) = some (qsH l) := by
 obtain ⟨w, hw⟩ := qtZ hl
 rw [qwN, qjf, List.length_map, qtY hl]
 unfold qsH
 by_cases h6 : l.length > 6
 ·have : decide ((l.length : Int) > 6) = true := by simp; omega
  rw [this, if_pos h6]; rfl
 ·have h6' : decide ((l.length : Int) > 6) = false := by simp; omega
  rw [h6', if_neg h6]
  cases l.any qzT
  ·simp (decide := true) only [ev_br, br_eq, cond_false, pj_some, if_true, if_false, ev_bi_none, ev_bi_some, hw]
   cases (List.range (l.length - 1)).any (qz8 l)
   ·cases l with
    | nil => simp (decide := true)
    | cons t r =>
     have h0 : 0 < (t :: r).length := by simp
     have e1 : qaS qRW (ETr (t :: r)) 0 = true := qFx (n := 0) h0
     have e2 : intOf (cellAt (ETr (t :: r)) 0 0) = t.from_ := qFy (n := 0) h0
     have e3 : decide ((((ETr (t :: r)).length : Nat) : Int) > 0) = true := by simp
     simp (decide := true) only [pj_some, if_true, if_false, ev_bi_none, Bool.not_false, Bool.not_true, cond_true, cond_false, ev_br, br_eq, e1, e2, e3, ev_bi_some]
     cases (t.from_ != 0) <;> rfl
   ·simp (decide := true)
  ·simp (decide := true)
theorem qns {x : In} (hl : x.tiers.length ≤ big) : qnr (ETr x.tiers) x.marg x.basis x.mode x.keep = some (qmU x) := by
 rw [qAR, qqb, qtE hl, qmU]
 simp only [ev_bi_some, qbi, ev_br, ev_at, Bool.or_assoc]
 cases qsH x.tiers != 0
 ·cases (decide (x.basis < 1) || (decide (x.basis > 4) || (decide (x.mode < 1) || decide (x.mode > 6)))) <;> rfl
 ·rfl
theorem qt7 {c : UInt8} {r : Bs} (hl : r.length < 16) : ∃ w, qkY (c :: r, 1) = some (bif r.any (fun x => !at8 nmI x) then 0 else 1, w) := by
 have h := qav (st := fun v => (qfC v).ev) (l := r) (hd := fun i => (c :: r, ((i + 1 : Nat) : Int))) (jx := fun _ => 0) (fun x => !at8 nmI x) 1 (fun i hn => ?_) ?_
 ·rw [qas] at h
  rw [qnU]; exact ⟨_, h⟩
 ·have h1 : i + 1 < (c :: r).length := by simp; omega
  have eg : (c :: r)[i + 1] = r[i] := rfl
  have e48 : decide ((r[i].toNat : Int) ≥ 48) = !decide ((r[i].toNat : Int) < 48) := by
   by_cases h : (r[i].toNat : Int) < 48
   ·simp [h]
   ·simp [h]; omega
  have e57 : decide ((r[i].toNat : Int) ≤ 57) = !decide ((r[i].toNat : Int) > 57) := by
   by_cases h : (r[i].toNat : Int) > 57
   ·simp [h]
   ·simp [h]; omega
  have e97 : decide ((r[i].toNat : Int) ≥ 97) = !decide ((r[i].toNat : Int) < 97) := by
   by_cases h : (r[i].toNat : Int) < 97
   ·simp [h]
   ·simp [h]; omega
  have e122 : decide ((r[i].toNat : Int) ≤ 122) = !decide ((r[i].toNat : Int) > 122) := by
   by_cases h : (r[i].toNat : Int) > 122
   ·simp [h]
   ·simp [h]; omega
  simp only [qfC, qh4, qaK h1, qeS h1, qbw h1, eg, ev_br, br_eq, cond_true, at8, nmI, ltB, e48, e57, e97, e122, bne, qai h1 (show (c :: r).length ≤ big by simp [big]; omega)]
  generalize decide ((r[i].toNat : Int) < 97) = a1
  generalize decide ((r[i].toNat : Int) > 122) = a2
  generalize ((r[i].toNat : Int) == 95) = a4
  generalize decide ((r[i].toNat : Int) < 48) = a5
  generalize decide ((r[i].toNat : Int) > 57) = a6
  cases a1 <;> cases a2 <;> cases a4 <;> cases a5 <;> cases a6 <;> rfl
 ·have : decide (((r.length + 1 : Nat) : Int) < (((c :: r).length : Nat) : Int)) = false := by simp
  simp only [qfC, qh4, this]; rfl
theorem qgk (s : Bs) : qgj s = some (nmB s) := by
 rw [qwX, qjr]
 cases s with
 | nil => rfl
 | cons c r =>
  have h0 : 0 < (c :: r).length := by simp
  have e0 : inB (c :: r).length 0 = true := qeS h0
  have e1 : qaC (c :: r) 0 = (c.toNat : Int) := qbw h0
  have e2 : decide ((((c :: r).length : Nat) : Int) > 16) = !decide (r.length < 16) := by
   by_cases h : r.length < 16
   ·simp [h]; omega
   ·simp [h]; omega
  have e3 : ((c :: r) == ([] : Bs)) = false := rfl
  have e97 : decide ((c.toNat : Int) ≥ 97) = !decide ((c.toNat : Int) < 97) := by
   by_cases h : (c.toNat : Int) < 97
   ·simp [h]
   ·simp [h]; omega
  have e122 : decide ((c.toNat : Int) ≤ 122) = !decide ((c.toNat : Int) > 122) := by
   by_cases h : (c.toNat : Int) > 122
   ·simp [h]
   ·simp [h]; omega
  rw [e3, e2, e0, e1, nmB]
  by_cases h16 : r.length < 16
  ·obtain ⟨w, h⟩ := qt7 (c := c) h16
   have hany : r.any (fun x => !at8 nmI x) = !r.all (at8 nmI) := by rw [List.any_eq_not_all_not]; simp
   have h1 : at8 ltB c = (decide ((c.toNat : Int) ≥ 97) && decide ((c.toNat : Int) ≤ 122)) := rfl
   rw [h, decide_eq_true h16, hany, h1, e97, e122]
   generalize r.all (at8 nmI) = q
   generalize decide ((c.toNat : Int) < 97) = a1
   generalize decide ((c.toNat : Int) > 122) = a2
   cases q <;> cases a1 <;> cases a2 <;> rfl
  ·rw [decide_eq_false h16]; rfl
theorem qkt {x : Fe} (h : FeW x) : qgn x.name x.event x.when_.op x.when_.num x.when_.txt (EX x.when_.args) x.amount.op x.amount.num x.amount.txt (EX x.amount.args) = some (qqt x) := by
 rw [qw2, qjw, qgk, qkp, qqt]
 simp only [ev_bi_some, qbi, ev_br, ev_at, qgg qdU h.1, qgg qdU h.2]
 cases nmB x.name <;> cases (decide (x.event < 1) || decide (x.event > 4)) <;> cases (qfM x.when_ varsP 5 != 0) <;> rfl
theorem qkq {x : Ru} (h : Wd x.amount) : qgm x.name x.window x.amount.op x.amount.num x.amount.txt (EX x.amount.args) = some (qgw x) := by
 rw [qwZ, qjt, qgk, qkp, qgw]
 simp only [ev_bi_some, qbi, ev_br, ev_at, qgg qdU h]
 cases nmB x.name <;> cases (decide (x.window < 1) || decide (x.window > 3)) <;> rfl
abbrev HdC (p : Pr) (i : Int) : qcj := (i, p.name, p.cur, p.cal, p.from_, p.every, p.over, p.tax, ETr p.cr.tiers, p.cr.marg, p.cr.basis, p.cr.mode, p.cr.keep, ETr p.de.tiers, p.de.marg, p.de.basis, p.de.mode, p.de.keep, EF p.fees, ER p.rules)
theorem qt3 {p : Pr} (hp : PrW p) : qkR (HdC p 0) = some (bif p.fees.any (fun x => qqt x != 0) then 0 else 1, HdC p ((p.fees.findIdx fun x => qqt x != 0 : Nat) : Int)) := by
 have h := qav (st := fun v => (qfx v).ev) (l := p.fees) (hd := fun i => HdC p (i : Int)) (jx := fun _ => 0) (fun x => qqt x != 0) 1 (fun i hn => ?_) ?_
 ·rw [qas] at h
  rw [qnN]; exact h
 ·simp only [HdC, qfx, qhX, List.length_map, qaK hn, okF hn, qf0 hn, qf1 hn, qf2 hn, qf3 hn, qf4 hn, qf5 hn, qf6 hn, qf7 hn, qf8 hn, qf9 hn, qkt (hp.fees _ (List.getElem_mem hn)), ev_bi_some, ev_br, ev_at, cond_true, qai hn (qcE hp.fel)]
  cases qqt p.fees[i] != 0 <;> rfl
 ·simp [qfx, qhX]
theorem qt4 {p : Pr} (hp : PrW p) : qkS (HdC p 0) = some (bif p.rules.any (fun x => qgw x != 0) then 0 else 1, HdC p ((p.rules.findIdx fun x => qgw x != 0 : Nat) : Int)) := by
 have h := qav (st := fun v => (qfy v).ev) (l := p.rules) (hd := fun i => HdC p (i : Int)) (jx := fun _ => 0) (fun x => qgw x != 0) 1 (fun i hn => ?_) ?_
 ·rw [qas] at h
  rw [qnO]; exact h
 ·simp only [HdC, qfy, qhY, List.length_map, qaK hn, okR hn, qr0 hn, qr1 hn, qr2 hn, qr3 hn, qr4 hn, qr5 hn, qkq (hp.rules _ (List.getElem_mem hn)), ev_bi_some, ev_br, ev_at, cond_true, qai hn (qcE hp.rul)]
  cases qgw p.rules[i] != 0 <;> rfl
 ·simp [qfy, qhY]
theorem qtF {p : Pr} {l : List Cu} {c : List Cal} (hp : PrW p) (hl : l.length ≤ big) (hc : c.length ≤ big) :
  qkg p.name p.cur p.cal p.from_ p.every p.over p.tax (ETr p.cr.tiers) p.cr.marg p.cr.basis p.cr.mode p.cr.keep (ETr p.de.tiers) p.de.marg p.de.basis p.de.mode p.de.keep (EF p.fees) (ER p.rules) (EC l) (Tk.EK c) = some (prS p l c) := by
 obtain ⟨a1, a2, h1⟩ := qtJ hl p.cur
 obtain ⟨b1, b2, b3, h2⟩ := qtK hc p.cal
 have h0 := qt3 hp
 have h9 := qt4 hp
 simp only [HdC] at h0 h9
 have e1 : decide ((((EF p.fees).length : Nat) : Int) > 4) = decide (p.fees.length > 4) := by rw [List.length_map]; congr 1; exact propext ⟨fun h => by omega, fun h => by omega⟩
 have e2 : decide ((((ER p.rules).length : Nat) : Int) > 4) = decide (p.rules.length > 4) := by rw [List.length_map]; congr 1; exact propext ⟨fun h => by omega, fun h => by omega⟩
 rw [qwO, qjg, qgk, h1, h2, qty, qns (qcE hp.crl), qns (qcE hp.del), h0, e1, e2, prS, qxz]
 generalize decide (p.from_ ≥ 0) = d1
 generalize decide (p.from_ ≤ 73048) = d2
 generalize decide (p.over < 0) = d3
 generalize decide (p.over > 1000000000000) = d4
 generalize decide (p.tax < 0) = d5
 generalize decide (p.tax > 1000000) = d6
 generalize (p.every == 1) = g1
 generalize (p.every == 3) = g2
 generalize (p.every == 6) = g3
 generalize (p.every == 12) = g4
 have hq : ((((((!(d1 && d2)) || !(((g1 || g2) || g3) || g4)) || d3) || d4) || d5) || d6) = (!(d1 && d2) || (!(g1 || (g2 || (g3 || g4))) || (d3 || (d4 || (d5 || d6))))) := by simp only [Bool.or_assoc]
 rw [← hq, ev_bi_some, ev_br, ev_bi_some, ev_br, ev_bi_some, ev_br, qbi, ev_bi_some, qbi, ev_bi_some, qbi, ev_bi_some, ev_bi_some, qbi, ev_bi_some, qbi, ev_bi_some, qbi, ev_bi_some, qbi, ev_bi_some, qbi, ev_bi_some, ev_br, ev_bi_some, ev_br, ev_bi_some, ev_br, qbi, ev_bi_some, ev_br]
 generalize ((((((!(d1 && d2)) || !(((g1 || g2) || g3) || g4)) || d3) || d4) || d5) || d6) = q4
 generalize nmB p.name = q1
 generalize l.any (fun x => x.code == p.cur) = q2
 generalize c.any (fun x => x.name == p.cal) = q3
 cases q1
 ·rfl
 cases q2
 ·rfl
 cases q3
 ·rfl
 cases q4
 ·cases g1 : (qmU p.cr != 0)
  ·cases g2 : (qmU p.de != 0)
   ·cases g3 : (decide (p.fees.length > 4) || decide (p.rules.length > 4))
    ·cases h3 : p.fees.any (fun x => qqt x != 0)
     ·have hz := qff h3
      simp (decide := true) only [ev_bi_some, ev_br, ev_at, cond_false, cond_true, pj_some, if_true, if_false, ev_bi_none, hz, h9, g1, g2, Bool.not_true, bne_self_eq_false]
      cases h4 : p.rules.any (fun x => qgw x != 0)
      ·simp (decide := true) [qff h4]
      ·obtain ⟨hi, hv, hnz⟩ := qdh h4
       simp (decide := true) only [pj_some, if_true, ev_bi_some, cond_true, qr0 hi, qr1 hi, qr2 hi, qr3 hi, qr4 hi, qr5 hi, qkq (hp.rules _ (List.getElem_mem hi)), gv_some, ev_at, hv]
     ·obtain ⟨hi, hv, hnz⟩ := qdh h3
      have hnz' : (qeR qqt p.fees != 0) = true := by simpa using hnz
      simp (decide := true) only [ev_bi_some, ev_br, ev_at, cond_false, cond_true, pj_some, if_true, qf0 hi, qf1 hi, qf2 hi, qf3 hi, qf4 hi, qf5 hi, qf6 hi, qf7 hi, qf8 hi, qf9 hi, qkt (hp.fees _ (List.getElem_mem hi)), gv_some, hv, hnz', g1, g2, Bool.not_true, bne_self_eq_false]
    ·simp [g1, g2]
   ·simp [g1]
  ·simp
 ·rfl
theorem qii : ∀ (n : Nat) (e : Ex), qbs n e = false → e.nodes ≤ 9 ^ n := by
 intro n
 induction n with
 | zero => intro e h; cases h
 | succ n ih =>
  intro e h
  simp only [qbs, Bool.or_eq_false_iff, decide_eq_false_iff_not, List.any_eq_false] at h
  have h1 : e.args.length ≤ 8 := by omega
  have h2 : ∀ x ∈ e.args, x.nodes ≤ 9 ^ n := fun x hx => ih x (by simpa using h.2.2 x hx)
  have h3 : ∀ l : List Ex, (∀ x ∈ l, x.nodes ≤ 9 ^ n) → Ex.nodesL l ≤ l.length * 9 ^ n := by
   intro l
   induction l with
   | nil => intro _; simp [Ex.nodesL]
   | cons x l ihl =>
    intro hx
    have a1 := hx x (by simp)
    have a2 := ihl fun y hy => hx y (by simp [hy])
    simp only [Ex.nodesL, List.length_cons, Nat.add_mul, Nat.one_mul]
    omega
  have h4 := h3 e.args h2
  have h5 : e.args.length * 9 ^ n ≤ 8 * 9 ^ n := Nat.mul_le_mul_right _ h1
  have h6 : 1 ≤ 9 ^ n := Nat.one_le_pow _ _ (by omega)
  rw [qpa, Nat.pow_succ]
  omega
theorem qv8 {p : Pr} {l : List Cu} {c : List Cal} (hn : p.name.length ≤ big) (hfn : ∀ x ∈ p.fees, x.name.length ≤ big) (hrn : ∀ x ∈ p.rules, x.name.length ≤ big) (hl : l.length ≤ big) (hc : c.length ≤ big) (hk : ∀ x ∈ c, qv7 x) :
  quP p.name p.cur p.cal p.from_ p.every p.over p.tax (ETr p.cr.tiers) p.cr.marg p.cr.basis p.cr.mode p.cr.keep (ETr p.de.tiers) p.de.marg p.de.basis p.de.mode p.de.keep (EF p.fees) (ER p.rules) (EC l) (Tk.EK c) = some true := by
 rw [qAr, qpN, qtO, qBW, ev_bi_some, qbi, ev_bi_some, qbi, ev_bi_some, ev_br]
 cases hf : qOa p
 ·rfl
 ·obtain ⟨h1, h2, h3, h4, h5, h6⟩ := qJD hf
  have hb : (9 : Nat) ^ 12 ≤ big := by decide
  have hp : PrOk p := ⟨hn, by omega, by omega, by omega, by omega, fun x hx => ⟨hfn x hx, Nat.le_trans (qii 12 _ (h5 x hx).1) hb, Nat.le_trans (qii 12 _ (h5 x hx).2) hb⟩, fun x hx => ⟨hrn x hx, Nat.le_trans (qii 12 _ (h6 x hx)) hb⟩⟩
  rw [qhC hp hl hc hk, qtF (qM3 hf) hl hc]
  cases (!true || decide (((EC l).length : Int) > 12)) || decide (((Tk.EK c).length : Int) > 12)
  ·simp
  ·rfl
end Go.Proofs.H15c

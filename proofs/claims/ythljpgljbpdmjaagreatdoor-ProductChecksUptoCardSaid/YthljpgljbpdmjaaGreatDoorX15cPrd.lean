/- Products: what the program's printed functions come to. -/
import Derived.Test.YthljpgljbpdmjaaGreatDoorX15cTyp
import Derived.Test.YthljpgljbpdmjaaGreatDoorPrA
set_option linter.unusedVariables false
set_option linter.unusedSimpArgs false
set_option linter.unnecessarySimpa false
namespace Go.Proofs.H15c
open Go Go.Eng Go.Tk
set_option maxRecDepth 20000
theorem qhG {vs : List Va} (hv : vs.length ≤ big) {e : Ex} (h : e.nodes ≤ big) (want : Int) : qkC e.op e.num e.txt (EX e.args) (EV vs) want = some (qfM e vs want) := by
 rw [qA6, qqp, qtH hv h, qfM]
 cases h1 : ((ofS e vs).2 == 0)
 ·simp [bne, h1]
 ·have h2 : (ofS e vs).2 = 0 := by simpa using h1
  cases h3 : ((ofS e vs).1 != want) <;> simp [h2, h3]
theorem qxM (a b c d : Bs) : qrz (.inl (a, b, c, d, 0)) = some (1, .inr (a, b, c, d, 4, EV [⟨a, 2⟩, ⟨b, 2⟩, ⟨c, 2⟩, ⟨d, 2⟩])) := by
 rw [qrA]
 have h0 : (qgA (.inl (a, b, c, d, 0))).ev = some (.next (.inr (a, b, c, d, 1, EV [⟨a, 2⟩]))) := rfl
 have h1 : (qgA (.inr (a, b, c, d, 1, EV [⟨a, 2⟩]))).ev = some (.next (.inr (a, b, c, d, 2, EV [⟨a, 2⟩, ⟨b, 2⟩]))) := rfl
 have h2 : (qgA (.inr (a, b, c, d, 2, EV [⟨a, 2⟩, ⟨b, 2⟩]))).ev = some (.next (.inr (a, b, c, d, 3, EV [⟨a, 2⟩, ⟨b, 2⟩, ⟨c, 2⟩]))) := rfl
 have h3 : (qgA (.inr (a, b, c, d, 3, EV [⟨a, 2⟩, ⟨b, 2⟩, ⟨c, 2⟩]))).ev = some (.next (.inr (a, b, c, d, 4, EV [⟨a, 2⟩, ⟨b, 2⟩, ⟨c, 2⟩, ⟨d, 2⟩]))) := rfl
 rw [qaH h0, qaH h1, qaH h2, qaH h3]
 exact qar rfl
theorem qxN (a b : Bs) (l : List AV) (hr : room (l.length + 1) 24 = true) (hr2 : room ((l ++ [(Va.mk a 1).av]).length + 1) 24 = true) : qk6 (.inr (a, b, 0, l)) = some (1, .inr (a, b, 2, l ++ [(Va.mk a 1).av] ++ [(Va.mk b 1).av])) := by
 rw [qrB]
 have h0 : (qml (.inr (a, b, 0, l))).ev = some (.next (.inr (a, b, 1, l ++ [(Va.mk a 1).av]))) := by
  show (DT.br (room (l.length + 1) 24) _ _).ev = _
  rw [hr]; rfl
 have h1 : (qml (.inr (a, b, 1, l ++ [(Va.mk a 1).av]))).ev = some (.next (.inr (a, b, 2, l ++ [(Va.mk a 1).av] ++ [(Va.mk b 1).av]))) := by
  show (DT.br (room ((l ++ [(Va.mk a 1).av]).length + 1) 24) _ _).ev = _
  rw [hr2]; rfl
 rw [qaH h0, qaH h1]
 exact qar rfl
theorem qhE : qip = some (EV varsP) := by
 rw [qAW, qqf, qxM]
 simp (decide := true) only [pj_some, if_true, if_false, ev_bi_none, ev_bi_some, sr_inr]
 rw [qxN _ _ _ rfl rfl]
 simp (decide := true) only [pj_some, if_true, if_false, ev_bi_none, ev_bi_some, sr_inr]
 rfl
theorem qxS {l : List Cu} (hl : l.length ≤ big) (s : Bs) (z : Bs) (k : Int) : qrL (s, EC l, (l.length : Int), 0, z, k) = some (qix (fun c => c.code == s) (fun _ => 0) 1 l, s, EC l, (l.length : Int), ((l.findIdx fun c => c.code == s : Nat) : Int), z, k) := by
 rw [qrM]
 refine qav (hd := fun i => (s, EC l, (l.length : Int), (i : Int), z, k)) (jx := fun _ => 0) _ 1 (fun i hn => ?_) ?_
 ·simp only [qmw, qmx, qaK hn, okC hn, qc0 hn, ev_br, ev_at, br_eq, cond_true, qai hn hl]
  cases (l[i].code == s) <;> rfl
 ·simp [qmw, qmx]
theorem qtr {l : List Cu} (hl : l.length ≤ big) (s : Bs) : ∃ a b, qj5 (EC l) s = some (a, b, l.any fun c => c.code == s) := by
 rw [qwB, qi3, List.length_map, qxS hl, qas]
 cases h : l.any (fun c => c.code == s)
 ·exact ⟨_, _, by simp (decide := true); exact ⟨rfl, rfl⟩⟩
 ·exact ⟨_, _, by simp (decide := true); exact ⟨rfl, rfl⟩⟩
theorem qw9 (a : Bs) (x y : List AV) (s : Bs) : qqS a x y s = some (a == s) := by rw [qAw, qpR]; rfl
theorem qmW {l : List Cal} (hl : l.length ≤ big) (s : Bs) : qAV (EK l) s = some (bif l.any (fun c => c.name == s) then ((l.findIdx fun c => c.name == s : Nat) : Int) else -1) := by
 have hloop : qBT (EK l, s, (l.length : Int), 0) = some (qix (fun c => c.name == s) (fun _ => 0) 1 l, EK l, s, (l.length : Int), ((l.findIdx fun c => c.name == s : Nat) : Int)) := by
  rw [qvg]
  refine qav (hd := fun i => (EK l, s, (l.length : Int), (i : Int))) (jx := fun _ => 0) _ 1 (fun i hn => ?_) ?_
  ·simp only [qsB, qpp, qaK hn, okK hn, qk0 hn, qw9, ev_bi_some, ev_br, ev_at, br_eq, cond_true, qai hn hl]
   cases (l[i].name == s) <;> rfl
  ·simp [qsB, qpp]
 rw [qF7, qv3, List.length_map, hloop, qas]
 cases h : l.any (fun c => c.name == s) <;> simp (decide := true)
def qv7 (c : Cal) : Prop := c.wk.length * 8 ≤ lim ∧ c.hol.length * 8 ≤ lim
theorem qxh {l : List Cal} (hl : l.length ≤ big) (hc : ∀ c ∈ l, qv7 c) (s : Bs) : ∃ a b c, qqW (EK l) s = some (a, b, c, l.any fun c => c.name == s) := by
 rw [qAD, qpY, qmW hl]
 cases h : l.any (fun c => c.name == s)
 ·exact ⟨_, _, _, by simp (decide := true); exact ⟨rfl, rfl, rfl⟩⟩
 ·have hi : l.findIdx (fun c => c.name == s) < l.length := List.findIdx_lt_length.2 (by simpa using h)
  generalize l.findIdx (fun c => c.name == s) = i at hi
  obtain ⟨h1, h2⟩ := hc l[i] (List.getElem_mem hi)
  have h3 : decide ((i : Int) < 0) = false := by simp
  simp only [ev_bi_some, cond_true, h3, ev_br, br_eq, cond_false, okK hi, qk0 hi, qk1 hi, qk2 hi]
  have e1 : decide (l[i].wk.length * 8 ≤ lim) = true := decide_eq_true h1
  have e2 : decide (l[i].hol.length * 8 ≤ lim) = true := decide_eq_true h2
  by_cases g1 : l[i].wk.length = 0
  ·by_cases g2 : l[i].hol.length = 0
   ·exact ⟨_, _, _, by simp [g1, g2]; exact ⟨rfl, rfl, rfl⟩⟩
   ·exact ⟨_, _, _, by simp [g1, g2, h2]; exact ⟨rfl, rfl, rfl⟩⟩
  ·by_cases g2 : l[i].hol.length = 0
   ·exact ⟨_, _, _, by simp [g1, g2, h1]; exact ⟨rfl, rfl, rfl⟩⟩
   ·exact ⟨_, _, _, by simp [g1, g2, h1, h2]; exact ⟨rfl, rfl, rfl⟩⟩
def qFs (s : Bs) (i : Nat) : Bool := match s[i]? with
 | some c => !at8 ltB c && (i == 0 || !at8 nmI c)
 | none => false
theorem qxO {s : Bs} (hl : s.length ≤ big) : ∃ w, qrC (s, (s.length : Int), 0) = some (bif (List.range s.length).any (qFs s) then 0 else 1, s, w) := by
 rw [qrD]
 have h := qbl (st := fun v => (qic v).ev) (N := s.length) (hd := fun i => (s, (s.length : Int), (i : Int))) (jx := fun _ => 0) (qFs s) 1 (fun i hn => ?_) ?_
 ·rw [qas] at h
  exact ⟨_, h⟩
 ·have e0 : ((i : Int) == 0) = (i == 0) := by cases i <;> rfl
  simp only [qic, qmm, qaK hn, qeS hn, qbw hn, e0, ev_br, br_eq, cond_true, qFs, List.getElem?_eq_getElem hn, at8, nmI, ltB]
  have e48 : decide ((s[i].toNat : Int) ≥ 48) = !decide ((s[i].toNat : Int) < 48) := by
   by_cases h : (s[i].toNat : Int) < 48
   ·simp [h]
   ·simp [h]; omega
  have e57 : decide ((s[i].toNat : Int) ≤ 57) = !decide ((s[i].toNat : Int) > 57) := by
   by_cases h : (s[i].toNat : Int) > 57
   ·simp [h]
   ·simp [h]; omega
  simp only [e48, e57, bne, qai hn hl]
  generalize decide ((s[i].toNat : Int) ≥ 97) = a1
  generalize decide ((s[i].toNat : Int) ≤ 122) = a2
  generalize (i == 0) = a3
  generalize ((s[i].toNat : Int) == 95) = a4
  generalize decide ((s[i].toNat : Int) < 48) = a5
  generalize decide ((s[i].toNat : Int) > 57) = a6
  cases a1 <;> cases a2 <;> cases a3 <;> cases a4 <;> cases a5 <;> cases a6 <;> rfl
 ·simp [qic, qmm]
theorem qFT (s : Bs) : (!(List.range s.length).any (qFs s) && (decide ((s.length : Int) ≥ 1) && decide ((s.length : Int) ≤ 16))) = nmB s := by
 cases s with
 | nil => rfl
 | cons c r =>
  have hr : (List.range (c :: r).length).any (qFs (c :: r)) = (!at8 ltB c || r.any fun x => !at8 nmI x) := by
   rw [List.length_cons, List.range_succ_eq_map, List.any_cons, List.any_map]
   have h0 : qFs (c :: r) 0 = !at8 ltB c := by simp [qFs]
   rw [h0]
   congr 1
   have hlt : ∀ x : UInt8, (!at8 ltB x && !at8 nmI x) = !at8 nmI x := by
    intro x
    simp only [at8, nmI, ltB]
    cases (decide ((x.toNat : Int) ≥ 97) && decide ((x.toNat : Int) ≤ 122)) <;> simp
   have hx : ∀ i ∈ List.range r.length, (qFs (c :: r) ∘ Nat.succ) i = (match r[i]? with | some x => !at8 nmI x | none => false) := by
    intro i hi
    have hi' : i < r.length := by simpa using hi
    simp only [Function.comp, qFs, List.getElem?_cons_succ, List.getElem?_eq_getElem hi']
    have : (Nat.succ i == 0) = false := rfl
    rw [this, Bool.false_or, hlt]
   rw [Bool.eq_iff_iff, List.any_eq_true, List.any_eq_true]
   constructor
   ·rintro ⟨i, hi, hb⟩
    rw [hx i hi] at hb
    have hi' : i < r.length := by simpa using hi
    rw [List.getElem?_eq_getElem hi'] at hb
    exact ⟨r[i], List.getElem_mem hi', hb⟩
   ·rintro ⟨x, hxm, hb⟩
    obtain ⟨i, hi', rfl⟩ := List.mem_iff_getElem.1 hxm
    refine ⟨i, by simpa using hi', ?_⟩
    rw [hx i (by simpa using hi'), List.getElem?_eq_getElem hi']
    exact hb
  rw [hr, nmB]
  have e1 : decide ((((c :: r).length : Nat) : Int) ≥ 1) = true := by simp; omega
  have e2 : decide ((((c :: r).length : Nat) : Int) ≤ 16) = decide (r.length < 16) := by
   rw [List.length_cons]; congr 1; exact propext ⟨fun h => by omega, fun h => by omega⟩
  rw [e1, e2, List.any_eq_not_all_not]
  cases at8 ltB c <;> cases decide (r.length < 16) <;> simp
theorem qhF {s : Bs} (hl : s.length ≤ big) : qky s = some (nmB s) := by
 obtain ⟨w, h⟩ := qxO hl
 rw [qAY, qqh, h, ← qFT]
 cases (List.range s.length).any (qFs s)
 ·cases h1 : decide ((s.length : Int) ≥ 1) <;> cases h2 : decide ((s.length : Int) ≤ 16) <;> simp (decide := true) [h1, h2]
 ·simp (decide := true)
theorem qtm (d : Int) : qj2 d = some (decide (d ≥ 0) && decide (d ≤ 73048)) := by
 rw [qwz, qi1]
 cases decide (d ≥ 0) <;> simp
theorem qxs {p : Pr} {l : List Cu} {c : List Cal} (hn : p.name.length ≤ big) (hl : l.length ≤ big) (hc : c.length ≤ big) (hk : ∀ x ∈ c, qv7 x) (a : List AV) (b : Bool) (x y : Int) (z : Bool) (a' : List AV) (b' : Bool) (x' y' : Int) (z' : Bool) (f r : List AV) :
  qq2 p.name p.cur p.cal p.from_ p.every p.over p.tax a b x y z a' b' x' y' z' f r (EC l) (EK c) = some (qxz p l c) := by
 obtain ⟨a1, a2, h1⟩ := qtr hl p.cur
 obtain ⟨b1, b2, b3, h2⟩ := qxh hc hk p.cal
 rw [qAX, qqg, h1, h2, qhF hn, qtm, qxz]
 generalize decide (p.from_ ≥ 0) = d1
 generalize decide (p.from_ ≤ 73048) = d2
 generalize decide (p.over < 0) = d3
 generalize decide (p.over > 1000000000000) = d4
 generalize decide (p.tax < 0) = d5
 generalize decide (p.tax > 1000000) = d6
 generalize (p.every == 1) = g1
 generalize (p.every == 3) = g2
 generalize (p.every == 6) = g3
 generalize (p.every == 12) = g4
 generalize nmB p.name = q1
 generalize l.any (fun x => x.code == p.cur) = q2
 generalize c.any (fun x => x.name == p.cal) = q3
 clear h1 h2 hn hl hc hk
 have hq : ((((((!(d1 && d2)) || !(((g1 || g2) || g3) || g4)) || d3) || d4) || d5) || d6) = (!(d1 && d2) || (!(g1 || (g2 || (g3 || g4))) || (d3 || (d4 || (d5 || d6))))) := by simp only [Bool.or_assoc]
 rw [← hq, ev_bi_some, ev_bi_some, qbi, ev_bi_some, qbi, ev_bi_some, qbi, ev_bi_some, ev_bi_some, ev_br, ev_br, ev_br, ev_bi_some, qbi, ev_bi_some, qbi, ev_bi_some, qbi, ev_bi_some, qbi, ev_bi_some, qbi, ev_bi_some, ev_br]
 generalize ((((((!(d1 && d2)) || !(((g1 || g2) || g3) || g4)) || d3) || d4) || d5) || d6) = q4
 cases q1 <;> cases q2 <;> cases q3 <;> cases q4 <;> rfl
theorem qxT {l : List Tr} (hl : l.length ≤ big) (a : List AV) : qrN (a, ETr l, (l.length : Int), 0) = some (bif l.any qzT then 0 else 1, a, ETr l, (l.length : Int), ((l.findIdx qzT : Nat) : Int)) := by
 have h := qav (st := fun v => (qif v).ev) (l := l) (hd := fun i => (a, ETr l, (l.length : Int), (i : Int))) (jx := fun _ => 0) qzT 1 (fun i hn => ?_) ?_
 ·rw [qas] at h
  rw [qrO]; exact h
 ·simp only [qif, qmy, qaK hn, qFx hn, qFy hn, qKJ hn, ev_br, ev_at, br_eq, cond_true, qai hn hl, qzT]
  cases decide (l[i].from_ < 0) <;> cases decide (l[i].from_ > 1000000000000) <;> cases decide (l[i].ppm < 0) <;> cases decide (l[i].ppm > 1000000) <;> rfl
 ·simp [qif, qmy]
theorem qxt (a b : Int) : qnx a b = some a := by rw [qA0, qqj]; rfl
theorem qjV {l : List Tr} (hl : l.length ≤ big) : qqP (ETr l) = some (!(List.range (l.length - 1)).any (qz8 l)) := by
 have hloop : ∃ w, qrg (ETr l, 1) = some (bif (List.range (l.length - 1)).any (qz8 l) then 0 else 1, w) := by
  have h := qbl (st := fun v => (qh8 v).ev) (N := l.length - 1) (hd := fun i => (ETr l, ((i + 1 : Nat) : Int))) (jx := fun _ => 0) (qz8 l) 1 (fun i hn => ?_) ?_
  ·rw [qas] at h
   rw [qrh]; exact ⟨_, h⟩
  ·have h1 : i + 1 < l.length := by omega
   have h0 : i < l.length := by omega
   have e1 : IntKind.i64.wrap (((i + 1 : Nat) : Int) - 1) = (i : Int) := by rw [wrap64 (by omega) (by simp only [big] at hl; omega)]; omega
   simp only [qh8, ql1, List.length_map, qaK h1, qFx h1, qFy h1, qKJ h1, e1, qFx h0, qFy h0, qKJ h0, qxt, ev_bi_some, ev_br, ev_at, br_eq, cond_true, qai h1 hl, qz8, List.getElem?_eq_getElem h0, List.getElem?_eq_getElem h1]
   cases decide (l[i + 1].from_ ≤ l[i].from_) <;> rfl
  ·have : decide (((l.length - 1 + 1 : Nat) : Int) < (((ETr l).length : Nat) : Int)) = false := by simp; omega
   simp only [qh8, ql1, this]; rfl
 obtain ⟨w, h⟩ := hloop
 rw [qAp, qpL, h]
 cases (List.range (l.length - 1)).any (qz8 l) <;> simp (decide := true)
theorem qts {l : List Tr} (hl : l.length ≤ big) : qj6 (ETr l) = some (qsH l) := by
 rw [qwC, qi4, List.length_map, qxT hl]
 unfold qsH
 by_cases h6 : l.length > 6
 ·have : decide ((l.length : Int) > 6) = true := by simp; omega
  rw [this, if_pos h6]; rfl
 ·have h6' : decide ((l.length : Int) > 6) = false := by simp; omega
  rw [h6', if_neg h6]
  cases l.any qzT
  ·simp (decide := true) only [ev_br, br_eq, cond_false, pj_some, if_true, if_false, ev_bi_none, ev_bi_some, qjV hl]
   cases (List.range (l.length - 1)).any (qz8 l)
   ·cases l with
    | nil => simp
    | cons t r =>
     have h0 : 0 < (t :: r).length := by simp
     have e1 : qaS qRW (ETr (t :: r)) 0 = true := qFx (n := 0) h0
     have e2 : intOf (cellAt (ETr (t :: r)) 0 0) = t.from_ := qFy (n := 0) h0
     have e3 : decide ((((ETr (t :: r)).length : Nat) : Int) > 0) = true := by simp
     simp only [Bool.not_false, Bool.not_true, cond_true, cond_false, ev_br, br_eq, e1, e2, e3, ev_bi_some]
     cases (t.from_ != 0) <;> rfl
   ·simp
  ·simp (decide := true)
theorem qfd {x : In} (hl : x.tiers.length ≤ big) : qfQ (ETr x.tiers) x.marg x.basis x.mode x.keep = some (qmU x) := by
 rw [qAv, qpQ, qts hl, qmU]
 simp only [ev_bi_some, qbi, ev_br, ev_at, Bool.or_assoc]
 cases qsH x.tiers != 0
 ·cases (decide (x.basis < 1) || (decide (x.basis > 4) || (decide (x.mode < 1) || decide (x.mode > 6)))) <;> rfl
 ·rfl
def qRL (x : Fe) : Prop := x.name.length ≤ big ∧ x.when_.nodes ≤ big ∧ x.amount.nodes ≤ big
def qSw (x : Ru) : Prop := x.name.length ≤ big ∧ x.amount.nodes ≤ big
theorem qdU : varsP.length ≤ big := by decide
theorem qjX {x : Fe} (h : qRL x) : qgd x.name x.event x.when_.op x.when_.num x.when_.txt (EX x.when_.args) x.amount.op x.amount.num x.amount.txt (EX x.amount.args) = some (qqt x) := by
 rw [qwr, qiS, qhF h.1, qhE, qqt]
 simp only [ev_bi_some, qbi, ev_br, ev_at, qhG qdU h.2.1, qhG qdU h.2.2]
 cases nmB x.name <;> cases (decide (x.event < 1) || decide (x.event > 4)) <;> cases (qfM x.when_ varsP 5 != 0) <;> rfl
theorem qnw {x : Ru} (h : qSw x) : qkz x.name x.window x.amount.op x.amount.num x.amount.txt (EX x.amount.args) = some (qgw x) := by
 rw [qAZ, qqi, qhF h.1, qhE, qgw]
 simp only [ev_bi_some, qbi, ev_br, ev_at, qhG qdU h.2]
 cases nmB x.name <;> cases (decide (x.window < 1) || decide (x.window > 3)) <;> rfl
def hd0 (p : Pr) (i : Int) : qdu := (ETr p.cr.tiers, p.cr.marg, p.cr.basis, p.cr.mode, p.cr.keep, ETr p.de.tiers, p.de.marg, p.de.basis, p.de.mode, p.de.keep, i, p.name, p.cur, p.cal, p.from_, p.every, p.over, p.tax, ETr p.cr.tiers, p.cr.marg, p.cr.basis, p.cr.mode, p.cr.keep, ETr p.de.tiers, p.de.marg, p.de.basis, p.de.mode, p.de.keep, EF p.fees, ER p.rules)
theorem qxE {p : Pr} (h1 : p.cr.tiers.length ≤ big) (h2 : p.de.tiers.length ≤ big) : qnZ (hd0 p 0) = some (bif qmU p.cr != 0 then 0 else bif qmU p.de != 0 then 1 else 2, hd0 p (bif qmU p.cr != 0 then 0 else bif qmU p.de != 0 then 1 else 2)) := by
 rw [qrl]
 have w0 : IntKind.i64.wrap (0 + 1) = 1 := rfl
 have w1 : IntKind.i64.wrap (1 + 1) = 2 := rfl
 have e0 : (qe5 (hd0 p 0)).ev = some (bif qmU p.cr != 0 then .done 0 else .next (hd0 p 1)) := by
  simp (decide := true) only [hd0, qe5, ql6, qfd h1, ev_bi_some, ev_br, ev_at, br_eq, cond_true, w0]
  cases qmU p.cr != 0 <;> rfl
 have e1 : (qe5 (hd0 p 1)).ev = some (bif qmU p.de != 0 then .done 1 else .next (hd0 p 2)) := by
  have n1 : decide ((1 : Int) = Int.ofNat 0) = false := by decide
  have n2 : decide ((1 : Int) = Int.ofNat 1) = true := by decide
  have n3 : decide ((1 : Int) < 2) = true := by decide
  simp only [hd0, qe5, ql6, n1, n2, n3, qfd h2, ev_bi_some, ev_br, ev_at, br_eq, cond_true, cond_false, w1]
  cases qmU p.de != 0 <;> rfl
 have e2 : (qe5 (hd0 p 2)).ev = some (.done 2) := rfl
 cases g1 : (qmU p.cr != 0)
 ·rw [g1] at e0
  rw [qaH e0]
  cases g2 : (qmU p.de != 0)
  ·rw [g2] at e1
   rw [qaH e1, qar e2]; rfl
  ·rw [g2] at e1
   rw [qar e1]; rfl
 ·rw [g1] at e0
  rw [qar e0]; rfl
theorem qxF {p : Pr} (hl : p.fees.length ≤ big) (hx : ∀ x ∈ p.fees, qRL x) (c1 c2 c3 : Bs) (c4 c5 c6 c7 : Int) (c8 : List AV) (c9 : Bool) (c10 c11 : Int) (c12 : Bool) (c13 : List AV) (c14 : Bool) (c15 c16 : Int) (c17 : Bool) (c18 c19 : List AV) :
  qrm (EF p.fees, (p.fees.length : Int), 0, c1, c2, c3, c4, c5, c6, c7, c8, c9, c10, c11, c12, c13, c14, c15, c16, c17, c18, c19) =
   some (bif p.fees.any (fun x => qqt x != 0) then 0 else 1, EF p.fees, (p.fees.length : Int), ((p.fees.findIdx fun x => qqt x != 0 : Nat) : Int), c1, c2, c3, c4, c5, c6, c7, c8, c9, c10, c11, c12, c13, c14, c15, c16, c17, c18, c19) := by
 have h := qav (st := fun v => (qia v).ev) (l := p.fees) (hd := fun i => (EF p.fees, (p.fees.length : Int), (i : Int), c1, c2, c3, c4, c5, c6, c7, c8, c9, c10, c11, c12, c13, c14, c15, c16, c17, c18, c19)) (jx := fun _ => 0) (fun x => qqt x != 0) 1 (fun i hn => ?_) ?_
 ·rw [qas] at h
  rw [qrn]; exact h
 ·simp only [qia, ql7, qaK hn, okF hn, qf0 hn, qf1 hn, qf2 hn, qf3 hn, qf4 hn, qf5 hn, qf6 hn, qf7 hn, qf8 hn, qf9 hn, qjX (hx _ (List.getElem_mem hn)), ev_bi_some, ev_br, ev_at, br_eq, cond_true, qai hn hl]
  cases qqt p.fees[i] != 0 <;> rfl
 ·simp [qia, ql7]
theorem qxG {l : List Ru} (hl : l.length ≤ big) (hx : ∀ x ∈ l, qSw x) : qro (ER l, (l.length : Int), 0) = some (bif l.any (fun x => qgw x != 0) then 0 else 1, ER l, (l.length : Int), ((l.findIdx fun x => qgw x != 0 : Nat) : Int)) := by
 have h := qav (st := fun v => (qib v).ev) (l := l) (hd := fun i => (ER l, (l.length : Int), (i : Int))) (jx := fun _ => 0) (fun x => qgw x != 0) 1 (fun i hn => ?_) ?_
 ·rw [qas] at h
  rw [qrp]; exact h
 ·simp only [qib, ql8, qaK hn, okR hn, qr0 hn, qr1 hn, qr2 hn, qr3 hn, qr4 hn, qr5 hn, qnw (hx _ (List.getElem_mem hn)), ev_bi_some, ev_br, ev_at, br_eq, cond_true, qai hn hl]
  cases qgw l[i] != 0 <;> rfl
 ·simp [qib, ql8]
structure PrOk (p : Pr) : Prop where
 name : p.name.length ≤ big
 crl : p.cr.tiers.length ≤ 1000000
 del : p.de.tiers.length ≤ 1000000
 fel : p.fees.length ≤ 1000000
 rul : p.rules.length ≤ 1000000
 fees : ∀ x ∈ p.fees, qRL x
 rules : ∀ x ∈ p.rules, qSw x
theorem qcE {n : Nat} (h : n ≤ 1000000) : n ≤ big := Nat.le_trans h (by decide)
theorem qdh {α : Type} {f : α → Int} {l : List α} (h : l.any (fun x => f x != 0) = true) : ∃ h' : l.findIdx (fun x => f x != 0) < l.length, f l[l.findIdx fun x => f x != 0] = qeR f l ∧ qeR f l ≠ 0 := by
 rw [qkE]
 cases hf : l.find? (fun x => f x != 0) with
 | none =>
  rw [List.any_eq_true] at h
  obtain ⟨x, hx, hp⟩ := h
  exact absurd hp (List.find?_eq_none.1 hf x hx)
 | some x =>
  obtain ⟨h', hx⟩ := qoX hf
  exact ⟨h', by rw [hx], by simpa using List.find?_some hf⟩
theorem qff {α : Type} {f : α → Int} {l : List α} (h : l.any (fun x => f x != 0) = false) : qeR f l = 0 := by
 rw [qkE]
 cases hf : l.find? (fun x => f x != 0) with
 | none => rfl
 | some x =>
  rw [List.any_eq_false] at h
  exact absurd (List.find?_some hf) (h x (List.mem_of_find?_eq_some hf))
theorem qhC {p : Pr} {l : List Cu} {c : List Cal} (hp : PrOk p) (hl : l.length ≤ big) (hc : c.length ≤ big) (hk : ∀ x ∈ c, qv7 x) :
  qgU p.name p.cur p.cal p.from_ p.every p.over p.tax (ETr p.cr.tiers) p.cr.marg p.cr.basis p.cr.mode p.cr.keep (ETr p.de.tiers) p.de.marg p.de.basis p.de.mode p.de.keep (EF p.fees) (ER p.rules) (EC l) (EK c) = some (prS p l c) := by
 have h0 := qxE (p := p) (qcE hp.crl) (qcE hp.del)
 simp only [hd0] at h0
 rw [qAI, qp2, qxs hp.name hl hc hk, h0, prS]
 simp only [ev_bi_some, ev_br, br_eq, ev_at]
 cases qxz p l c != 0
 ·cases g1 : (qmU p.cr != 0)
  ·cases g2 : (qmU p.de != 0)
   ·simp (decide := true) only [ev_bi_some, ev_br, br_eq, cond_false, cond_true, pj_some, if_true, if_false, ev_bi_none, List.length_map]
    have e1 : decide ((p.fees.length : Int) > 4) = decide (p.fees.length > 4) := by congr 1; exact propext ⟨fun h => by omega, fun h => by omega⟩
    have e2 : decide ((p.rules.length : Int) > 4) = decide (p.rules.length > 4) := by congr 1; exact propext ⟨fun h => by omega, fun h => by omega⟩
    rw [e1, e2, qxF (qcE hp.fel) hp.fees]
    cases decide (p.fees.length > 4)
    ·cases decide (p.rules.length > 4)
     ·cases h3 : p.fees.any (fun x => qqt x != 0)
      ·have hz := qff h3
       simp (decide := true) only [ev_bi_some, ev_br, br_eq, cond_false, cond_true, pj_some, if_true, if_false, ev_bi_none, List.length_map, qxG (qcE hp.rul) hp.rules, Bool.or_self, hz, bne_self_eq_false]
       cases h4 : p.rules.any (fun x => qgw x != 0)
       ·simp (decide := true) [qff h4]
       ·obtain ⟨hi, hv, hnz⟩ := qdh h4
        simp (decide := true) only [pj_some, if_true, ev_bi_some, cond_true, qr0 hi, qr1 hi, qr2 hi, qr3 hi, qr4 hi, qr5 hi, qnw (hp.rules _ (List.getElem_mem hi)), gv_some, ev_at, hv]
      ·obtain ⟨hi, hv, hnz⟩ := qdh h3
       have hnz' : (qeR qqt p.fees != 0) = true := by simpa using hnz
       simp (decide := true) only [ev_bi_some, ev_br, br_eq, cond_false, cond_true, pj_some, if_true, qf0 hi, qf1 hi, qf2 hi, qf3 hi, qf4 hi, qf5 hi, qf6 hi, qf7 hi, qf8 hi, qf9 hi, qjX (hp.fees _ (List.getElem_mem hi)), gv_some, ev_at, hv, hnz', Bool.or_self]
     ·simp
    ·simp
   ·simp (decide := true) [qfd (qcE hp.del)]
  ·simp (decide := true) [qfd (qcE hp.crl)]
 ·simp
def qWg (e : Ex) : Bool := decide (e.args.length ≤ 1000000)
def Wm (e : Ex) : Prop := e.allX qWg = true
theorem Wm.len {e : Ex} (h : Wm e) : e.args.length ≤ 1000000 := by
 rw [Wm, Ex.allX_eq, Bool.and_eq_true] at h
 exact of_decide_eq_true h.1
theorem Wm.arg {e x : Ex} (h : Wm e) (hx : x ∈ e.args) : Wm x := by
 rw [Wm, Ex.allX_eq, Bool.and_eq_true, List.all_eq_true] at h
 exact h.2 x hx
def qM9 (x : Ex) : Int × Int × List UInt8 × List AV := (x.op, x.num, x.txt, EX x.args)
theorem qQl (o n : Int) (s : Bs) (l : List Ex) : (Ex.mk o n s l).op = o := rfl
theorem qJU (o n : Int) (s : Bs) (l : List Ex) : (Ex.mk o n s l).num = n := rfl
theorem qLB (o n : Int) (s : Bs) (l : List Ex) : (Ex.mk o n s l).txt = s := rfl
theorem qzO (o n : Int) (s : Bs) (l : List Ex) : (Ex.mk o n s l).args = l := rfl
theorem cx0 {l : List Ex} {n : Nat} (h : n < l.length) : intOf (qht (EX l) n 0) = l[n].op := by rw [qgR h, qgN]; rfl
theorem cx1 {l : List Ex} {n : Nat} (h : n < l.length) : intOf (qht (EX l) n 1) = l[n].num := by rw [qgR h, qgN]; rfl
theorem cx2 {l : List Ex} {n : Nat} (h : n < l.length) : strOf (qht (EX l) n 2) = l[n].txt := by rw [qgR h, qgN]; rfl
theorem cx3 {l : List Ex} {n : Nat} (h : n < l.length) : qal (qht (EX l) n 3) = EX l[n].args := by rw [qgR h, qgN]; rfl
theorem px0 {l : List Ex} {n : Nat} (h : n < l.length) : okP ksX (EX l) n 0 = true := by rw [qM6 h, qgN]; rfl
theorem sx0 {l : List Ex} {n : Nat} (h : n < l.length) : okS (EX l) n 0 4 = true := by rw [qM7 h, qgN]; rfl
theorem qV8 {l : List Ex} {n : Nat} (h : n < l.length) : qOf (EX l) n 0 [AV.int IntKind.i64 l[n].op, AV.int IntKind.i64 l[n].num, AV.str l[n].txt, AV.view 4 (EX l[n].args)] = EX l := by
 rw [qGx h (y := l[n]) (by rw [qgN]; rfl), List.set_getElem_self]
theorem qwj : ∀ (e : Ex), Wm e → ∀ k, e.dep ≤ k → qde k e.op e.num e.txt (EX e.args) = some (qM9 e) := by
 intro e
 induction e using Ex.ind with
 | h o m s l ih =>
  intro hw k hk
  have hd := Ex.dep_pos (.mk o m s l)
  obtain ⟨k, rfl⟩ : ∃ k', k = k' + 1 := ⟨k - 1, by omega⟩
  show (qmN (qde k) o m s (EX l)).ev = _
  have hlen : l.length ≤ 1000000 := hw.len
  have key : ∀ i, i ≤ l.length → qao (fun v => (qgz (qde k) v).ev) (.inr ((l.length : Int), (i : Int), o, m, s, 0, 0, [], EX l)) = some (1, .inr ((l.length : Int), (l.length : Int), o, m, s, 0, 0, [], EX l)) := by
   intro i hi
   refine qdN (st := fun v => (qgz (qde k) v).ev) (hd := fun i => .inr ((l.length : Int), (i : Int), o, m, s, 0, 0, [], EX l)) l.length 1 i hi (fun j _ hj => ?_) ?_
   ·have hx : l[j] ∈ l := List.getElem_mem hj
    have hxd := qtd (e := .mk o m s l) (x := l[j]) hx
    have hxv := ih l[j] hx (hw.arg hx) k (by omega)
    simp only [qgz, Sum.elim_inr, ql5, List.length_map, qaK hj, qeS hj, Int.toNat_natCast, px0 hj, cx0 hj, cx1 hj, cx2 hj, cx3 hj, sx0 hj, hxv, qM9, qV8 hj, ev_br, ev_at, ev_bi_some, cond_true, qai hj (qcE hlen)]
   ·simp [qgz, ql5]
  cases l with
  | nil =>
   have h0 : qiq (qde k) (.inl (0, 0, o, m, s, 0, 0, [])) = some (0, .inl (0, 0, o, m, s, 0, 0, [])) := by
    rw [qk4]; exact qar rfl
   have n1 : decide ((EX ([] : List Ex)).length = 0) = true := rfl
   rw [qmN, n1, h0]
   simp (decide := true) [qM9, qQl, qJU, qLB, qzO]
  | cons x l =>
   have h0 := key 0 (by omega)
   have h1 : qiq (qde k) (.inr (((x :: l).length : Int), 0, o, m, s, 0, 0, [], EX (x :: l))) = some (1, .inr (((x :: l).length : Int), ((x :: l).length : Int), o, m, s, 0, 0, [], EX (x :: l))) := by rw [qk4]; exact h0
   have n1 : decide ((EX (x :: l)).length = 0) = false := by simp
   have n2 : decide ((EX (x :: l)).length ≠ 0) = true := by simp
   have n3 : decide ((EX (x :: l)).length * 56 ≤ lim) = true := by rw [List.length_map]; exact decide_eq_true (by simp only [lim]; omega)
   rw [qmN, n1, n2, n3, List.length_map, h1]
   simp (decide := true) [qM9, qQl, qJU, qLB, qzO]
theorem qfe {e : Ex} (h : Wm e) : qkw e.op e.num e.txt (EX e.args) = some (qM9 e) := qcf (qwj e h)
theorem qxr (p : Pr) (h1 : p.cr.tiers.length ≤ 1000000) (h2 : p.de.tiers.length ≤ 1000000) (f r : List AV) (b : Int) : qnv p.name p.cur p.cal p.from_ p.every p.over p.tax (ETr p.cr.tiers) p.cr.marg p.cr.basis p.cr.mode p.cr.keep (ETr p.de.tiers) p.de.marg p.de.basis p.de.mode p.de.keep f r b =
  some (bif decide (b < 0) then (ETr p.de.tiers, p.de.marg, p.de.basis, p.de.mode, p.de.keep) else (ETr p.cr.tiers, p.cr.marg, p.cr.basis, p.cr.mode, p.cr.keep)) := by
 have hc : ∀ (t : List Tr), t.length ≤ 1000000 → ∀ (a : Bool) (x y : Int) (z : Bool), (DT.br (decide ((ETr t).length = 0)) (DT.at (([] : List AV), a, x, y, z)) (DT.br (decide ((ETr t).length ≠ 0) && decide ((ETr t).length * 16 ≤ lim)) (DT.at (ETr t, a, x, y, z)) DT.no)).ev = some (ETr t, a, x, y, z) := by
  intro t ht a x y z
  cases t with
  | nil => rfl
  | cons q t =>
   have n1 : decide ((ETr (q :: t)).length = 0) = false := by simp
   have n2 : decide ((ETr (q :: t)).length ≠ 0) = true := by simp
   have n3 : decide ((ETr (q :: t)).length * 16 ≤ lim) = true := by rw [List.length_map]; exact decide_eq_true (by simp only [lim]; omega)
   rw [n1, n2, n3]; rfl
 rw [qAU, qqe, ev_br]
 cases decide (b < 0)
 ·exact hc _ h1 _ _ _ _
 ·exact hc _ h2 _ _ _ _
def FeC (x : Fe) : Prop := Wm x.when_ ∧ Wm x.amount
def qBe (ev : Int) (l : List Fe) (i : Int) : List Fe → qcV
 | [] => .inl (ev, EF l, (l.length : Int), i)
 | acc => .inr (ev, EF l, (l.length : Int), i, EF acc)
theorem qxq (p : Pr) (hl : p.fees.length ≤ 1000000) (hx : ∀ x ∈ p.fees, FeC x) (t t' r : List AV) (a a' z z' : Bool) (x x' y y' : Int) (ev : Int) : qnt p.name p.cur p.cal p.from_ p.every p.over p.tax t a x y z t' a' x' y' z' (EF p.fees) r ev =
  some (EF (p.fees.filter fun f => f.event == ev)) := by
 generalize hL : p.fees = l at *
 have key : ∀ (r i : Nat), i + r = l.length → ∃ j, qao (fun v => (qe6 v).ev) (qBe ev l (i : Int) ((l.take i).filter fun f => f.event == ev)) = some (j, qBe ev l (l.length : Int) (l.filter fun f => f.event == ev)) ∧ j = (if (l.filter fun f => f.event == ev) = [] then 0 else 1) := by
  intro r
  induction r with
  | zero =>
   intro i hi
   have : i = l.length := by omega
   subst this
   rw [List.take_length]
   cases hf : l.filter (fun f => f.event == ev) with
   | nil => exact ⟨_, qar (by simp [qBe, qe6, qmj]), rfl⟩
   | cons q m => exact ⟨_, qar (by simp [qBe, qe6, qmk]), rfl⟩
  | succ r ihr =>
   intro i hi
   have hi' : i < l.length := by omega
   obtain ⟨j, h1, h2⟩ := ihr (i + 1) (by omega)
   refine ⟨j, ?_, h2⟩
   rw [← h1]
   refine qaH ?_
   obtain ⟨hw1, hw2⟩ := hx _ (List.getElem_mem hi')
   have e4 : (l.take (i + 1)).filter (fun f => f.event == ev) = (l.take i).filter (fun f => f.event == ev) ++ (bif l[i].event == ev then [l[i]] else []) := by
    rw [List.take_succ_eq_append_getElem hi', List.filter_append]
    cases hq : (l[i].event == ev) <;> simp [hq]
   have hlen2 : ((l.take i).filter fun f => f.event == ev).length ≤ 1000000 := Nat.le_trans (List.length_filter_le _ _) (by simp; omega)
   rw [e4]
   generalize (l.take i).filter (fun f => f.event == ev) = acc at hlen2
   cases acc with
   | nil =>
    simp only [qBe, qe6, Sum.elim_inl, qmj, qaK hi', okF hi', qf0 hi', qf1 hi', qf2 hi', qf3 hi', qf4 hi', qf5 hi', qf6 hi', qf7 hi', qf8 hi', qf9 hi', qfe hw1, qfe hw2, ev_br, ev_at, ev_bi_some, cond_true, qai hi' (qcE hl), qM9]
    cases hq : (l[i].event == ev) <;> rfl
   | cons q acc =>
    have hroom : room ((EF (q :: acc)).length + 1) 136 = true := qlM (by simp only [lim, List.length_map]; omega)
    simp only [qBe, qe6, Sum.elim_inr, qmk, qaK hi', okF hi', qf0 hi', qf1 hi', qf2 hi', qf3 hi', qf4 hi', qf5 hi', qf6 hi', qf7 hi', qf8 hi', qf9 hi', qfe hw1, qfe hw2, ev_br, ev_at, ev_bi_some, cond_true, qai hi' (qcE hl), qM9, hroom]
    cases hq : (l[i].event == ev)
    ·simp [qBe]
    ·simp [qBe, Fe.av]
 obtain ⟨j, h1, rfl⟩ := key l.length 0 (by omega)
 have hloop : qrx (.inl (ev, EF l, (l.length : Int), 0)) = some (if (l.filter fun f => f.event == ev) = [] then 0 else 1, qBe ev l (l.length : Int) (l.filter fun f => f.event == ev)) := by rw [qry]; exact h1
 rw [qAS, qqc, List.length_map, hloop]
 cases l.filter (fun f => f.event == ev) with
 | nil => simp (decide := true) [qBe]
 | cons q m => simp (decide := true) [qBe]
theorem qnj {a b : In} (ha : a.tiers.length ≤ 1000000) (hb : b.tiers.length ≤ 1000000) : qkv (ETr a.tiers) a.marg a.basis a.mode a.keep (ETr b.tiers) b.marg b.basis b.mode b.keep = some (qeH a b) := by
 rw [qAq, qpM, List.length_map, List.length_map, qeH]
 by_cases hl : a.tiers.length = b.tiers.length
 ·have e1 : ((a.tiers.length : Int) != (b.tiers.length : Int)) = false := by simp [hl]
  have e2 : (a.tiers.length == b.tiers.length) = true := by simp [hl]
  have hloop : ∃ i, qri ((a.tiers.length : Int), 0, ETr a.tiers, a.marg, a.basis, a.mode, a.keep, ETr b.tiers, b.marg, b.basis, b.mode, b.keep) = some (bif (List.range a.tiers.length).any (qfN eqT a.tiers b.tiers) then 0 else 1, (a.tiers.length : Int), i, ETr a.tiers, a.marg, a.basis, a.mode, a.keep, ETr b.tiers, b.marg, b.basis, b.mode, b.keep) := by
   have h := qbl (st := fun v => (qh9 v).ev) (N := a.tiers.length) (hd := fun i => ((a.tiers.length : Int), (i : Int), ETr a.tiers, a.marg, a.basis, a.mode, a.keep, ETr b.tiers, b.marg, b.basis, b.mode, b.keep)) (jx := fun _ => 0) (qfN eqT a.tiers b.tiers) 1 (fun i hn => ?_) ?_
   ·rw [qas] at h
    rw [qrj]; exact ⟨_, h⟩
   ·have hn' : i < b.tiers.length := by omega
    simp only [qh9, ql2, qaK hn, qFx hn, qFx hn', qFy hn, qKJ hn, qFy hn', qKJ hn', ev_br, ev_at, cond_true, qai hn (qcE ha), if_true, qfN, List.getElem?_eq_getElem hn, List.getElem?_eq_getElem hn', eqT]
    cases (a.tiers[i].from_ == b.tiers[i].from_ && (a.tiers[i].ppm == b.tiers[i].ppm && true)) <;> rfl
   ·simp [qh9, ql2]
  obtain ⟨i, h⟩ := hloop
  rw [e1, e2, h]
  cases (List.range a.tiers.length).any (qfN eqT a.tiers b.tiers)
  ·simp (decide := true) only [ev_bi_none, ev_bi_some, ev_br, ev_at, cond_false, cond_true, pj_some, if_true, if_false, Bool.false_eq_true, qOG, Bool.and_assoc, Bool.not_false, Bool.true_and]
  ·simp (decide := true)
 ·have e1 : ((a.tiers.length : Int) != (b.tiers.length : Int)) = true := by simp; omega
  have e2 : (a.tiers.length == b.tiers.length) = false := by simpa using hl
  rw [e1, e2]; rfl
theorem qtG : ∀ (e : Ex), Wd e → ∀ (f : Ex), Wd f → ∀ k, 2 * e.dep ≤ k → (qaM k).1 e.op e.num e.txt (EX e.args) f.op f.num f.txt (EX f.args) = some (qcC e f) := by
 intro e
 induction e using Ex.ind with
 | h o n s l ih =>
  intro hw f hf k hk
  have hd := Ex.dep_pos (.mk o n s l)
  obtain ⟨k, rfl⟩ : ∃ k', k = k' + 2 := ⟨k - 2, by omega⟩
  obtain ⟨o', n', s', m⟩ := f
  have hlen : l.length ≤ big := hw.len
  have hEq : (qaM (k + 1)).2 (EX l) (EX m) = some (qlQ l m) := by
   show (qvY (qaM k).1 (qaM k).2 (EX l) (EX m)).ev = _
   rw [qvY, qe4, qdT, List.length_map, List.length_map]
   by_cases hl : l.length = m.length
   ·have e1 : ((l.length : Int) != (m.length : Int)) = false := by simp [hl]
    have e2 : (l.length == m.length) = true := by simp [hl]
    have hloop : ∃ w, qBQ (qaM k).1 (qaM k).2 (EX m, EX l, (l.length : Int), 0) = some (bif (List.range l.length).any (qfN qcC l m) then 0 else 1, w) := by
     have h := qbl (st := fun v => (qog (qaM k).1 (qaM k).2 v).ev) (N := l.length) (hd := fun i => (EX m, EX l, (l.length : Int), (i : Int))) (jx := fun _ => 0) (qfN qcC l m) 1 (fun i hn => ?_) ?_
     ·rw [qas] at h
      rw [qu9]; exact ⟨_, h⟩
     ·have hn' : i < m.length := by omega
      have hxd := qtd (e := .mk o n s l) (x := l[i]) (List.getElem_mem hn)
      have hv := ih l[i] (List.getElem_mem hn) (hw.arg (List.getElem_mem hn)) m[i] (hf.arg (List.getElem_mem hn')) k (by omega)
      simp only [qog, qpm, qaK hn, okX hn, okX hn', qx0 hn, qx1 hn, qx2 hn, qx3 hn, qx0 hn', qx1 hn', qx2 hn', qx3 hn', hv, ev_bi_some, ev_br, ev_at, cond_true, qai hn hlen, qfN, List.getElem?_eq_getElem hn, List.getElem?_eq_getElem hn']
      cases qcC l[i] m[i] <;> rfl
     ·simp [qog, qpm]
    obtain ⟨w, h⟩ := hloop
    rw [e1, e2, h]
    cases (List.range l.length).any (qfN qcC l m) <;> simp (decide := true)
   ·have e1 : ((l.length : Int) != (m.length : Int)) = true := by simp; omega
    have e2 : (l.length == m.length) = false := by simpa using hl
    rw [e1, e2]; rfl
  show (qjh (qaM (k + 1)).1 (qaM (k + 1)).2 o n s (EX l) o' n' s' (EX m)).ev = _
  rw [qjh, hEq, qcC]
  simp only [sm_some, gv_some]
  cases (o == o') <;> cases (n == n') <;> cases (s == s') <;> rfl
theorem qgh {e f : Ex} (he : Wd e) (hf : Wd f) : qet e.op e.num e.txt (EX e.args) f.op f.num f.txt (EX f.args) = some (qcC e f) := qcf (qtG e he f hf)
def FeW (x : Fe) : Prop := Wd x.when_ ∧ Wd x.amount
theorem qxc {x y : Fe} (hx : FeW x) (hy : FeW y) : qqT x.name x.event x.when_.op x.when_.num x.when_.txt (EX x.when_.args) x.amount.op x.amount.num x.amount.txt (EX x.amount.args) y.name y.event y.when_.op y.when_.num y.when_.txt (EX y.when_.args) y.amount.op y.amount.num y.amount.txt (EX y.amount.args) = some (qcF x y) := by
 rw [qAy, qpT, qgh hx.1 hy.1, qgh hx.2 hy.2, qcF]
 simp only [sm_some, gv_some]
 cases (x.name == y.name) <;> cases (x.event == y.event) <;> cases qcC x.when_ y.when_ <;> cases qcC x.amount y.amount <;> rfl
theorem qxd {x y : Ru} (hx : Wd x.amount) (hy : Wd y.amount) : qqU x.name x.window x.amount.op x.amount.num x.amount.txt (EX x.amount.args) y.name y.window y.amount.op y.amount.num y.amount.txt (EX y.amount.args) = some (qcG x y) := by
 rw [qAz, qpU, qgh hx hy, qcG]
 simp only [sm_some, gv_some]
 cases (x.name == y.name) <;> cases (x.window == y.window) <;> cases qcC x.amount y.amount <;> rfl
theorem qqM {l m : List Fe} (hlen : l.length ≤ 1000000) (hl' : ∀ x ∈ l, FeW x) (hm' : ∀ x ∈ m, FeW x) : qAG (EF l) (EF m) = some (qdT qcF l m) := by
 rw [qF6, qv2, qdT, List.length_map, List.length_map]
 by_cases hl : l.length = m.length
 ·have e1 : ((l.length : Int) != (m.length : Int)) = false := by simp [hl]
  have e2 : (l.length == m.length) = true := by simp [hl]
  have hloop : ∃ w, qBS (EF m, EF l, (l.length : Int), 0) = some (bif (List.range l.length).any (qfN qcF l m) then 0 else 1, w) := by
   have h := qbl (st := fun v => (qoi v).ev) (N := l.length) (hd := fun i => (EF m, EF l, (l.length : Int), (i : Int))) (jx := fun _ => 0) (qfN qcF l m) 1 (fun i hn => ?_) ?_
   ·rw [qas] at h
    rw [qve]; exact ⟨_, h⟩
   ·have hn' : i < m.length := by omega
    simp only [qoi, qpo, qaK hn, okF hn, okF hn', qf0 hn, qf1 hn, qf2 hn, qf3 hn, qf4 hn, qf5 hn, qf6 hn, qf7 hn, qf8 hn, qf9 hn, qf0 hn', qf1 hn', qf2 hn', qf3 hn', qf4 hn', qf5 hn', qf6 hn', qf7 hn', qf8 hn', qf9 hn', qxc (hl' _ (List.getElem_mem hn)) (hm' _ (List.getElem_mem hn')), ev_bi_some, ev_br, ev_at, cond_true, qai hn (qcE hlen), qfN, List.getElem?_eq_getElem hn, List.getElem?_eq_getElem hn']
    cases qcF l[i] m[i] <;> rfl
   ·simp [qoi, qpo]
  obtain ⟨w, h⟩ := hloop
  rw [e1, e2, h]
  cases (List.range l.length).any (qfN qcF l m) <;> simp (decide := true)
 ·have e1 : ((l.length : Int) != (m.length : Int)) = true := by simp; omega
  have e2 : (l.length == m.length) = false := by simpa using hl
  rw [e1, e2]; rfl
theorem qoN {l m : List Ru} (hlen : l.length ≤ 1000000) (hl' : ∀ x ∈ l, Wd x.amount) (hm' : ∀ x ∈ m, Wd x.amount) : qxa (ER l) (ER m) = some (qdT qcG l m) := by
 rw [qF5, qvZ, qdT, List.length_map, List.length_map]
 by_cases hl : l.length = m.length
 ·have e1 : ((l.length : Int) != (m.length : Int)) = false := by simp [hl]
  have e2 : (l.length == m.length) = true := by simp [hl]
  have hloop : ∃ w, qBR (ER m, ER l, (l.length : Int), 0) = some (bif (List.range l.length).any (qfN qcG l m) then 0 else 1, w) := by
   have h := qbl (st := fun v => (qoh v).ev) (N := l.length) (hd := fun i => (ER m, ER l, (l.length : Int), (i : Int))) (jx := fun _ => 0) (qfN qcG l m) 1 (fun i hn => ?_) ?_
   ·rw [qas] at h
    rw [qva]; exact ⟨_, h⟩
   ·have hn' : i < m.length := by omega
    simp only [qoh, qpn, qaK hn, okR hn, okR hn', qr0 hn, qr1 hn, qr2 hn, qr3 hn, qr4 hn, qr5 hn, qr0 hn', qr1 hn', qr2 hn', qr3 hn', qr4 hn', qr5 hn', qxd (hl' _ (List.getElem_mem hn)) (hm' _ (List.getElem_mem hn')), ev_bi_some, ev_br, ev_at, cond_true, qai hn (qcE hlen), qfN, List.getElem?_eq_getElem hn, List.getElem?_eq_getElem hn']
    cases qcG l[i] m[i] <;> rfl
   ·simp [qoh, qpn]
  obtain ⟨w, h⟩ := hloop
  rw [e1, e2, h]
  cases (List.range l.length).any (qfN qcG l m) <;> simp (decide := true)
 ·have e1 : ((l.length : Int) != (m.length : Int)) = true := by simp; omega
  have e2 : (l.length == m.length) = false := by simpa using hl
  rw [e1, e2]; rfl
structure PrW (p : Pr) : Prop where
 crl : p.cr.tiers.length ≤ 1000000
 del : p.de.tiers.length ≤ 1000000
 fel : p.fees.length ≤ 1000000
 rul : p.rules.length ≤ 1000000
 fees : ∀ x ∈ p.fees, FeW x
 rules : ∀ x ∈ p.rules, Wd x.amount
theorem qnu {p q : Pr} (hp : PrW p) (hq : PrW q) : qgW p.name p.cur p.cal p.from_ p.every p.over p.tax (ETr p.cr.tiers) p.cr.marg p.cr.basis p.cr.mode p.cr.keep (ETr p.de.tiers) p.de.marg p.de.basis p.de.mode p.de.keep (EF p.fees) (ER p.rules)
  q.name q.cur q.cal q.from_ q.every q.over q.tax (ETr q.cr.tiers) q.cr.marg q.cr.basis q.cr.mode q.cr.keep (ETr q.de.tiers) q.de.marg q.de.basis q.de.mode q.de.keep (EF q.fees) (ER q.rules) = some (qfV p q) := by
 rw [qAT, qqd, qnj hp.crl hq.crl, qnj hp.del hq.del, qqM hp.fel hp.fees hq.fees, qoN hp.rul hp.rules hq.rules, qfV]
 generalize (p.name == q.name) = b1
 generalize (p.cur == q.cur) = b2
 generalize (p.cal == q.cal) = b3
 generalize (p.from_ != q.from_) = b4
 generalize (p.every != q.every) = b5
 generalize (p.over != q.over) = b6
 generalize (p.tax != q.tax) = b7
 generalize qeH p.cr q.cr = b8
 generalize qeH p.de q.de = b9
 generalize qdT qcF p.fees q.fees = b10
 generalize qdT qcG p.rules q.rules = b11
 have hz : ((((((!b1 || !b2) || !b3) || b4) || b5) || b6) || b7) = ((!b1) || ((!b2) || ((!b3) || (b4 || (b5 || (b6 || b7)))))) := by simp only [Bool.or_assoc]
 rw [← hz, qbi, ev_bi_some, qbi, ev_bi_some, qbi, ev_bi_some, qbi, ev_bi_some, qbi, ev_bi_some, qbi, ev_bi_some, ev_br]
 generalize ((((((!b1 || !b2) || !b3) || b4) || b5) || b6) || b7) = z
 cases z <;> cases b8 <;> cases b9 <;> cases b10 <;> cases b11 <;> rfl
def giroP : Pr := ⟨[103, 105, 114, 111], [69, 85, 82], [104, 111, 109, 101], 0, 1, 0, 0, ⟨[], false, 2, 6, false⟩, ⟨[], false, 2, 6, false⟩, [⟨[108, 111, 119], 1, .mk 12 0 [] [.mk 4 0 [98, 97, 108, 97, 110, 99, 101] [], .mk 2 100 [] []], .mk 2 5 [] []⟩], []⟩
def qGa : Pr := ⟨[103, 105, 114, 111], [69, 85, 82], [104, 111, 109, 101], 0, 2, 0, 0, ⟨[], false, 2, 6, false⟩, ⟨[], false, 2, 6, false⟩, [⟨[108, 111, 119], 1, .mk 12 0 [] [.mk 4 0 [98, 97, 108, 97, 110, 99, 101] [], .mk 2 100 [] []], .mk 2 5 [] []⟩], []⟩
theorem qg1 : qRL ⟨[108, 111, 119], 1, .mk 12 0 [] [.mk 4 0 [98, 97, 108, 97, 110, 99, 101] [], .mk 2 100 [] []], .mk 2 5 [] []⟩ ∧ FeC ⟨[108, 111, 119], 1, .mk 12 0 [] [.mk 4 0 [98, 97, 108, 97, 110, 99, 101] [], .mk 2 100 [] []], .mk 2 5 [] []⟩ ∧ FeW ⟨[108, 111, 119], 1, .mk 12 0 [] [.mk 4 0 [98, 97, 108, 97, 110, 99, 101] [], .mk 2 100 [] []], .mk 2 5 [] []⟩ := by
 exact ⟨⟨by decide, by decide, by decide⟩, ⟨show Ex.allX _ _ = true by kernel_rfl, show Ex.allX _ _ = true by kernel_rfl⟩, ⟨show Ex.allX _ _ = true by kernel_rfl, show Ex.allX _ _ = true by kernel_rfl⟩⟩
theorem qF9 : PrOk giroP := ⟨by decide, by decide, by decide, by decide, by decide, fun x hx => by rw [List.mem_singleton.1 hx]; exact qg1.1, fun x hx => by cases hx⟩
theorem qGb : PrOk qGa := ⟨by decide, by decide, by decide, by decide, by decide, fun x hx => by rw [List.mem_singleton.1 hx]; exact qg1.1, fun x hx => by cases hx⟩
theorem qtV : PrW giroP := ⟨by decide, by decide, by decide, by decide, fun x hx => by rw [List.mem_singleton.1 hx]; exact qg1.2.2, fun x hx => by cases hx⟩
theorem qMQ : PrW qGa := ⟨by decide, by decide, by decide, by decide, fun x hx => by rw [List.mem_singleton.1 hx]; exact qg1.2.2, fun x hx => by cases hx⟩
theorem qBW : qhz = some true := by
 have hg : qki = some (giroP.name, giroP.cur, giroP.cal, giroP.from_, giroP.every, giroP.over, giroP.tax, ETr giroP.cr.tiers, giroP.cr.marg, giroP.cr.basis, giroP.cr.mode, giroP.cr.keep, ETr giroP.de.tiers, giroP.de.marg, giroP.de.basis, giroP.de.mode, giroP.de.keep, EF giroP.fees, ER giroP.rules) := by
  rw [qwQ, qjj]; rfl
 have h1 := qhC (l := [⟨[69, 85, 82], 2⟩]) (c := [⟨[104, 111, 109, 101], [], []⟩]) qF9 (by decide) (by decide) (fun x hx => by rw [List.mem_singleton.1 hx]; exact ⟨by decide, by decide⟩)
 rw [show prS giroP [⟨[69, 85, 82], 2⟩] [⟨[104, 111, 109, 101], [], []⟩] = 0 by kernel_rfl] at h1
 have h2 := qhC (l := [⟨[69, 85, 82], 2⟩]) (c := [⟨[104, 111, 109, 101], [], []⟩]) qGb (by decide) (by decide) (fun x hx => by rw [List.mem_singleton.1 hx]; exact ⟨by decide, by decide⟩)
 rw [show prS qGa [⟨[69, 85, 82], 2⟩] [⟨[104, 111, 109, 101], [], []⟩] = 1 by kernel_rfl] at h2
 have h3 := qxq giroP (by decide) (fun x hx => by rw [List.mem_singleton.1 hx]; exact qg1.2.1) (ETr giroP.cr.tiers) (ETr giroP.de.tiers) (ER giroP.rules) giroP.cr.marg giroP.de.marg giroP.cr.keep giroP.de.keep giroP.cr.basis giroP.de.basis giroP.cr.mode giroP.de.mode 1
 have h4 := qxr giroP (by decide) (by decide) (EF giroP.fees) (ER giroP.rules) (-1)
 have h5 := qnu qtV qtV
 rw [show qfV giroP giroP = true by kernel_rfl] at h5
 have h6 := qnu qtV qMQ
 rw [show qfV giroP qGa = false by kernel_rfl] at h6
 have k2 : qgU giroP.name giroP.cur giroP.cal giroP.from_ 2 giroP.over giroP.tax (ETr giroP.cr.tiers) giroP.cr.marg giroP.cr.basis giroP.cr.mode giroP.cr.keep (ETr giroP.de.tiers) giroP.de.marg giroP.de.basis giroP.de.mode giroP.de.keep (EF giroP.fees) (ER giroP.rules) (EC [⟨[69, 85, 82], 2⟩]) (Tk.EK [⟨[104, 111, 109, 101], [], []⟩]) = some 1 := h2
 have k6 : qgW giroP.name giroP.cur giroP.cal giroP.from_ giroP.every giroP.over giroP.tax (ETr giroP.cr.tiers) giroP.cr.marg giroP.cr.basis giroP.cr.mode giroP.cr.keep (ETr giroP.de.tiers) giroP.de.marg giroP.de.basis giroP.de.mode giroP.de.keep (EF giroP.fees) (ER giroP.rules) giroP.name giroP.cur giroP.cal giroP.from_ 2 giroP.over giroP.tax (ETr giroP.cr.tiers) giroP.cr.marg giroP.cr.basis giroP.cr.mode giroP.cr.keep (ETr giroP.de.tiers) giroP.de.marg giroP.de.basis giroP.de.mode giroP.de.keep (EF giroP.fees) (ER giroP.rules) = some false := h6
 have g1 : [AV.agg [AV.str [69, 85, 82], AV.int IntKind.i64 2]] = EC [⟨[69, 85, 82], 2⟩] := rfl
 have g2 : [AV.agg [AV.str [104, 111, 109, 101], AV.view 1 [], AV.view 1 []]] = Tk.EK [⟨[104, 111, 109, 101], [], []⟩] := rfl
 rw [qwI, qja, hg, qhE, g1, g2]
 rw [ev_bi_some, ev_bi_some]
 simp only [h1, k2, h3, h4, h5, k6, ev_bi_some, sm_some, gv_some]
 rfl
end Go.Proofs.H15c

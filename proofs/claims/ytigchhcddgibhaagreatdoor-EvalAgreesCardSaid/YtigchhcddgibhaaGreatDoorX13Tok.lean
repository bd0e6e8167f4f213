/- The program's tokens: what the printed functions come to. -/
import Derived.Test.YtigchhcddgibhaaGreatDoorD13_1
import Derived.Test.YtigchhcddgibhaaGreatDoorD13_2
import Derived.Test.YtigchhcddgibhaaGreatDoorD13_3
import Derived.Test.YtigchhcddgibhaaGreatDoorD13_4
import Derived.Test.YtigchhcddgibhaaGreatDoorD13_5
import Derived.Test.YtigchhcddgibhaaGreatDoorD13_6
import Derived.Test.YtigchhcddgibhaaGreatDoorD13_7
import Derived.Test.YtigchhcddgibhaaGreatDoorD13_8
import Derived.Test.YtigchhcddgibhaaGreatDoorD13_9
import Derived.KernelRfl
import Derived.Test.YtigchhcddgibhaaGreatDoorD13_12
import Derived.Test.YtigchhcddgibhaaGreatDoorTkA
set_option linter.unusedVariables false
set_option linter.unusedSimpArgs false
set_option linter.unnecessarySimpa false
namespace Go.Proofs.H13
open Go Go.Eng Go.Tk
set_option maxRecDepth 20000
theorem qoa (x : Int) : qko x = some (qz6 x) := by
 rw [qDh, qmd]; by_cases h : x ≥ 97 <;> simp [qz6, h]
theorem qiw (x : Int) : qge x = some (qio x) := by
 rw [qDs, qmn]; by_cases h : x ≥ 48 <;> simp [qio, h]
theorem qn9 (x : Int) : qis x = some (qhE x) := by
 rw [qDg, qmc, qoa, qiw, qhE]
 cases qz6 x <;> cases qio x <;> simp
theorem qEE (x : Int) : qrQ x = some (qt8 x) := by
 rw [qJM, qu9, qn9, qt8]
 cases qhE x <;> cases (x == 46) <;> simp
theorem qED (x : Int) : qrP x = some (qlL x) := by
 rw [qJL, qu8]; rfl
theorem qE8 {s : Bs} (hl : s.length ≤ big) : qBz (s, 0) = some (0, s, ((s.takeWhile (at8 qlL)).length : Int)) := by
 rw [qwX]
 refine ql3 (fun n h => ?_) ?_
 ·simp only [qqB, qqC, qau h, qa5 h, qei h, w32, qED, qao h hl, br_eq, cond_true, sm_some, gv_some, ev_bi_some, ev_br, ev_at, cond_some]
 ·simp [qqB, qqC]
theorem qy5 {s : Bs} (hl : s.length ≤ big) : qit s = some (s.takeWhile (at8 qlL)) := by
 rw [qDj, qmf, qE8 hl]
 simp [qaP (qi8 s), qlr]
theorem qE2 {s : Bs} (hl : s.length ≤ big) : qBv (s, 0) = some (0, s, ((s.takeWhile (at8 qhE)).length : Int)) := by
 rw [qwN]
 refine ql3 (fun n h => ?_) ?_
 ·simp only [qqn, qqo, qau h, qa5 h, qei h, w32, qn9, qao h hl, br_eq, cond_true, sm_some, gv_some, ev_bi_some, ev_br, ev_at, cond_some]
 ·simp [qqn, qqo]
theorem qEK {s : Bs} (hl : s.length ≤ big) : qwt s = some (s.takeWhile (at8 qhE)) := by
 rw [qJ7, qvu, qE2 hl]
 simp [qaP (qi8 s), qlr]
theorem qE3 {s : Bs} (hl : s.length ≤ big) : qBw (s, 0) = some (0, s, ((s.takeWhile (at8 qt8)).length : Int)) := by
 rw [qwO]
 refine ql3 (fun n h => ?_) ?_
 ·simp only [qqp, qqq, qau h, qa5 h, qei h, w32, qEE, qao h hl, br_eq, cond_true, sm_some, gv_some, ev_bi_some, ev_br, ev_at, cond_some]
 ·simp [qqp, qqq]
theorem qEM {s : Bs} (hl : s.length ≤ big) : qwu s = some (s.takeWhile (at8 qt8)) := by
 rw [qJ8, qvv, qE3 hl]
 simp [qaP (qi8 s), qlr]
theorem qE4 {s : Bs} (hl : s.length ≤ big) : qBx (s, 0) = some (0, s, ((s.takeWhile (at8 qio)).length : Int)) := by
 rw [qwP]
 refine ql3 (fun n h => ?_) ?_
 ·simp only [qqr, qqs, qau h, qa5 h, qei h, w32, qiw, qao h hl, br_eq, cond_true, sm_some, gv_some, ev_bi_some, ev_br, ev_at, cond_some]
 ·simp [qqr, qqs]
theorem qrV {s : Bs} (hl : s.length ≤ big) : qif s = some (s.takeWhile (at8 qio)) := by
 rw [qJ9, qvw, qE4 hl]
 simp [qaP (qi8 s), qlr]
theorem qE7 {s : Bs} (hl : s.length ≤ big) : ∀ (k n : Nat), n + k = s.length → ∃ j, (j = 0 ∨ j = 1) ∧ qwW (s, (n : Int)) = some (j, s, ((n + blk false (s.drop n) : Nat) : Int)) := by
 intro k
 induction k using Nat.strongRecOn with
 | _ k ih =>
  intro n hn
  rw [qjq]
  by_cases h : n < s.length
  ·have hst : (qlo (s, (n : Int))).ev = some (bif spI (s[n].toNat : Int) then .next (s, ((n + 1 : Nat) : Int)) else bif (s[n].toNat : Int) == 35 then .next (s, ((n + ((s.drop n).takeWhile (at8 qlL)).length : Nat) : Int)) else .done 0) := by
    have hw : IntKind.i64.wrap ((n : Int) + (((s.drop n).takeWhile (at8 qlL)).length : Int)) = ((n + ((s.drop n).takeWhile (at8 qlL)).length : Nat) : Int) := by
     have := qi8 (p := at8 qlL) (s.drop n)
     simp only [List.length_drop, big] at this hl
     rw [wrap64 (by omega) (by omega)]; simp
    have hd : (s.drop n).length ≤ big := by simp; omega
    simp only [qlo, qqA, qau h, qa5 h, qei h, qao h hl, qaP (Nat.le_of_lt h), Int.toNat_natCast, qy5 hd, hw, ev_bi_some, ev_br, ev_at, cond_true, spI]
    cases ((s[n].toNat : Int) == 32) <;> cases ((s[n].toNat : Int) == 9) <;> cases ((s[n].toNat : Int) == 10) <;> cases ((s[n].toNat : Int) == 35) <;> rfl
   rw [drop_at h]
   simp only [blk]
   cases hs : spI (s[n].toNat : Int)
   ·cases hc : ((s[n].toNat : Int) == 35)
    ·rw [hs, hc] at hst
     exact ⟨0, .inl rfl, by rw [qai hst]; simp⟩
    ·rw [hs, hc] at hst
     rw [qaA hst]
     have ht : ((s.drop n).takeWhile (at8 qlL)).length = ((s.drop (n + 1)).takeWhile (at8 qlL)).length + 1 := by
      have : at8 qlL s[n] = true := by
       simp only [at8, qlL, bne_iff_ne, ne_eq]
       have : (s[n].toNat : Int) = 35 := by simpa using hc
       omega
      rw [drop_at h, List.takeWhile_cons_of_pos this, List.length_cons]
     have hle := qi8 (p := at8 qlL) (s.drop n)
     simp only [List.length_drop] at hle
     obtain ⟨j, h1, h2⟩ := ih (k - ((s.drop n).takeWhile (at8 qlL)).length) (by omega) (n + ((s.drop n).takeWhile (at8 qlL)).length) (by omega)
     rw [qjq] at h2
     refine ⟨j, h1, h2.trans ?_⟩
     have e : s.drop (n + ((s.drop n).takeWhile (at8 qlL)).length) = (s.drop (n + 1)).drop ((s.drop (n + 1)).takeWhile (at8 qlL)).length := by rw [List.drop_drop, ht]; congr 1; omega
     rw [e, cond_false, cond_true, qAE (s.drop (n + 1)), ht]
     congr 4; omega
   ·rw [hs] at hst
    rw [qaA hst]
    obtain ⟨j, h1, h2⟩ := ih (k - 1) (by omega) (n + 1) (by omega)
    rw [qjq] at h2
    refine ⟨j, h1, h2.trans ?_⟩
    rw [cond_true]; congr 4; omega
  ·have hn' : n = s.length := by omega
   subst hn'
   refine ⟨1, .inr rfl, ?_⟩
   rw [qai (j := 1) (by simp [qlo, qqA])]
   simp [blk]
theorem qy3 {s : Bs} (hl : s.length ≤ big) : qbO s = some ((blk false s : Nat) : Int) := by
 obtain ⟨j, h1, h2⟩ := qE7 hl s.length 0 (by omega)
 rw [qDf, qmb]
 simp only [Int.natCast_zero] at h2
 rw [h2]
 rcases h1 with rfl | rfl <;> simp
theorem qza : qoh = some (ES wordsS) := by
 rw [qDv, qmp]; rfl
theorem qy9 : qog = some (ES marksS) := by
 rw [qDu, qmo]; rfl
theorem qE0 {l : List Bs} (hl : l.length ≤ big) (s : Bs) : qwF (ES l, s, (l.length : Int), 0) = some (qgJ (s == ·) (fun _ => 0) 1 l, ES l, s, (l.length : Int), ((l.findIdx (s == ·) : Nat) : Int)) := by
 rw [qwG]
 refine qaK (hd := fun n => (ES l, s, (l.length : Int), (n : Int))) (jx := fun _ => 0) (s == ·) 1 (fun n h => ?_) ?_
 ·simp only [qqf, qqg, qau h, qRc h, qs0 h, ev_br, ev_at, cond_true, qao h hl]
  cases (s == l[n]) <;> rfl
 ·simp [qqf, qqg]
theorem qDm {l : List Bs} (hl : l.length ≤ big) (s : Bs) : qwh (ES l) s = some (has l s) := by
 rw [qJo, quC, qJq, quF, List.length_map, qE0 hl, qaM, has]
 cases l.any (s == ·) <;> simp
theorem qzi (s : Bs) : qol s = some (qrf s) := by
 rw [qDI, qmC, qza]
 simp only [ev_bi_some, qDm (l := wordsS) (by decide), ev_at, qrf]
theorem qkD {s : Bs} (hl : s.length ≤ big) : qoP s = some (qRV s) := by
 rw [qJ6, qvt, qrV hl]
 cases s with
 | nil => rfl
 | cons c r =>
  have e1 : ((c :: r).takeWhile (at8 qio) == c :: r) = (c :: r).all (at8 qio) := by
   rw [Bool.eq_iff_iff, beq_iff_eq]; exact qCI
  have e2 : qaX (c :: r) 0 = (c.toNat : Int) := by simp [qaX, qeH]
  have e3 : ((c.toNat : Int) != 48) = (some c != some 48) := by
   rw [Bool.eq_iff_iff, bne_iff_ne, bne_iff_ne, ne_eq, ne_eq, Decidable.not_iff_not, Option.some.injEq, ← UInt8.toNat_inj]
   exact Int.ofNat_inj
  have e4 : inB (c :: r).length 0 = true := by simp [inB]
  simp only [sm_some, gv_some, br_eq, cond_true, e1, e2, e3, e4, qRV, List.head?_cons, cond_some, ev_bi_some, ev_at]
  cases (c :: r).all (at8 qio) <;> cases (((c :: r).length : Int) == 1) <;> simp
theorem qEy {s : Bs} (hl : s.length ≤ big) : qwj s [37] = some (bif s.getLast? == some 37 then (s.dropLast, true) else (s, false)) := by
 rw [qJw, quU, qRL, qCE, qJn, quB]
 simp only [big] at hl
 cases hs : s with
 | nil => rfl
 | cons c r =>
  rw [← hs]
  have h1 : 1 ≤ s.length := by rw [hs]; simp
  have e1 : decide ((s.length : Int) ≥ (([37] : Bs).length : Int)) = true := by simp; omega
  have e2 : IntKind.i64.wrap ((s.length : Int) - (([37] : Bs).length : Int)) = ((s.length - 1 : Nat) : Int) := by
   rw [wrap64 (by simp; omega) (by simp; omega)]; simp; omega
  have e3 : leB ((s.length - 1 : Nat) : Int) s.length = true := qaP (by omega)
  have e4 : s.take (s.length - 1) = s.dropLast := by rw [List.dropLast_eq_take]
  have e5 : (s.drop (s.length - 1) == [37]) = (s.getLast? == some 37) := by
   have hne : s ≠ [] := by rw [hs]; simp
   have := List.dropLast_concat_getLast hne
   rw [List.getLast?_eq_some_getLast hne]
   conv => lhs; lhs; rw [← this]
   rw [List.drop_append_of_le_length (by simp), show (s.dropLast ++ [s.getLast hne]).length - 1 = s.dropLast.length by simp, List.drop_length]
   simp
  simp only [e1, e2, e3, e4, e5, br_eq, cond_true, ev_bi_some, Int.toNat_natCast, Bool.and_true, ev_br, ev_at]
  cases (s.getLast? == some 37) <;> rfl
theorem qDt (t : Bs) : qwi t [46] = some (Lib.indexByte t 46) := by
 rw [qJp, quE]
 have e1 : ((([46] : Bs).length : Int) == 0) = false := rfl
 have e2 : ((([46] : Bs).length : Int) == 1) = true := rfl
 have e3 : inB ([46] : Bs).length 0 = true := rfl
 have e4 : (qaX [46] 0).toNat.toUInt8 = 46 := rfl
 simp only [e1, e2, e3, e4, br_eq, cond_false, cond_true, ev_bi_some, ev_br, ev_at]
 cases h : (([46] : Bs) == t)
 ·rfl
 ·have := eq_of_beq h
  subst this; rfl
theorem qof {t : Bs} (hl : t.length ≤ big) : qoe t [46] = some (qAG t) := by
 rw [qDr, qmm, qJr, quG, qDt, qRU]
 simp only [big] at hl
 have hdw := drop_tw (p := (· != 46)) t
 by_cases h : (t.takeWhile (· != 46)).length < t.length
 ·have e1 : decide (((t.takeWhile (· != 46)).length : Int) ≥ 0) = true := by simp
  have e2 : IntKind.i64.wrap (((t.takeWhile (· != 46)).length : Int) + (([46] : Bs).length : Int)) = (((t.takeWhile (· != 46)).length + 1 : Nat) : Int) := by
   rw [wrap64 (by simp; omega) (by simp; omega)]; simp
  have e3 : leB ((t.takeWhile (· != 46)).length : Int) t.length = true := qaP (Nat.le_of_lt h)
  have e4 : leB (((t.takeWhile (· != 46)).length + 1 : Nat) : Int) t.length = true := qaP h
  simp only [ev_bi_some, if_pos h, e1, e2, e3, e4, ev_br, ev_at, cond_true, Int.toNat_natCast, Bool.and_true, qlr]
  unfold qAG
  rw [← hdw]
  rw [List.drop_eq_getElem_cons h]
 ·simp only [ev_bi_some, if_neg h]
  unfold qAG
  have hdn : t.drop (t.takeWhile (· != 46)).length = [] := List.drop_eq_nil_of_le (Nat.not_lt.1 h)
  rw [← hdw, hdn]
  rfl
theorem qzQ (w : Bs) {p : Bs} (hp : p.length ≤ 4) : qtS (w, p) = some (0, w, qvQ p) := by
 rw [qse]
 have key : ∀ (k : Nat) (p : Bs), p.length + k = 4 → qar (fun v => (qhQ v).ev) (w, p) = some (0, w, qvQ p) := by
  intro k
  induction k with
  | zero =>
   intro p h
   have : qvQ p = p := by unfold qvQ; rw [show 4 - p.length = 0 by omega]; simp
   rw [this, qai (j := 0)]
   have : decide ((p.length : Int) < 4) = false := by simp; omega
   simp [qhQ, qk7, this]
  | succ k ih =>
   intro p h
   have e1 : decide ((p.length : Int) < 4) = true := by simp; omega
   have e2 : decide (p.length + 1 ≤ 4611686018427387904) = true := by simp; omega
   rw [qaA (v' := (w, p ++ [48])) (by simp only [qhQ, qk7, e1, e2, ev_br, ev_at, cond_true]), ih (p ++ [48]) (by simp; omega)]
   have : qvQ (p ++ [48]) = qvQ p := by
    unfold qvQ
    rw [show 4 - p.length = (4 - (p ++ [48]).length) + 1 by simp; omega, List.replicate_succ, List.append_assoc]; rfl
   rw [this]
 exact key (4 - p.length) p (by omega)
theorem qzh {s : Bs} (hl : s.length ≤ big) : qok s = some (qrd s) := by
 rw [qDH, qmB, qEy hl, qrd]
 cases hs : (s.getLast? == some 37)
 ·have h1 : (qAG s).1.length ≤ big := by
   have := qi8 (p := (· != 46)) s
   unfold qAG; split <;> simp <;> omega
  simp only [cond_false, ev_bi_some, qof hl, qkD h1, Bool.not_false, br_eq, cond_true, ev_br, ev_at]
 ·have hd : s.dropLast.length ≤ big := by simp; omega
  have h1 : (qAG s.dropLast).1.length ≤ big := by
   have := qi8 (p := (· != 46)) s.dropLast
   unfold qAG; split <;> simp at * <;> omega
  have h2 : (qAG s.dropLast).2.1.length ≤ big := by
   have := drop_tw (p := (· != 46)) s.dropLast
   unfold qAG
   split
   ·simp
   ·rename_i x y e
    have h3 := congrArg List.length (this.trans e)
    simp at h3 hd ⊢
    omega
  simp only [cond_true, ev_bi_some, qof hd, qkD h1, Bool.not_true, br_eq, cond_false, sm_some, gv_some]
  have h0 : (qAG s.dropLast).2.2 = false → (qAG s.dropLast).2.1 = [] := by
   unfold qAG; split <;> simp
  generalize qAG s.dropLast = c at h0 h1 h2
  obtain ⟨w, p, pt⟩ := c
  simp only at h0 h1 h2 ⊢
  cases hi : qRV w
  ·simp only [Bool.not_false, cond_true, ev_bi_some, ev_br, ev_at, Bool.true_or]
  ·simp only [Bool.not_true, cond_false, Bool.false_or, ev_bi_some]
   have hpart : (bif pt then bif p == [] then some true else bif decide ((p.length : Int) > 4) then some true else bif sm (qif p) then bif !gv (qif p) == p then some true else bif inB p.length (IntKind.i64.wrap ((p.length : Int) - 1)) then some (qaX p (IntKind.i64.wrap ((p.length : Int) - 1)) == 48) else none else none else some false) = some (pt && !qFp p) := by
    cases pt
    ·rfl
    ·cases hp : p with
     | nil => rfl
     | cons x y =>
      rw [← hp]
      have hne : p ≠ [] := by rw [hp]; simp
      have h1' : 1 ≤ p.length := by rw [hp]; simp
      have e0 : (p == []) = false := by simpa using hne
      have e1 : (p.takeWhile (at8 qio) == p) = p.all (at8 qio) := by
       rw [Bool.eq_iff_iff, beq_iff_eq]; exact qCI
      have e2 : IntKind.i64.wrap ((p.length : Int) - 1) = ((p.length - 1 : Nat) : Int) := by
       simp only [big] at h2
       rw [wrap64 (by omega) (by omega)]; omega
      have e3 : inB p.length ((p.length - 1 : Nat) : Int) = true := qa5 (by omega)
      have e4 : (qaX p ((p.length - 1 : Nat) : Int) == 48) = (p.getLast? == some 48) := by
       rw [qei (by omega), List.getLast?_eq_getElem?, List.getElem?_eq_getElem (by omega), Bool.eq_iff_iff, beq_iff_eq, beq_iff_eq, Option.some.injEq, ← UInt8.toNat_inj]
       exact Int.ofNat_inj
      have e5 : decide ((p.length : Int) > 4) = !decide (p.length ≤ 4) := by
       by_cases h : p.length ≤ 4 <;> simp [h] <;> omega
      simp only [cond_true, cond_false, e0, qrV h2, sm_some, gv_some, e1, e2, e3, e4, e5, qFp, bne, Bool.true_and]
      cases decide (p.length ≤ 4) <;> cases p.all (at8 qio) <;> cases (p.getLast? == some 48) <;> rfl
   rw [hpart]
   simp only [ev_bi_some, ev_br, ev_at]
   cases hg : (pt && !qFp p)
   ·simp only [cond_false]
    have e6 : decide ((w.length : Int) > 3) = decide (w.length > 3) := by
     by_cases h : w.length > 3 <;> simp [h] <;> omega
    rw [e6]
    cases h3 : decide (w.length > 3)
    ·simp only [cond_false]
     have hw3 : w.length ≤ 3 := by simpa using h3
     have hp4 : p.length ≤ 4 ∧ p.all (at8 qio) = true := by
      cases pt
      ·rw [h0 rfl]; exact ⟨by simp, rfl⟩
      ·have hb : qFp p = true := by simpa using hg
       simp only [qFp, Bool.and_eq_true, decide_eq_true_eq] at hb
       exact ⟨hb.2.1, hb.2.2.1⟩
     have hw : w ≠ [] ∧ w.all (at8 qio) = true := by
      simp only [qRV, Bool.and_eq_true, bne_iff_ne, ne_eq] at hi
      exact ⟨hi.2.1, hi.1⟩
     have hq : qvQ p = p ++ List.replicate (4 - p.length) 48 := rfl
     have hl7 : (w ++ qvQ p).length ≤ 7 := by rw [hq]; simp; omega
     have had : (w ++ qvQ p).all (at8 qio) = true := by
      rw [hq, List.all_append, List.all_append, hw.2, hp4.2]
      simp [at8, qio]
     have hne : w ++ qvQ p ≠ [] := by simp [hw.1]
     have hlt : qx6 0 (w ++ qvQ p) < 9223372036854775808 := by
      have h7 := qI6 (w ++ qvQ p) 0 0 had (by omega)
      have : 10 ^ (0 + (w ++ qvQ p).length) ≤ 10 ^ 7 := Nat.pow_le_pow_right (by omega) (by omega)
      omega
     have hat := qRx had hne
     rw [if_pos hlt] at hat
     have e7 : decide (w.length + (qvQ p).length ≤ 4611686018427387904) = true := by
      rw [List.length_append] at hl7; simp; omega
     have e8 : pOk (w ++ qvQ p) = true := by simp only [pOk]; simp at hl7 ⊢; omega
     rw [qzQ w hp4.1]
     simp only [pj_some, if_true, ev_bi_some, e7, e8, hat, nOk, q5f, Bool.and_self, ev_br, cond_true, ev_at, cond_some]
    ·rfl
   ·rfl
def q2M : Nat := 281474976710656
theorem ql2 {n : Nat} (h : n ≤ q2M) : n ≤ big := Nat.le_trans h (by decide)
theorem qy4 {s : Bs} (hl : s.length ≤ q2M) : qob s = some ((qR9 s).1, 0, (qR9 s).2.1, (qR9 s).2.2) := by
 rw [qDi, qme, qkD (ql2 hl), qzh (ql2 hl), qR9]
 have e : pOk s = true := decide_eq_true hl
 simp only [ev_bi_some, ev_br, ev_at, e, Bool.true_and]
 cases qRV s
 ·simp only [cond_false]
  cases ((qrd s).2 == 0) <;> cases ((qrd s).2 == 1) <;> rfl
 ·simp only [cond_true]
  cases Lib.parseIntB 64 s <;> rfl
theorem qEz (s m : Bs) : qwk s m = some (preB m s) := by
 rw [qJx, quV, qRN, qCF]
 have e : decide ((s.length : Int) ≥ (m.length : Int)) = decide (m.length ≤ s.length) := by
  by_cases h : m.length ≤ s.length <;> simp [h] <;> omega
 simp only [e, preB, q0x, Int.toNat_natCast]
 cases decide (m.length ≤ s.length) <;> simp
theorem qzR (s : Bs) : qo8 (s, ES marksS, (marksS.length : Int), 0, 0, 0, []) = some (qgJ (preB · s) (fun _ => 0) 1 marksS, s, ES marksS, (marksS.length : Int), ((marksS.findIdx (preB · s) : Nat) : Int), 0, 0, []) := by
 rw [qsf]
 refine qaK (hd := fun n => (s, ES marksS, (marksS.length : Int), (n : Int), (0 : Int), (0 : Int), ([] : Bs))) (jx := fun _ => 0) (preB · s) 1 (fun n h => ?_) ?_
 ·simp only [qjF, qk8, qau h, qRc h, qs0 h, qEz, ev_bi_some, ev_br, ev_at, cond_true, qao h (show marksS.length ≤ big by decide)]
  cases (preB marksS[n] s) <;> rfl
 ·simp [qjF, qk8]
theorem qzj {s : Bs} (hne : s ≠ []) (hl : s.length ≤ q2M) : qdP s = some ((qbY s).1, 0, (qbY s).2.1, (qbY s).2.2) := by
 have hb := ql2 hl
 rw [qDJ, qmD]
 cases s with
 | nil => exact absurd rfl hne
 | cons c r =>
  have e1 : inB (c :: r).length 0 = true := by simp [inB]
  have e2 : qaX (c :: r) 0 = (c.toNat : Int) := by simp [qaX, qeH]
  simp only [e1, e2, w32, qoa, qiw, qEK hb, qEM hb, qzi, qy9, ev_bi_some, ev_br, ev_at, cond_true, qbY]
  rw [show at8 qz6 c = qz6 (c.toNat : Int) from rfl, show at8 qio c = qio (c.toNat : Int) from rfl]
  cases qz6 (c.toNat : Int)
  ·cases qio (c.toNat : Int)
   ·simp only [cond_false, List.length_map, qzR, qaM, qRu, pj_some]
    by_cases h : marksS.findIdx (preB · (c :: r)) < marksS.length
    ·have hf := List.find?_eq_getElem?_findIdx (p := (preB · (c :: r))) (xs := marksS)
     rw [List.getElem?_eq_getElem h] at hf
     simp only [decide_eq_true h, cond_true, if_true, ev_bi_some, ev_at, qs0 h, hf]
    ·have hf : marksS.find? (preB · (c :: r)) = none := by
      rw [List.find?_eq_getElem?_findIdx]; exact List.getElem?_eq_none (Nat.not_lt.1 h)
     rw [hf]
     simp [h]
   ·have h2 : ((c :: r).takeWhile (at8 qt8)).length ≤ q2M := Nat.le_trans (qi8 _) hl
    simp only [cond_false, cond_true, qy4 h2, ev_bi_some, ev_at]
  ·simp only [cond_true]
   have e : decide ((((c :: r).takeWhile (at8 qhE)).length : Int) > 16) = decide (((c :: r).takeWhile (at8 qhE)).length > 16) := by
    by_cases h : ((c :: r).takeWhile (at8 qhE)).length > 16 <;> simp [h] <;> omega
   rw [e]
   cases qrf ((c :: r).takeWhile (at8 qhE)) <;> cases decide (((c :: r).takeWhile (at8 qhE)).length > 16) <;> rfl
noncomputable def quz (o : Option (Nat × qdM)) : DT qHo :=
  .bi (pj 0 o) (fun y0 => .at (([], 0, 0)))
   (.bi (pj 1 o) (fun y0 =>
    .at (([], IntKind.i64.wrap ((sl y0).snd + (↑(Lib.countByte (List.take (gv (qbO (sl y0).fst)).toNat (sl y0).fst) 10) : Int)), (gv (qdP (List.drop (gv (qbO (sl y0).fst)).toNat (sl y0).fst))).snd.snd.snd)))
    (.bi (pj 2 o) (fun y0 => .at (((sr y0).snd.snd, 0, 0)))
     (.bi (pj 3 o) (fun y0 =>
      .at (([], IntKind.i64.wrap ((sr y0).snd.fst + (↑(Lib.countByte (List.take (gv (qbO (sr y0).fst)).toNat (sr y0).fst) 10) : Int)), (gv (qdP (List.drop (gv (qbO (sr y0).fst)).toNat (sr y0).fst))).snd.snd.snd)))
      (.no))))
theorem qFy (s : Bs) : qu7 s = .br (decide ((s.length : Int) > 2048)) (.at (([], 0, 5))) (quz (qlA (Sum.inl (s, 1)))) := rfl
def hdT (s : Bs) (line : Int) : List Tok → qdM
 | [] => .inl (s, line)
 | acc => .inr (s, line, ET acc)
theorem qCC : ∀ (k : Nat) (s : Bs) (line : Int) (acc : List Tok), s.length < k → 0 ≤ line → line + s.length ≤ 10000 → acc.length + s.length ≤ 10000 →
  (quz (qlA (hdT s line acc))).ev = some (ET (qlQ k s line acc).1, (qlQ k s line acc).2.1, (qlQ k s line acc).2.2)
 | 0, s, line, acc, h, _, _, _ => by omega
 | k + 1, s, line, acc, h, h0, h1, h2 => by
  have hl : s.length ≤ q2M := Nat.le_trans (show s.length ≤ 10000 by omega) (by decide)
  have hb := qy3 (ql2 hl)
  have hn := qru false s
  have hc : (s.take (blk false s)).count 10 ≤ blk false s := Nat.le_trans List.count_le_length (by simp; omega)
  have hw : IntKind.i64.wrap (line + (Lib.countByte (s.take (blk false s)) 10 : Int)) = line + ((s.take (blk false s)).count 10 : Nat) := by
   show IntKind.i64.wrap (line + ((s.take (blk false s)).count 10 : Nat)) = _
   exact wrap64 (by omega) (by omega)
  rw [qpk]
  simp only [qlQ]
  cases hd : s.drop (blk false s) with
  | nil =>
   cases acc with
   | nil =>
    rw [qai (j := 0)]
    ·rfl
    ·simp only [hdT, qfh, Sum.elim_inl, qjU, hb, ev_bi_some, qaP hn, Int.toNat_natCast, hd, Bool.and_true, ev_br, ev_at, cond_true]; rfl
   | cons a acc =>
    rw [qai (j := 2)]
    ·rfl
    ·simp only [hdT, qfh, Sum.elim_inr, qjV, hb, ev_bi_some, qaP hn, Int.toNat_natCast, hd, Bool.and_true, ev_br, ev_at, cond_true]; rfl
  | cons c r =>
   have hlen := congrArg List.length hd
   simp only [List.length_drop, List.length_cons] at hlen
   have hx := qzj (s := c :: r) (by simp) (by simp only [q2M, List.length_cons] at hl ⊢; omega)
   have he : ((c :: r : Bs) == []) = false := rfl
   cases hz : ((qbY (c :: r)).2.2 != 0)
   ·have hz' : (qbY (c :: r)).2.2 = 0 := by simpa using hz
    obtain ⟨g1, t, g2⟩ := qt6 hz'
    have g3 : (qbY (c :: r)).2.1.length ≤ (c :: r).length := by
     have := congrArg List.length g2
     rw [List.length_append] at this; omega
    have g4 : 1 ≤ (qbY (c :: r)).2.1.length := by
     cases hq : (qbY (c :: r)).2.1 with
     | nil => exact absurd hq g1
     | cons _ _ => simp
    have hst : (qfh (hdT s line acc)).ev = some (.next (hdT ((c :: r).drop (qbY (c :: r)).2.1.length) (line + ((s.take (blk false s)).count 10 : Nat)) (acc ++ [⟨(qbY (c :: r)).1, line + ((s.take (blk false s)).count 10 : Nat), (qbY (c :: r)).2.1⟩]))) := by
     cases acc with
     | nil =>
      simp only [hdT, qfh, Sum.elim_inl, qjU, hb, ev_bi_some, qaP hn, qaP g3, Int.toNat_natCast, hd, he, hx, hz, hw, Bool.and_true, ev_br, ev_at, cond_true, cond_false]
      rfl
     | cons a acc =>
      have hr : room ((ET (a :: acc)).length + 1) 32 = true := qdj (by simp only [List.length_map, lim]; omega)
      simp only [hdT, qfh, Sum.elim_inr, qjV, hb, ev_bi_some, qaP hn, qaP g3, Int.toNat_natCast, hd, he, hx, hz, hw, hr, Bool.and_true, ev_br, ev_at, cond_true, cond_false, List.cons_append, List.map_append]
      simp [hdT, Tok.av]
    rw [qaA hst, ← qpk]
    simp only [hz, cond_false]
    simp only [List.length_cons] at g3
    exact qCC k _ _ _ (by simp only [List.length_drop, List.length_cons]; omega) (by omega) (by simp only [List.length_drop, List.length_cons]; omega) (by simp only [List.length_drop, List.length_cons, List.length_append, List.length_nil]; omega)
   ·cases acc with
    | nil =>
     rw [qai (j := 1)]
     ·simp (decide := true) only [quz, hdT, pj_some, if_true, if_false, ev_bi_none, ev_bi_some, ev_at, sl_inl, hb, gv_some, Int.toNat_natCast, hd, hx, hw, hz, cond_true]; rfl
     ·simp only [hdT, qfh, Sum.elim_inl, qjU, hb, ev_bi_some, qaP hn, Int.toNat_natCast, hd, he, hx, hz, Bool.and_true, ev_br, ev_at, cond_true, cond_false]
    | cons a acc =>
     rw [qai (j := 3)]
     ·simp (decide := true) only [quz, hdT, pj_some, if_true, if_false, ev_bi_none, ev_bi_some, ev_at, sr_inr, hb, gv_some, Int.toNat_natCast, hd, hx, hw, hz, cond_true]; rfl
     ·simp only [hdT, qfh, Sum.elim_inr, qjV, hb, ev_bi_some, qaP hn, Int.toNat_natCast, hd, he, hx, hz, Bool.and_true, ev_br, ev_at, cond_true, cond_false]
theorem qEC (s : Bs) : qwq s = some (ET (qjY s).1, (qjY s).2.1, (qjY s).2.2) := by
 rw [qJK, qFy, qjY]
 cases h : decide ((s.length : Int) > 2048)
 ·have h' : s.length ≤ 2048 := by
   have := of_decide_eq_false h; omega
  simp only [ev_br, cond_false]
  exact qCC (s.length + 1) s 1 [] (by omega) (by omega) (by omega) (by simp; omega)
 ·rfl
end Go.Proofs.H13

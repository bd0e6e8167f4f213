/- The program's tokens: what the printed functions come to. -/
import Derived.Test.YtoeknkhpjdomhaaGreatDoorD09_1
import Derived.Test.YtoeknkhpjdomhaaGreatDoorD09_2
import Derived.Test.YtoeknkhpjdomhaaGreatDoorD09_3
import Derived.Test.YtoeknkhpjdomhaaGreatDoorTkA
set_option linter.unusedVariables false
set_option linter.unusedSimpArgs false
set_option linter.unnecessarySimpa false
namespace Go.Proofs.H09
open Go Go.Eng Go.Tk
set_option maxRecDepth 20000
theorem qix (x : Int) : qiw x = some (qiZ x) := by
 rw [qqM, qkk]; by_cases h : x ≥ 97 <;> simp [qiZ, h]
theorem qft (x : Int) : qeS x = some (qaI x) := by
 rw [qqR, qkp]; by_cases h : x ≥ 48 <;> simp [qaI, h]
theorem qiv (x : Int) : qgK x = some (qbK x) := by
 rw [qqL, qkj, qix, qft, qbK]
 cases qiZ x <;> cases qaI x <;> simp
theorem qon (x : Int) : qir x = some (qbA x) := by
 rw [qqB, qkb, qiv, qbA]
 cases qbK x <;> cases (x == 46) <;> simp
theorem qom (x : Int) : qiq x = some (qcD x) := by
 rw [qqA, qka]; rfl
theorem qoW {s : Bs} (hl : s.length ≤ big) : qnn (s, 0) = some (0, s, ((s.takeWhile (at8 qcD)).length : Int)) := by
 rw [qlr]
 refine qe7 (fun n h => ?_) ?_
 ·simp only [qhB, qhC, qbk h, qaO h, qaH h, w32, qom, qao h hl, br_eq, cond_true, sm_some, gv_some, ev_bi_some, ev_br, ev_at, cond_some]
 ·simp [qhB, qhC]
theorem qos {s : Bs} (hl : s.length ≤ big) : qgL s = some (s.takeWhile (at8 qcD)) := by
 rw [qqO, qkm, qoW hl]
 simp [qaJ (qdt s), qdu]
theorem qoQ {s : Bs} (hl : s.length ≤ big) : qnk (s, 0) = some (0, s, ((s.takeWhile (at8 qbK)).length : Int)) := by
 rw [qln]
 refine qe7 (fun n h => ?_) ?_
 ·simp only [qhs, qht, qbk h, qaO h, qaH h, w32, qiv, qao h hl, br_eq, cond_true, sm_some, gv_some, ev_bi_some, ev_br, ev_at, cond_some]
 ·simp [qhs, qht]
theorem qoo {s : Bs} (hl : s.length ≤ big) : qk7 s = some (s.takeWhile (at8 qbK)) := by
 rw [qqE, qke, qoQ hl]
 simp [qaJ (qdt s), qdu]
theorem qoR {s : Bs} (hl : s.length ≤ big) : qnl (s, 0) = some (0, s, ((s.takeWhile (at8 qbA)).length : Int)) := by
 rw [qlo]
 refine qe7 (fun n h => ?_) ?_
 ·simp only [qhu, qhv, qbk h, qaO h, qaH h, w32, qon, qao h hl, br_eq, cond_true, sm_some, gv_some, ev_bi_some, ev_br, ev_at, cond_some]
 ·simp [qhu, qhv]
theorem qop {s : Bs} (hl : s.length ≤ big) : qk8 s = some (s.takeWhile (at8 qbA)) := by
 rw [qqF, qkf, qoR hl]
 simp [qaJ (qdt s), qdu]
theorem qoS {s : Bs} (hl : s.length ≤ big) : qnm (s, 0) = some (0, s, ((s.takeWhile (at8 qaI)).length : Int)) := by
 rw [qlp]
 refine qe7 (fun n h => ?_) ?_
 ·simp only [qhw, qhx, qbk h, qaO h, qaH h, w32, qft, qao h hl, br_eq, cond_true, sm_some, gv_some, ev_bi_some, ev_br, ev_at, cond_some]
 ·simp [qhw, qhx]
theorem qis {s : Bs} (hl : s.length ≤ big) : qeh s = some (s.takeWhile (at8 qaI)) := by
 rw [qqG, qkg, qoS hl]
 simp [qaJ (qdt s), qdu]
theorem qoV {s : Bs} (hl : s.length ≤ big) : ∀ (k n : Nat), n + k = s.length → ∃ j, (j = 0 ∨ j = 1) ∧ qlq (s, (n : Int)) = some (j, s, ((n + blk false (s.drop n) : Nat) : Int)) := by
 intro k
 induction k using Nat.strongRecOn with
 | _ k ih =>
  intro n hn
  rw [qeX]
  by_cases h : n < s.length
  ·have hst : (qfP (s, (n : Int))).ev = some (bif spI (s[n].toNat : Int) then .next (s, ((n + 1 : Nat) : Int)) else bif (s[n].toNat : Int) == 35 then .next (s, ((n + ((s.drop n).takeWhile (at8 qcD)).length : Nat) : Int)) else .done 0) := by
    have hw : IntKind.i64.wrap ((n : Int) + (((s.drop n).takeWhile (at8 qcD)).length : Int)) = ((n + ((s.drop n).takeWhile (at8 qcD)).length : Nat) : Int) := by
     have := qdt (p := at8 qcD) (s.drop n)
     simp only [List.length_drop, big] at this hl
     rw [wrap64 (by omega) (by omega)]; simp
    have hd : (s.drop n).length ≤ big := by simp; omega
    simp only [qfP, qhA, qbk h, qaO h, qaH h, qao h hl, qaJ (Nat.le_of_lt h), Int.toNat_natCast, qos hd, hw, ev_bi_some, ev_br, ev_at, cond_true, spI]
    cases ((s[n].toNat : Int) == 32) <;> cases ((s[n].toNat : Int) == 9) <;> cases ((s[n].toNat : Int) == 10) <;> cases ((s[n].toNat : Int) == 35) <;> rfl
   rw [drop_at h]
   simp only [blk]
   cases hs : spI (s[n].toNat : Int)
   ·cases hc : ((s[n].toNat : Int) == 35)
    ·rw [hs, hc] at hst
     exact ⟨0, .inl rfl, by rw [qak hst]; simp⟩
    ·rw [hs, hc] at hst
     rw [qat hst]
     have ht : ((s.drop n).takeWhile (at8 qcD)).length = ((s.drop (n + 1)).takeWhile (at8 qcD)).length + 1 := by
      have : at8 qcD s[n] = true := by
       simp only [at8, qcD, bne_iff_ne, ne_eq]
       have : (s[n].toNat : Int) = 35 := by simpa using hc
       omega
      rw [drop_at h, List.takeWhile_cons_of_pos this, List.length_cons]
     have hle := qdt (p := at8 qcD) (s.drop n)
     simp only [List.length_drop] at hle
     obtain ⟨j, h1, h2⟩ := ih (k - ((s.drop n).takeWhile (at8 qcD)).length) (by omega) (n + ((s.drop n).takeWhile (at8 qcD)).length) (by omega)
     rw [qeX] at h2
     refine ⟨j, h1, h2.trans ?_⟩
     have e : s.drop (n + ((s.drop n).takeWhile (at8 qcD)).length) = (s.drop (n + 1)).drop ((s.drop (n + 1)).takeWhile (at8 qcD)).length := by rw [List.drop_drop, ht]; congr 1; omega
     rw [e, cond_false, cond_true, qjr (s.drop (n + 1)), ht]
     congr 4; omega
   ·rw [hs] at hst
    rw [qat hst]
    obtain ⟨j, h1, h2⟩ := ih (k - 1) (by omega) (n + 1) (by omega)
    rw [qeX] at h2
    refine ⟨j, h1, h2.trans ?_⟩
    rw [cond_true]; congr 4; omega
  ·have hn' : n = s.length := by omega
   subst hn'
   refine ⟨1, .inr rfl, ?_⟩
   rw [qak (j := 1) (by simp [qfP, qhA])]
   simp [blk]
theorem qoq {s : Bs} (hl : s.length ≤ big) : qbG s = some ((blk false s : Nat) : Int) := by
 obtain ⟨j, h1, h2⟩ := qoV hl s.length 0 (by omega)
 rw [qqI, qki]
 simp only [Int.natCast_zero] at h2
 rw [h2]
 rcases h1 with rfl | rfl <;> simp
theorem qow : qld = some (ES wordsS) := by
 rw [qqU, qks]; rfl
theorem qou : qlc = some (ES marksS) := by
 rw [qqS, qkq]; rfl
theorem qrS {l : List Bs} (hl : l.length ≤ big) (s : Bs) : qrR (ES l, s, (l.length : Int), 0) = some (qzw (s == ·) (fun _ => 0) 1 l, ES l, s, (l.length : Int), ((l.findIdx (s == ·) : Nat) : Int)) := by
 rw [qnr]
 refine qbq (hd := fun n => (ES l, s, (l.length : Int), (n : Int))) (jx := fun _ => 0) (s == ·) 1 (fun n h => ?_) ?_
 ·simp only [ql5, qjU, qbk h, qC3 h, qs0 h, ev_br, ev_at, cond_true, qao h hl]
  cases (s == l[n]) <;> rfl
 ·simp [ql5, qjU]
theorem qqK {l : List Bs} (hl : l.length ≤ big) (s : Bs) : qqJ (ES l) s = some (has l s) := by
 rw [qtH, qnW, qtK, qnY, List.length_map, qrS hl, qbM, has]
 cases l.any (s == ·) <;> simp
theorem qdY (s : Bs) : qeT s = some (qdV s) := by
 rw [qqZ, qkv, qow]
 simp only [ev_bi_some, qqK (l := wordsS) (by decide), ev_at, qdV]
theorem qfs {s : Bs} (hl : s.length ≤ big) : qgJ s = some (qew s) := by
 rw [qqD, qkd, qis hl]
 cases s with
 | nil => rfl
 | cons c r =>
  have e1 : ((c :: r).takeWhile (at8 qaI) == c :: r) = (c :: r).all (at8 qaI) := by
   rw [Bool.eq_iff_iff, beq_iff_eq]; exact qh6
  have e2 : qad (c :: r) 0 = (c.toNat : Int) := by simp [qad, qcc]
  have e3 : ((c.toNat : Int) != 48) = (some c != some 48) := by
   rw [Bool.eq_iff_iff, bne_iff_ne, bne_iff_ne, ne_eq, ne_eq, Decidable.not_iff_not, Option.some.injEq, ← UInt8.toNat_inj]
   exact Int.ofNat_inj
  have e4 : inB (c :: r).length 0 = true := by simp [inB]
  simp only [sm_some, gv_some, br_eq, cond_true, e1, e2, e3, e4, qew, List.head?_cons, cond_some, ev_bi_some, ev_at]
  cases (c :: r).all (at8 qaI) <;> cases (((c :: r).length : Int) == 1) <;> simp
theorem qok {s : Bs} (hl : s.length ≤ big) : qk5 s [37] = some (bif s.getLast? == some 37 then (s.dropLast, true) else (s, false)) := by
 rw [qqs, qj2, qtC, qnT, qtG, qnV]
 simp only [big] at hl
 cases hs : s with
 | nil => rfl
 | cons c r =>
  rw [← hs]
  have h1 : 1 ≤ s.length := by rw [hs]; simp
  have e1 : decide ((s.length : Int) ≥ (([37] : Bs).length : Int)) = true := by simp; omega
  have e2 : IntKind.i64.wrap ((s.length : Int) - (([37] : Bs).length : Int)) = ((s.length - 1 : Nat) : Int) := by
   rw [wrap64 (by simp; omega) (by simp; omega)]; simp; omega
  have e3 : leB ((s.length - 1 : Nat) : Int) s.length = true := qaJ (by omega)
  have e4 : s.take (s.length - 1) = s.dropLast := by rw [List.dropLast_eq_take]
  have e5 : (s.drop (s.length - 1) == [37]) = (s.getLast? == some 37) := by
   have hne : s ≠ [] := by rw [hs]; simp
   have := List.dropLast_concat_getLast hne
   rw [List.getLast?_eq_some_getLast hne]
   conv => lhs; lhs; rw [← this]
   rw [List.drop_append_of_le_length (by simp), show (s.dropLast ++ [s.getLast hne]).length - 1 = s.dropLast.length by simp, List.drop_length]
   simp
  simp only [e1, e2, e3, e4, e5, br_eq, cond_true, ev_bi_some, Int.toNat_natCast, Bool.and_true, ev_br, ev_at]
  cases (s.getLast? == some 37) <;> rfl
theorem qqW (t : Bs) : qqV t [46] = some (Lib.indexByte t 46) := by
 rw [qtI, qnX]
 have e1 : ((([46] : Bs).length : Int) == 0) = false := rfl
 have e2 : ((([46] : Bs).length : Int) == 1) = true := rfl
 have e3 : inB ([46] : Bs).length 0 = true := rfl
 have e4 : (qad [46] 0).toNat.toUInt8 = 46 := rfl
 simp only [e1, e2, e3, e4, br_eq, cond_false, cond_true, ev_bi_some, ev_br, ev_at]
 cases h : (([46] : Bs) == t)
 ·rfl
 ·have := eq_of_beq h
  subst this; rfl
theorem qiy {t : Bs} (hl : t.length ≤ big) : qlb t [46] = some (qbu t) := by
 rw [qqQ, qko, qtM, qnZ, qqW, qt3]
 simp only [big] at hl
 have hdw := drop_tw (p := (· != 46)) t
 by_cases h : (t.takeWhile (· != 46)).length < t.length
 ·have e1 : decide (((t.takeWhile (· != 46)).length : Int) ≥ 0) = true := by simp
  have e2 : IntKind.i64.wrap (((t.takeWhile (· != 46)).length : Int) + (([46] : Bs).length : Int)) = (((t.takeWhile (· != 46)).length + 1 : Nat) : Int) := by
   rw [wrap64 (by simp; omega) (by simp; omega)]; simp
  have e3 : leB ((t.takeWhile (· != 46)).length : Int) t.length = true := qaJ (Nat.le_of_lt h)
  have e4 : leB (((t.takeWhile (· != 46)).length + 1 : Nat) : Int) t.length = true := qaJ h
  simp only [ev_bi_some, if_pos h, e1, e2, e3, e4, ev_br, ev_at, cond_true, Int.toNat_natCast, Bool.and_true, qdu]
  unfold qbu
  rw [← hdw]
  rw [List.drop_eq_getElem_cons h]
 ·simp only [ev_bi_some, if_neg h]
  unfold qbu
  have hdn : t.drop (t.takeWhile (· != 46)).length = [] := List.drop_eq_nil_of_le (Nat.not_lt.1 h)
  rw [← hdw, hdn]
  rfl
theorem qoY (w : Bs) {p : Bs} (hp : p.length ≤ 4) : qnp (w, p) = some (0, w, qdo p) := by
 rw [qls]
 have key : ∀ (k : Nat) (p : Bs), p.length + k = 4 → qav (fun v => (qfR v).ev) (w, p) = some (0, w, qdo p) := by
  intro k
  induction k with
  | zero =>
   intro p h
   have : qdo p = p := by unfold qdo; rw [show 4 - p.length = 0 by omega]; simp
   rw [this, qak (j := 0)]
   have : decide ((p.length : Int) < 4) = false := by simp; omega
   simp [qfR, qhE, this]
  | succ k ih =>
   intro p h
   have e1 : decide ((p.length : Int) < 4) = true := by simp; omega
   have e2 : decide (p.length + 1 ≤ 4611686018427387904) = true := by simp; omega
   rw [qat (v' := (w, p ++ [48])) (by simp only [qfR, qhE, e1, e2, ev_br, ev_at, cond_true]), ih (p ++ [48]) (by simp; omega)]
   have : qdo (p ++ [48]) = qdo p := by
    unfold qdo
    rw [show 4 - p.length = (4 - (p ++ [48]).length) + 1 by simp; omega, List.replicate_succ, List.append_assoc]; rfl
   rw [this]
 exact key (4 - p.length) p (by omega)
theorem qca {s : Bs} (hl : s.length ≤ big) : qf4 s = some (qbd s) := by
 rw [qqY, qku, qok hl, qbd]
 cases hs : (s.getLast? == some 37)
 ·have h1 : (qbu s).1.length ≤ big := by
   have := qdt (p := (· != 46)) s
   unfold qbu; split <;> simp <;> omega
  simp only [cond_false, ev_bi_some, qiy hl, qfs h1, Bool.not_false, br_eq, cond_true, ev_br, ev_at]
 ·have hd : s.dropLast.length ≤ big := by simp; omega
  have h1 : (qbu s.dropLast).1.length ≤ big := by
   have := qdt (p := (· != 46)) s.dropLast
   unfold qbu; split <;> simp at * <;> omega
  have h2 : (qbu s.dropLast).2.1.length ≤ big := by
   have := drop_tw (p := (· != 46)) s.dropLast
   unfold qbu
   split
   ·simp
   ·rename_i x y e
    have h3 := congrArg List.length (this.trans e)
    simp at h3 hd ⊢
    omega
  simp only [cond_true, ev_bi_some, qiy hd, qfs h1, Bool.not_true, br_eq, cond_false, sm_some, gv_some]
  have h0 : (qbu s.dropLast).2.2 = false → (qbu s.dropLast).2.1 = [] := by
   unfold qbu; split <;> simp
  generalize qbu s.dropLast = c at h0 h1 h2
  obtain ⟨w, p, pt⟩ := c
  simp only at h0 h1 h2 ⊢
  cases hi : qew w
  ·simp only [Bool.not_false, cond_true, ev_bi_some, ev_br, ev_at, Bool.true_or]
  ·simp only [Bool.not_true, cond_false, Bool.false_or, ev_bi_some]
   have hpart : (bif pt then bif p == [] then some true else bif decide ((p.length : Int) > 4) then some true else bif sm (qeh p) then bif !gv (qeh p) == p then some true else bif inB p.length (IntKind.i64.wrap ((p.length : Int) - 1)) then some (qad p (IntKind.i64.wrap ((p.length : Int) - 1)) == 48) else none else none else some false) = some (pt && !qb8 p) := by
    cases pt
    ·rfl
    ·cases hp : p with
     | nil => rfl
     | cons x y =>
      rw [← hp]
      have hne : p ≠ [] := by rw [hp]; simp
      have h1' : 1 ≤ p.length := by rw [hp]; simp
      have e0 : (p == []) = false := by simpa using hne
      have e1 : (p.takeWhile (at8 qaI) == p) = p.all (at8 qaI) := by
       rw [Bool.eq_iff_iff, beq_iff_eq]; exact qh6
      have e2 : IntKind.i64.wrap ((p.length : Int) - 1) = ((p.length - 1 : Nat) : Int) := by
       simp only [big] at h2
       rw [wrap64 (by omega) (by omega)]; omega
      have e3 : inB p.length ((p.length - 1 : Nat) : Int) = true := qaO (by omega)
      have e4 : (qad p ((p.length - 1 : Nat) : Int) == 48) = (p.getLast? == some 48) := by
       rw [qaH (by omega), List.getLast?_eq_getElem?, List.getElem?_eq_getElem (by omega), Bool.eq_iff_iff, beq_iff_eq, beq_iff_eq, Option.some.injEq, ← UInt8.toNat_inj]
       exact Int.ofNat_inj
      have e5 : decide ((p.length : Int) > 4) = !decide (p.length ≤ 4) := by
       by_cases h : p.length ≤ 4 <;> simp [h] <;> omega
      simp only [cond_true, cond_false, e0, qis h2, sm_some, gv_some, e1, e2, e3, e4, e5, qb8, bne, Bool.true_and]
      cases decide (p.length ≤ 4) <;> cases p.all (at8 qaI) <;> cases (p.getLast? == some 48) <;> rfl
   rw [hpart]
   simp only [ev_bi_some, ev_br, ev_at]
   cases hg : (pt && !qb8 p)
   ·simp only [cond_false]
    have e6 : decide ((w.length : Int) > 3) = decide (w.length > 3) := by
     by_cases h : w.length > 3 <;> simp [h] <;> omega
    rw [e6]
    cases h3 : decide (w.length > 3)
    ·simp only [cond_false]
     have hw3 : w.length ≤ 3 := by simpa using h3
     have hp4 : p.length ≤ 4 ∧ p.all (at8 qaI) = true := by
      cases pt
      ·rw [h0 rfl]; exact ⟨by simp, rfl⟩
      ·have hb : qb8 p = true := by simpa using hg
       simp only [qb8, Bool.and_eq_true, decide_eq_true_eq] at hb
       exact ⟨hb.2.1, hb.2.2.1⟩
     have hw : w ≠ [] ∧ w.all (at8 qaI) = true := by
      simp only [qew, Bool.and_eq_true, bne_iff_ne, ne_eq] at hi
      exact ⟨hi.2.1, hi.1⟩
     have hq : qdo p = p ++ List.replicate (4 - p.length) 48 := rfl
     have hl7 : (w ++ qdo p).length ≤ 7 := by rw [hq]; simp; omega
     have had : (w ++ qdo p).all (at8 qaI) = true := by
      rw [hq, List.all_append, List.all_append, hw.2, hp4.2]
      simp [at8, qaI]
     have hne : w ++ qdo p ≠ [] := by simp [hw.1]
     have hlt : qaC 0 (w ++ qdo p) < 9223372036854775808 := by
      have h7 := qjt (w ++ qdo p) 0 0 had (by omega)
      have : 10 ^ (0 + (w ++ qdo p).length) ≤ 10 ^ 7 := Nat.pow_le_pow_right (by omega) (by omega)
      omega
     have hat := qm5 had hne
     rw [if_pos hlt] at hat
     have e7 : decide (w.length + (qdo p).length ≤ 4611686018427387904) = true := by
      rw [List.length_append] at hl7; simp; omega
     have e8 : pOk (w ++ qdo p) = true := by simp only [pOk]; simp at hl7 ⊢; omega
     rw [qoY w hp4.1]
     simp only [pj_some, if_true, ev_bi_some, e7, e8, hat, nOk, qBn, Bool.and_self, ev_br, cond_true, ev_at, cond_some]
    ·rfl
   ·rfl
def qzP : Nat := 281474976710656
theorem qgp {n : Nat} (h : n ≤ qzP) : n ≤ big := Nat.le_trans h (by decide)
theorem qor {s : Bs} (hl : s.length ≤ qzP) : qk9 s = some ((qnF s).1, 0, (qnF s).2.1, (qnF s).2.2) := by
 rw [qqN, qkl, qfs (qgp hl), qca (qgp hl), qnF]
 have e : pOk s = true := decide_eq_true hl
 simp only [ev_bi_some, ev_br, ev_at, e, Bool.true_and]
 cases qew s
 ·simp only [cond_false]
  cases ((qbd s).2 == 0) <;> cases ((qbd s).2 == 1) <;> rfl
 ·simp only [cond_true]
  cases Lib.parseIntB 64 s <;> rfl
theorem qol (s m : Bs) : qk6 s m = some (preB m s) := by
 rw [qqt, qj3, qtE, qnU]
 have e : decide ((s.length : Int) ≥ (m.length : Int)) = decide (m.length ≤ s.length) := by
  by_cases h : m.length ≤ s.length <;> simp [h] <;> omega
 simp only [e, preB, qzg, Int.toNat_natCast]
 cases decide (m.length ≤ s.length) <;> simp
theorem qoZ (s : Bs) : qlt (s, ES marksS, (marksS.length : Int), 0, 0, 0, []) = some (qzw (preB · s) (fun _ => 0) 1 marksS, s, ES marksS, (marksS.length : Int), ((marksS.findIdx (preB · s) : Nat) : Int), 0, 0, []) := by
 rw [qlu]
 refine qbq (hd := fun n => (s, ES marksS, (marksS.length : Int), (n : Int), (0 : Int), (0 : Int), ([] : Bs))) (jx := fun _ => 0) (preB · s) 1 (fun n h => ?_) ?_
 ·simp only [qhF, qhG, qbk h, qC3 h, qs0 h, qol, ev_bi_some, ev_br, ev_at, cond_true, qao h (show marksS.length ≤ big by decide)]
  cases (preB marksS[n] s) <;> rfl
 ·simp [qhF, qhG]
theorem qoy {s : Bs} (hne : s ≠ []) (hl : s.length ≤ qzP) : qdw s = some ((qai s).1, 0, (qai s).2.1, (qai s).2.2) := by
 have hb := qgp hl
 rw [qq0, qkw]
 cases s with
 | nil => exact absurd rfl hne
 | cons c r =>
  have e1 : inB (c :: r).length 0 = true := by simp [inB]
  have e2 : qad (c :: r) 0 = (c.toNat : Int) := by simp [qad, qcc]
  simp only [e1, e2, w32, qix, qft, qoo hb, qop hb, qdY, qou, ev_bi_some, ev_br, ev_at, cond_true, qai]
  rw [show at8 qiZ c = qiZ (c.toNat : Int) from rfl, show at8 qaI c = qaI (c.toNat : Int) from rfl]
  cases qiZ (c.toNat : Int)
  ·cases qaI (c.toNat : Int)
   ·simp only [cond_false, List.length_map, qoZ, qbM, qtn, pj_some]
    by_cases h : marksS.findIdx (preB · (c :: r)) < marksS.length
    ·have hf := List.find?_eq_getElem?_findIdx (p := (preB · (c :: r))) (xs := marksS)
     rw [List.getElem?_eq_getElem h] at hf
     simp only [decide_eq_true h, cond_true, if_true, ev_bi_some, ev_at, qs0 h, hf]
    ·have hf : marksS.find? (preB · (c :: r)) = none := by
      rw [List.find?_eq_getElem?_findIdx]; exact List.getElem?_eq_none (Nat.not_lt.1 h)
     rw [hf]
     simp [h]
   ·have h2 : ((c :: r).takeWhile (at8 qbA)).length ≤ qzP := Nat.le_trans (qdt _) hl
    simp only [cond_false, cond_true, qor h2, ev_bi_some, ev_at]
  ·simp only [cond_true]
   have e : decide ((((c :: r).takeWhile (at8 qbK)).length : Int) > 16) = decide (((c :: r).takeWhile (at8 qbK)).length > 16) := by
    by_cases h : ((c :: r).takeWhile (at8 qbK)).length > 16 <;> simp [h] <;> omega
   rw [e]
   cases qdV ((c :: r).takeWhile (at8 qbK)) <;> cases decide (((c :: r).takeWhile (at8 qbK)).length > 16) <;> rfl
noncomputable def qjZ (o : Option (Nat × qbV)) : DT qpA :=
  .bi (pj 0 o) (fun y0 => .at (([], 0, 0)))
   (.bi (pj 1 o) (fun y0 =>
    .at (([], IntKind.i64.wrap ((sl y0).snd + (↑(Lib.countByte (List.take (gv (qbG (sl y0).fst)).toNat (sl y0).fst) 10) : Int)), (gv (qdw (List.drop (gv (qbG (sl y0).fst)).toNat (sl y0).fst))).snd.snd.snd)))
    (.bi (pj 2 o) (fun y0 => .at (((sr y0).snd.snd, 0, 0)))
     (.bi (pj 3 o) (fun y0 =>
      .at (([], IntKind.i64.wrap ((sr y0).snd.fst + (↑(Lib.countByte (List.take (gv (qbG (sr y0).fst)).toNat (sr y0).fst) 10) : Int)), (gv (qdw (List.drop (gv (qbG (sr y0).fst)).toNat (sr y0).fst))).snd.snd.snd)))
      (.no))))
theorem qpu (s : Bs) : qj9 s = .br (decide ((s.length : Int) > 2048)) (.at (([], 0, 5))) (qjZ (qf6 (Sum.inl (s, 1)))) := rfl
def hdT (s : Bs) (line : Int) : List Tok → qbV
 | [] => .inl (s, line)
 | acc => .inr (s, line, ET acc)
theorem qnS : ∀ (k : Nat) (s : Bs) (line : Int) (acc : List Tok), s.length < k → 0 ≤ line → line + s.length ≤ 10000 → acc.length + s.length ≤ 10000 →
  (qjZ (qf6 (hdT s line acc))).ev = some (ET (qdB k s line acc).1, (qdB k s line acc).2.1, (qdB k s line acc).2.2)
 | 0, s, line, acc, h, _, _, _ => by omega
 | k + 1, s, line, acc, h, h0, h1, h2 => by
  have hl : s.length ≤ qzP := Nat.le_trans (show s.length ≤ 10000 by omega) (by decide)
  have hb := qoq (qgp hl)
  have hn := qf1 false s
  have hc : (s.take (blk false s)).count 10 ≤ blk false s := Nat.le_trans List.count_le_length (by simp; omega)
  have hw : IntKind.i64.wrap (line + (Lib.countByte (s.take (blk false s)) 10 : Int)) = line + ((s.take (blk false s)).count 10 : Nat) := by
   show IntKind.i64.wrap (line + ((s.take (blk false s)).count 10 : Nat)) = _
   exact wrap64 (by omega) (by omega)
  rw [qg2]
  simp only [qdB]
  cases hd : s.drop (blk false s) with
  | nil =>
   cases acc with
   | nil =>
    rw [qak (j := 0)]
    ·rfl
    ·simp only [hdT, qcE, Sum.elim_inl, qfc, hb, ev_bi_some, qaJ hn, Int.toNat_natCast, hd, Bool.and_true, ev_br, ev_at, cond_true]; rfl
   | cons a acc =>
    rw [qak (j := 2)]
    ·rfl
    ·simp only [hdT, qcE, Sum.elim_inr, qfd, hb, ev_bi_some, qaJ hn, Int.toNat_natCast, hd, Bool.and_true, ev_br, ev_at, cond_true]; rfl
  | cons c r =>
   have hlen := congrArg List.length hd
   simp only [List.length_drop, List.length_cons] at hlen
   have hx := qoy (s := c :: r) (by simp) (by simp only [qzP, List.length_cons] at hl ⊢; omega)
   have he : ((c :: r : Bs) == []) = false := rfl
   cases hz : ((qai (c :: r)).2.2 != 0)
   ·have hz' : (qai (c :: r)).2.2 = 0 := by simpa using hz
    obtain ⟨g1, t, g2⟩ := qbn hz'
    have g3 : (qai (c :: r)).2.1.length ≤ (c :: r).length := by
     have := congrArg List.length g2
     rw [List.length_append] at this; omega
    have g4 : 1 ≤ (qai (c :: r)).2.1.length := by
     cases hq : (qai (c :: r)).2.1 with
     | nil => exact absurd hq g1
     | cons _ _ => simp
    have hst : (qcE (hdT s line acc)).ev = some (.next (hdT ((c :: r).drop (qai (c :: r)).2.1.length) (line + ((s.take (blk false s)).count 10 : Nat)) (acc ++ [⟨(qai (c :: r)).1, line + ((s.take (blk false s)).count 10 : Nat), (qai (c :: r)).2.1⟩]))) := by
     cases acc with
     | nil =>
      simp only [hdT, qcE, Sum.elim_inl, qfc, hb, ev_bi_some, qaJ hn, qaJ g3, Int.toNat_natCast, hd, he, hx, hz, hw, Bool.and_true, ev_br, ev_at, cond_true, cond_false]
      rfl
     | cons a acc =>
      have hr : room ((ET (a :: acc)).length + 1) 32 = true := qsX (by simp only [List.length_map, lim]; omega)
      simp only [hdT, qcE, Sum.elim_inr, qfd, hb, ev_bi_some, qaJ hn, qaJ g3, Int.toNat_natCast, hd, he, hx, hz, hw, hr, Bool.and_true, ev_br, ev_at, cond_true, cond_false, List.cons_append, List.map_append]
      simp [hdT, Tok.av]
    rw [qat hst, ← qg2]
    simp only [hz, cond_false]
    simp only [List.length_cons] at g3
    exact qnS k _ _ _ (by simp only [List.length_drop, List.length_cons]; omega) (by omega) (by simp only [List.length_drop, List.length_cons]; omega) (by simp only [List.length_drop, List.length_cons, List.length_append, List.length_nil]; omega)
   ·cases acc with
    | nil =>
     rw [qak (j := 1)]
     ·simp (decide := true) only [qjZ, hdT, pj_some, if_true, if_false, ev_bi_none, ev_bi_some, ev_at, sl_inl, hb, gv_some, Int.toNat_natCast, hd, hx, hw, hz, cond_true]; rfl
     ·simp only [hdT, qcE, Sum.elim_inl, qfc, hb, ev_bi_some, qaJ hn, Int.toNat_natCast, hd, he, hx, hz, Bool.and_true, ev_br, ev_at, cond_true, cond_false]
    | cons a acc =>
     rw [qak (j := 3)]
     ·simp (decide := true) only [qjZ, hdT, pj_some, if_true, if_false, ev_bi_none, ev_bi_some, ev_at, sr_inr, hb, gv_some, Int.toNat_natCast, hd, hx, hw, hz, cond_true]; rfl
     ·simp only [hdT, qcE, Sum.elim_inr, qfd, hb, ev_bi_some, qaJ hn, Int.toNat_natCast, hd, he, hx, hz, Bool.and_true, ev_br, ev_at, cond_true, cond_false]
theorem qbv (s : Bs) : qb3 s = some (ET (qa2 s).1, (qa2 s).2.1, (qa2 s).2.2) := by
 rw [qqz, qpu, qa2]
 cases h : decide ((s.length : Int) > 2048)
 ·have h' : s.length ≤ 2048 := by
   have := of_decide_eq_false h; omega
  simp only [ev_br, cond_false]
  exact qnS (s.length + 1) s 1 [] (by omega) (by omega) (by omega) (by simp; omega)
 ·rfl
end Go.Proofs.H09

/- The program's tokens: what the printed functions come to. -/
import Derived.Test.YtigchhcddgibhaaGreatDoorD13_1
import Derived.Test.YtigchhcddgibhaaGreatDoorD13_2
import Derived.Test.YtigchhcddgibhaaGreatDoorD13_3
import Derived.Test.YtigchhcddgibhaaGreatDoorD13_4
import Derived.Test.YtigchhcddgibhaaGreatDoorD13_5
import Derived.Test.YtigchhcddgibhaaGreatDoorD13_6
import Derived.Test.YtigchhcddgibhaaGreatDoorD13_7
import Derived.Test.YtigchhcddgibhaaGreatDoorD13_8
import Derived.Test.YtigchhcddgibhaaGreatDoorD13_9
import Derived.Test.YtigchhcddgibhaaGreatDoorD13_10
import Derived.Test.YtigchhcddgibhaaGreatDoorD13_11
import Derived.Test.YtigchhcddgibhaaGreatDoorD13_12
import Derived.Test.YtigchhcddgibhaaGreatDoorTkA
set_option linter.unusedVariables false
set_option linter.unusedSimpArgs false
set_option linter.unnecessarySimpa false
namespace Go.Proofs.H13
open Go Go.Eng Go.Tk
set_option maxRecDepth 20000
theorem qkJ (x : Int) : qhH x = some (qFP x) := by
 rw [qxI, qi6]; by_cases h : x >= 97 <;> simp [qFP, h]
theorem qgk (x : Int) : qeH x = some (qiR x) := by
 rw [qxT, qjg]; by_cases h : x >= 48 <;> simp [qiR, h]
theorem qkI (x : Int) : qgg x = some (qiP x) := by
 rw [qxH, qi5, qkJ, qgk, qiP]
 cases qFP x <;> cases qiR x <;> simp
theorem qy8 (x : Int) : qnV x = some (qAy x) := by
 rw [qEe, qqt, qkI, qAy]
 cases qiP x <;> cases (x == 46) <;> simp
theorem qy7 (x : Int) : qnU x = some (qnD x) := by
 rw [qEd, qqs]; rfl
theorem qzC {s : Bs} (hl : s.length <= big) : qwl (s, 0) = some (0, s, ((s.takeWhile (at8 qnD)).length : Int)) := by
 rw [qsb]
 refine qm6 (fun n h => ?_) ?_
 ·simp only [qmD, qmE, qar h, qaO h, qdB h, w32, qy7, qal h hl, br_eq, cond_true, sm_some, gv_some, ev_bi_some, ev_br, ev_at, cond_some]
 ·simp [qmD, qmE]
theorem qt7 {s : Bs} (hl : s.length <= big) : qgh s = some (s.takeWhile (at8 qnD)) := by
 rw [qxK, qi8, qzC hl]
 simp [qaF (qiz s), qmO]
theorem qzw {s : Bs} (hl : s.length <= big) : qwh (s, 0) = some (0, s, ((s.takeWhile (at8 qiP)).length : Int)) := by
 rw [qr1]
 refine qm6 (fun n h => ?_) ?_
 ·simp only [qmp, qmq, qar h, qaO h, qdB h, w32, qkI, qal h hl, br_eq, cond_true, sm_some, gv_some, ev_bi_some, ev_br, ev_at, cond_some]
 ·simp [qmp, qmq]
theorem qze {s : Bs} (hl : s.length <= big) : qrH s = some (s.takeWhile (at8 qiP)) := by
 rw [qEz, qqO, qzw hl]
 simp [qaF (qiz s), qmO]
theorem qzx {s : Bs} (hl : s.length <= big) : qwi (s, 0) = some (0, s, ((s.takeWhile (at8 qAy)).length : Int)) := by
 rw [qr2]
 refine qm6 (fun n h => ?_) ?_
 ·simp only [qmr, qms, qar h, qaO h, qdB h, w32, qy8, qal h hl, br_eq, cond_true, sm_some, gv_some, ev_bi_some, ev_br, ev_at, cond_some]
 ·simp [qmr, qms]
theorem qzg {s : Bs} (hl : s.length <= big) : qrI s = some (s.takeWhile (at8 qAy)) := by
 rw [qEA, qqP, qzx hl]
 simp [qaF (qiz s), qmO]
theorem qzy {s : Bs} (hl : s.length <= big) : qwj (s, 0) = some (0, s, ((s.takeWhile (at8 qiR)).length : Int)) := by
 rw [qr3]
 refine qm6 (fun n h => ?_) ?_
 ·simp only [qmt, qmu, qar h, qaO h, qdB h, w32, qgk, qal h hl, br_eq, cond_true, sm_some, gv_some, ev_bi_some, ev_br, ev_at, cond_some]
 ·simp [qmt, qmu]
theorem qn3 {s : Bs} (hl : s.length <= big) : qf8 s = some (s.takeWhile (at8 qiR)) := by
 rw [qEB, qqQ, qzy hl]
 simp [qaF (qiz s), qmO]
theorem qzB {s : Bs} (hl : s.length <= big) : ∀ (k n : Nat), n + k = s.length -> ∃ j, (j = 0 \/ j = 1) /\ qsa (s, (n : Int)) = some (j, s, ((n + blk false (s.drop n) : Nat) : Int)) := by
 intro k
 induction k using Nat.strongRecOn with
 | _ k ih =>
  intro n hn
  rw [qgY]
  by_cases h : n < s.length
  ·have hst : (qiw (s, (n : Int))).ev = some (bif spI (s[n].toNat : Int) then .next (s, ((n + 1 : Nat) : Int)) else bif (s[n].toNat : Int) == 35 then .next (s, ((n + ((s.drop n).takeWhile (at8 qnD)).length : Nat) : Int)) else .done 0) := by
    have hw : IntKind.i64.wrap ((n : Int) + (((s.drop n).takeWhile (at8 qnD)).length : Int)) = ((n + ((s.drop n).takeWhile (at8 qnD)).length : Nat) : Int) := by
     have := qiz (p := at8 qnD) (s.drop n)
     simp only [List.length_drop, big] at this hl
     rw [wrap64 (by omega) (by omega)]; simp
    have hd : (s.drop n).length <= big := by simp; omega
    simp only [qiw, qmC, qar h, qaO h, qdB h, qal h hl, qaF (Nat.le_of_lt h), Int.toNat_natCast, qt7 hd, hw, ev_bi_some, ev_br, ev_at, cond_true, spI]
    cases ((s[n].toNat : Int) == 32) <;> cases ((s[n].toNat : Int) == 9) <;> cases ((s[n].toNat : Int) == 10) <;> cases ((s[n].toNat : Int) == 35) <;> rfl
   rw [drop_at h]
   simp only [blk]
   cases hs : spI (s[n].toNat : Int)
   ·cases hc : ((s[n].toNat : Int) == 35)
    ·rw [hs, hc] at hst
     exact ⟨0, .inl rfl, by rw [qag hst]; simp⟩
    ·rw [hs, hc] at hst
     rw [qaw hst]
     have ht : ((s.drop n).takeWhile (at8 qnD)).length = ((s.drop (n + 1)).takeWhile (at8 qnD)).length + 1 := by
      have : at8 qnD s[n] = true := by
       simp only [at8, qnD, bne_iff_ne, ne_eq]
       have : (s[n].toNat : Int) = 35 := by simpa using hc
       omega
      rw [drop_at h, List.takeWhile_cons_of_pos this, List.length_cons]
     have hle := qiz (p := at8 qnD) (s.drop n)
     simp only [List.length_drop] at hle
     obtain ⟨j, h1, h2⟩ := ih (k - ((s.drop n).takeWhile (at8 qnD)).length) (by omega) (n + ((s.drop n).takeWhile (at8 qnD)).length) (by omega)
     rw [qgY] at h2
     refine ⟨j, h1, h2.trans ?_⟩
     have e : s.drop (n + ((s.drop n).takeWhile (at8 qnD)).length) = (s.drop (n + 1)).drop ((s.drop (n + 1)).takeWhile (at8 qnD)).length := by rw [List.drop_drop, ht]; congr 1; omega
     rw [e, cond_false, cond_true, qMB (s.drop (n + 1)), ht]
     congr 4; omega
   ·rw [hs] at hst
    rw [qaw hst]
    obtain ⟨j, h1, h2⟩ := ih (k - 1) (by omega) (n + 1) (by omega)
    rw [qgY] at h2
    refine ⟨j, h1, h2.trans ?_⟩
    rw [cond_true]; congr 4; omega
  ·have hn' : n = s.length := by omega
   subst hn'
   refine ⟨1, .inr rfl, ?_⟩
   rw [qag (j := 1) (by simp [qiw, qmC])]
   simp [blk]
theorem qt5 {s : Bs} (hl : s.length <= big) : qbf s = some ((blk false s : Nat) : Int) := by
 obtain ⟨j, h1, h2⟩ := qzB hl s.length 0 (by omega)
 rw [qxG, qi4]
 simp only [Int.natCast_zero] at h2
 rw [h2]
 rcases h1 with rfl | rfl <;> simp
theorem quc : qkQ = some (ES wordsS) := by
 rw [qxW, qji]; rfl
theorem qub : qkP = some (ES marksS) := by
 rw [qxV, qjh]; rfl
theorem qzu {l : List Bs} (hl : l.length <= big) (s : Bs) : qrT (ES l, s, (l.length : Int), 0) = some (qf0 (s == ·) (fun _ => 0) 1 l, ES l, s, (l.length : Int), ((l.findIdx (s == ·) : Nat) : Int)) := by
 rw [qrU]
 refine qaC (hd := fun n => (ES l, s, (l.length : Int), (n : Int))) (jx := fun _ => 0) (s == ·) 1 (fun n h => ?_) ?_
 ·simp only [qmh, qmi, qar h, qLK h, qs0 h, ev_br, ev_at, cond_true, qal h hl]
  cases (s == l[n]) <;> rfl
 ·simp [qmh, qmi]
theorem qxN {l : List Bs} (hl : l.length <= big) (s : Bs) : qru (ES l) s = some (has l s) := by
 rw [qDQ, qpW, qDS, qpZ, List.length_map, qzu hl, qaE, has]
 cases l.any (s == ·) <;> simp
theorem quk (s : Bs) : qkU s = some (qvi s) := by
 rw [qyd, qjv, quc]
 simp only [ev_bi_some, qxN (l := wordsS) (by decide), ev_at, qvi]
theorem qhY {s : Bs} (hl : s.length <= big) : qlo s = some (qXX s) := by
 rw [qEy, qqN, qn3 hl]
 cases s with
 | nil => rfl
 | cons c r =>
  have e1 : ((c :: r).takeWhile (at8 qiR) == c :: r) = (c :: r).all (at8 qiR) := by
   rw [Bool.eq_iff_iff, beq_iff_eq]; exact qL7
  have e2 : qaI (c :: r) 0 = (c.toNat : Int) := by simp [qaI, qiM]
  have e3 : ((c.toNat : Int) != 48) = (some c != some 48) := by
   rw [Bool.eq_iff_iff, bne_iff_ne, bne_iff_ne, ne_eq, ne_eq, Decidable.not_iff_not, Option.some.injEq, <- UInt8.toNat_inj]
   exact Int.ofNat_inj
  have e4 : inB (c :: r).length 0 = true := by simp [inB]
  simp only [sm_some, gv_some, br_eq, cond_true, e1, e2, e3, e4, qXX, List.head?_cons, cond_some, ev_bi_some, ev_at]
  cases (c :: r).all (at8 qiR) <;> cases (((c :: r).length : Int) == 1) <;> simp
theorem qy2 {s : Bs} (hl : s.length <= big) : qrx s [37] = some (bif s.getLast? == some 37 then (s.dropLast, true) else (s, false)) := by
 rw [qDY, qqe, qMK, qxg, qDP, qpV]
 simp only [big] at hl
 cases hs : s with
 | nil => rfl
 | cons c r =>
  rw [<- hs]
  have h1 : 1 <= s.length := by rw [hs]; simp
  have e1 : decide ((s.length : Int) >= (([37] : Bs).length : Int)) = true := by simp; omega
  have e2 : IntKind.i64.wrap ((s.length : Int) - (([37] : Bs).length : Int)) = ((s.length - 1 : Nat) : Int) := by
   rw [wrap64 (by simp; omega) (by simp; omega)]; simp; omega
  have e3 : leB ((s.length - 1 : Nat) : Int) s.length = true := qaF (by omega)
  have e4 : s.take (s.length - 1) = s.dropLast := by rw [List.dropLast_eq_take]
  have e5 : (s.drop (s.length - 1) == [37]) = (s.getLast? == some 37) := by
   have hne : s ≠ [] := by rw [hs]; simp
   have := List.dropLast_concat_getLast hne
   rw [List.getLast?_eq_some_getLast hne]
   conv => lhs; lhs; rw [<- this]
   rw [List.drop_append_of_le_length (by simp), show (s.dropLast ++ [s.getLast hne]).length - 1 = s.dropLast.length by simp, List.drop_length]
   simp
  simp only [e1, e2, e3, e4, e5, br_eq, cond_true, ev_bi_some, Int.toNat_natCast, Bool.and_true, ev_br, ev_at]
  cases (s.getLast? == some 37) <;> rfl
theorem qxU (t : Bs) : qrv t [46] = some (Lib.indexByte t 46) := by
 rw [qDR, qpY]
 have e1 : ((([46] : Bs).length : Int) == 0) = false := rfl
 have e2 : ((([46] : Bs).length : Int) == 1) = true := rfl
 have e3 : inB ([46] : Bs).length 0 = true := rfl
 have e4 : (qaI [46] 0).toNat.toUInt8 = 46 := rfl
 simp only [e1, e2, e3, e4, br_eq, cond_false, cond_true, ev_bi_some, ev_br, ev_at]
 cases h : (([46] : Bs) == t)
 ·rfl
 ·have := eq_of_beq h
  subst this; rfl
theorem qkO {t : Bs} (hl : t.length <= big) : qkN t [46] = some (qxt t) := by
 rw [qxS, qjf, qDT, qp0, qxU, qXV]
 simp only [big] at hl
 have hdw := drop_tw (p := (· != 46)) t
 by_cases h : (t.takeWhile (· != 46)).length < t.length
 ·have e1 : decide (((t.takeWhile (· != 46)).length : Int) >= 0) = true := by simp
  have e2 : IntKind.i64.wrap (((t.takeWhile (· != 46)).length : Int) + (([46] : Bs).length : Int)) = (((t.takeWhile (· != 46)).length + 1 : Nat) : Int) := by
   rw [wrap64 (by simp; omega) (by simp; omega)]; simp
  have e3 : leB ((t.takeWhile (· != 46)).length : Int) t.length = true := qaF (Nat.le_of_lt h)
  have e4 : leB (((t.takeWhile (· != 46)).length + 1 : Nat) : Int) t.length = true := qaF h
  simp only [ev_bi_some, if_pos h, e1, e2, e3, e4, ev_br, ev_at, cond_true, Int.toNat_natCast, Bool.and_true, qmO]
  unfold qxt
  rw [<- hdw]
  rw [List.drop_eq_getElem_cons h]
 ·simp only [ev_bi_some, if_neg h]
  unfold qxt
  have hdn : t.drop (t.takeWhile (· != 46)).length = [] := List.drop_eq_nil_of_le (Nat.not_lt.1 h)
  rw [<- hdw, hdn]
  rfl
theorem quS (w : Bs) {p : Bs} (hp : p.length <= 4) : qpD (w, p) = some (0, w, qsQ p) := by
 rw [qof]
 have key : ∀ (k : Nat) (p : Bs), p.length + k = 4 -> qaq (fun v => (qfL v).ev) (w, p) = some (0, w, qsQ p) := by
  intro k
  induction k with
  | zero =>
   intro p h
   have : qsQ p = p := by unfold qsQ; rw [show 4 - p.length = 0 by omega]; simp
   rw [this, qag (j := 0)]
   have : decide ((p.length : Int) < 4) = false := by simp; omega
   simp [qfL, qif, this]
  | succ k ih =>
   intro p h
   have e1 : decide ((p.length : Int) < 4) = true := by simp; omega
   have e2 : decide (p.length + 1 <= 4611686018427387904) = true := by simp; omega
   rw [qaw (v' := (w, p ++ [48])) (by simp only [qfL, qif, e1, e2, ev_br, ev_at, cond_true]), ih (p ++ [48]) (by simp; omega)]
   have : qsQ (p ++ [48]) = qsQ p := by
    unfold qsQ
    rw [show 4 - p.length = (4 - (p ++ [48]).length) + 1 by simp; omega, List.replicate_succ, List.append_assoc]; rfl
   rw [this]
 exact key (4 - p.length) p (by omega)
theorem quj {s : Bs} (hl : s.length <= big) : qkT s = some (qw0 s) := by
 rw [qyc, qju, qy2 hl, qw0]
 cases hs : (s.getLast? == some 37)
 ·have h1 : (qxt s).1.length <= big := by
   have := qiz (p := (· != 46)) s
   unfold qxt; split <;> simp <;> omega
  simp only [cond_false, ev_bi_some, qkO hl, qhY h1, Bool.not_false, br_eq, cond_true, ev_br, ev_at]
 ·have hd : s.dropLast.length <= big := by simp; omega
  have h1 : (qxt s.dropLast).1.length <= big := by
   have := qiz (p := (· != 46)) s.dropLast
   unfold qxt; split <;> simp at * <;> omega
  have h2 : (qxt s.dropLast).2.1.length <= big := by
   have := drop_tw (p := (· != 46)) s.dropLast
   unfold qxt
   split
   ·simp
   ·rename_i x y e
    have h3 := congrArg List.length (this.trans e)
    simp at h3 hd ⊢
    omega
  simp only [cond_true, ev_bi_some, qkO hd, qhY h1, Bool.not_true, br_eq, cond_false, sm_some, gv_some]
  have h0 : (qxt s.dropLast).2.2 = false -> (qxt s.dropLast).2.1 = [] := by
   unfold qxt; split <;> simp
  generalize qxt s.dropLast = c at h0 h1 h2
  obtain ⟨w, p, pt⟩ := c
  simp only at h0 h1 h2 ⊢
  cases hi : qXX w
  ·simp only [Bool.not_false, cond_true, ev_bi_some, ev_br, ev_at, Bool.true_or]
  ·simp only [Bool.not_true, cond_false, Bool.false_or, ev_bi_some]
   have hpart : (bif pt then bif p == [] then some true else bif decide ((p.length : Int) > 4) then some true else bif sm (qf8 p) then bif !gv (qf8 p) == p then some true else bif inB p.length (IntKind.i64.wrap ((p.length : Int) - 1)) then some (qaI p (IntKind.i64.wrap ((p.length : Int) - 1)) == 48) else none else none else some false) = some (pt && !qHB p) := by
    cases pt
    ·rfl
    ·cases hp : p with
     | nil => rfl
     | cons x y =>
      rw [<- hp]
      have hne : p ≠ [] := by rw [hp]; simp
      have h1' : 1 <= p.length := by rw [hp]; simp
      have e0 : (p == []) = false := by simpa using hne
      have e1 : (p.takeWhile (at8 qiR) == p) = p.all (at8 qiR) := by
       rw [Bool.eq_iff_iff, beq_iff_eq]; exact qL7
      have e2 : IntKind.i64.wrap ((p.length : Int) - 1) = ((p.length - 1 : Nat) : Int) := by
       simp only [big] at h2
       rw [wrap64 (by omega) (by omega)]; omega
      have e3 : inB p.length ((p.length - 1 : Nat) : Int) = true := qaO (by omega)
      have e4 : (qaI p ((p.length - 1 : Nat) : Int) == 48) = (p.getLast? == some 48) := by
       rw [qdB (by omega), List.getLast?_eq_getElem?, List.getElem?_eq_getElem (by omega), Bool.eq_iff_iff, beq_iff_eq, beq_iff_eq, Option.some.injEq, <- UInt8.toNat_inj]
       exact Int.ofNat_inj
      have e5 : decide ((p.length : Int) > 4) = !decide (p.length <= 4) := by
       by_cases h : p.length <= 4 <;> simp [h] <;> omega
      simp only [cond_true, cond_false, e0, qn3 h2, sm_some, gv_some, e1, e2, e3, e4, e5, qHB, bne, Bool.true_and]
      cases decide (p.length <= 4) <;> cases p.all (at8 qiR) <;> cases (p.getLast? == some 48) <;> rfl
   rw [hpart]
   simp only [ev_bi_some, ev_br, ev_at]
   cases hg : (pt && !qHB p)
   ·simp only [cond_false]
    have e6 : decide ((w.length : Int) > 3) = decide (w.length > 3) := by
     by_cases h : w.length > 3 <;> simp [h] <;> omega
    rw [e6]
    cases h3 : decide (w.length > 3)
    ·simp only [cond_false]
     have hw3 : w.length <= 3 := by simpa using h3
     have hp4 : p.length <= 4 /\ p.all (at8 qiR) = true := by
      cases pt
      ·rw [h0 rfl]; exact ⟨by simp, rfl⟩
      ·have hb : qHB p = true := by simpa using hg
       simp only [qHB, Bool.and_eq_true, decide_eq_true_eq] at hb
       exact ⟨hb.2.1, hb.2.2.1⟩
     have hw : w ≠ [] /\ w.all (at8 qiR) = true := by
      simp only [qXX, Bool.and_eq_true, bne_iff_ne, ne_eq] at hi
      exact ⟨hi.2.1, hi.1⟩
     have hq : qsQ p = p ++ List.replicate (4 - p.length) 48 := rfl
     have hl7 : (w ++ qsQ p).length <= 7 := by rw [hq]; simp; omega
     have had : (w ++ qsQ p).all (at8 qiR) = true := by
      rw [hq, List.all_append, List.all_append, hw.2, hp4.2]
      simp [at8, qiR]
     have hne : w ++ qsQ p ≠ [] := by simp [hw.1]
     have hlt : qQJ 0 (w ++ qsQ p) < 9223372036854775808 := by
      have h7 := qVV (w ++ qsQ p) 0 0 had (by omega)
      have : 10 ^ (0 + (w ++ qsQ p).length) <= 10 ^ 7 := Nat.pow_le_pow_right (by omega) (by omega)
      omega
     have hat := qXM had hne
     rw [if_pos hlt] at hat
     have e7 : decide (w.length + (qsQ p).length <= 4611686018427387904) = true := by
      rw [List.length_append] at hl7; simp; omega
     have e8 : pOk (w ++ qsQ p) = true := by simp only [pOk]; simp at hl7 ⊢; omega
     rw [quS w hp4.1]
     simp only [pj_some, if_true, ev_bi_some, e7, e8, hat, nOk, q5a, Bool.and_self, ev_br, cond_true, ev_at, cond_some]
    ·rfl
   ·rfl
def qZb : Nat := 281474976710656
theorem qiY {n : Nat} (h : n <= qZb) : n <= big := Nat.le_trans h (by decide)
theorem qt6 {s : Bs} (hl : s.length <= qZb) : qkK s = some ((qY4 s).1, 0, (qY4 s).2.1, (qY4 s).2.2) := by
 rw [qxJ, qi7, qhY (qiY hl), quj (qiY hl), qY4]
 have e : pOk s = true := decide_eq_true hl
 simp only [ev_bi_some, ev_br, ev_at, e, Bool.true_and]
 cases qXX s
 ·simp only [cond_false]
  cases ((qw0 s).2 == 0) <;> cases ((qw0 s).2 == 1) <;> rfl
 ·simp only [cond_true]
  cases Lib.parseIntB 64 s <;> rfl
theorem qy3 (s m : Bs) : qry s m = some (preB m s) := by
 rw [qDZ, qqf, qMM, qxh]
 have e : decide ((s.length : Int) >= (m.length : Int)) = decide (m.length <= s.length) := by
  by_cases h : m.length <= s.length <;> simp [h] <;> omega
 simp only [e, preB, q1D, Int.toNat_natCast]
 cases decide (m.length <= s.length) <;> simp
theorem quT (s : Bs) : qlt (s, ES marksS, (marksS.length : Int), 0, 0, 0, []) = some (qf0 (preB · s) (fun _ => 0) 1 marksS, s, ES marksS, (marksS.length : Int), ((marksS.findIdx (preB · s) : Nat) : Int), 0, 0, []) := by
 rw [qog]
 refine qaC (hd := fun n => (s, ES marksS, (marksS.length : Int), (n : Int), (0 : Int), (0 : Int), ([] : Bs))) (jx := fun _ => 0) (preB · s) 1 (fun n h => ?_) ?_
 ·simp only [qg7, qig, qar h, qLK h, qs0 h, qy3, ev_bi_some, ev_br, ev_at, cond_true, qal h (show marksS.length <= big by decide)]
  cases (preB marksS[n] s) <;> rfl
 ·simp [qg7, qig]
theorem qul {s : Bs} (hne : s ≠ []) (hl : s.length <= qZb) : qcI s = some ((qdo s).1, 0, (qdo s).2.1, (qdo s).2.2) := by
 have hb := qiY hl
 rw [qye, qjw]
 cases s with
 | nil => exact absurd rfl hne
 | cons c r =>
  have e1 : inB (c :: r).length 0 = true := by simp [inB]
  have e2 : qaI (c :: r) 0 = (c.toNat : Int) := by simp [qaI, qiM]
  simp only [e1, e2, w32, qkJ, qgk, qze hb, qzg hb, quk, qub, ev_bi_some, ev_br, ev_at, cond_true, qdo]
  rw [show at8 qFP c = qFP (c.toNat : Int) from rfl, show at8 qiR c = qiR (c.toNat : Int) from rfl]
  cases qFP (c.toNat : Int)
  ·cases qiR (c.toNat : Int)
   ·simp only [cond_false, List.length_map, quT, qaE, qXK, pj_some]
    by_cases h : marksS.findIdx (preB · (c :: r)) < marksS.length
    ·have hf := List.find?_eq_getElem?_findIdx (p := (preB · (c :: r))) (xs := marksS)
     rw [List.getElem?_eq_getElem h] at hf
     simp only [decide_eq_true h, cond_true, if_true, ev_bi_some, ev_at, qs0 h, hf]
    ·have hf : marksS.find? (preB · (c :: r)) = none := by
      rw [List.find?_eq_getElem?_findIdx]; exact List.getElem?_eq_none (Nat.not_lt.1 h)
     rw [hf]
     simp [h]
   ·have h2 : ((c :: r).takeWhile (at8 qAy)).length <= qZb := Nat.le_trans (qiz _) hl
    simp only [cond_false, cond_true, qt6 h2, ev_bi_some, ev_at]
  ·simp only [cond_true]
   have e : decide ((((c :: r).takeWhile (at8 qiP)).length : Int) > 16) = decide (((c :: r).takeWhile (at8 qiP)).length > 16) := by
    by_cases h : ((c :: r).takeWhile (at8 qiP)).length > 16 <;> simp [h] <;> omega
   rw [e]
   cases qvi ((c :: r).takeWhile (at8 qiP)) <;> cases decide (((c :: r).takeWhile (at8 qiP)).length > 16) <;> rfl
noncomputable def qpT (o : Option (Nat × qcG)) : DT qB6 :=
  .bi (pj 0 o) (fun y0 => .at (([], 0, 0)))
   (.bi (pj 1 o) (fun y0 =>
    .at (([], IntKind.i64.wrap ((sl y0).snd + (↑(Lib.countByte (List.take (gv (qbf (sl y0).fst)).toNat (sl y0).fst) 10) : Int)), (gv (qcI (List.drop (gv (qbf (sl y0).fst)).toNat (sl y0).fst))).snd.snd.snd)))
    (.bi (pj 2 o) (fun y0 => .at (((sr y0).snd.snd, 0, 0)))
     (.bi (pj 3 o) (fun y0 =>
      .at (([], IntKind.i64.wrap ((sr y0).snd.fst + (↑(Lib.countByte (List.take (gv (qbf (sr y0).fst)).toNat (sr y0).fst) 10) : Int)), (gv (qcI (List.drop (gv (qbf (sr y0).fst)).toNat (sr y0).fst))).snd.snd.snd)))
      (.no))))
theorem qzS (s : Bs) : qqr s = .br (decide ((s.length : Int) > 2048)) (.at (([], 0, 5))) (qpT (qiJ (Sum.inl (s, 1)))) := rfl
def hdT (s : Bs) (line : Int) : List Tok -> qcG
 | [] => .inl (s, line)
 | acc => .inr (s, line, ET acc)
theorem qxd : ∀ (k : Nat) (s : Bs) (line : Int) (acc : List Tok), s.length < k -> 0 <= line -> line + s.length <= 10000 -> acc.length + s.length <= 10000 ->
  (qpT (qiJ (hdT s line acc))).ev = some (ET (qs6 k s line acc).1, (qs6 k s line acc).2.1, (qs6 k s line acc).2.2)
 | 0, s, line, acc, h, _, _, _ => by omega
 | k + 1, s, line, acc, h, h0, h1, h2 => by
  have hl : s.length <= qZb := Nat.le_trans (show s.length <= 10000 by omega) (by decide)
  have hb := qt5 (qiY hl)
  have hn := qDC false s
  have hc : (s.take (blk false s)).count 10 <= blk false s := Nat.le_trans List.count_le_length (by simp; omega)
  have hw : IntKind.i64.wrap (line + (Lib.countByte (s.take (blk false s)) 10 : Int)) = line + ((s.take (blk false s)).count 10 : Nat) := by
   show IntKind.i64.wrap (line + ((s.take (blk false s)).count 10 : Nat)) = _
   exact wrap64 (by omega) (by omega)
  rw [qlF]
  simp only [qs6]
  cases hd : s.drop (blk false s) with
  | nil =>
   cases acc with
   | nil =>
    rw [qag (j := 0)]
    ·rfl
    ·simp only [hdT, qdW, Sum.elim_inl, qhm, hb, ev_bi_some, qaF hn, Int.toNat_natCast, hd, Bool.and_true, ev_br, ev_at, cond_true]; rfl
   | cons a acc =>
    rw [qag (j := 2)]
    ·rfl
    ·simp only [hdT, qdW, Sum.elim_inr, qhn, hb, ev_bi_some, qaF hn, Int.toNat_natCast, hd, Bool.and_true, ev_br, ev_at, cond_true]; rfl
  | cons c r =>
   have hlen := congrArg List.length hd
   simp only [List.length_drop, List.length_cons] at hlen
   have hx := qul (s := c :: r) (by simp) (by simp only [qZb, List.length_cons] at hl ⊢; omega)
   have he : ((c :: r : Bs) == []) = false := rfl
   cases hz : ((qdo (c :: r)).2.2 != 0)
   ·have hz' : (qdo (c :: r)).2.2 = 0 := by simpa using hz
    obtain ⟨g1, t, g2⟩ := qAw hz'
    have g3 : (qdo (c :: r)).2.1.length <= (c :: r).length := by
     have := congrArg List.length g2
     rw [List.length_append] at this; omega
    have g4 : 1 <= (qdo (c :: r)).2.1.length := by
     cases hq : (qdo (c :: r)).2.1 with
     | nil => exact absurd hq g1
     | cons _ _ => simp
    have hst : (qdW (hdT s line acc)).ev = some (.next (hdT ((c :: r).drop (qdo (c :: r)).2.1.length) (line + ((s.take (blk false s)).count 10 : Nat)) (acc ++ [⟨(qdo (c :: r)).1, line + ((s.take (blk false s)).count 10 : Nat), (qdo (c :: r)).2.1⟩]))) := by
     cases acc with
     | nil =>
      simp only [hdT, qdW, Sum.elim_inl, qhm, hb, ev_bi_some, qaF hn, qaF g3, Int.toNat_natCast, hd, he, hx, hz, hw, Bool.and_true, ev_br, ev_at, cond_true, cond_false]
      rfl
     | cons a acc =>
      have hr : room ((ET (a :: acc)).length + 1) 32 = true := qcA (by simp only [List.length_map, lim]; omega)
      simp only [hdT, qdW, Sum.elim_inr, qhn, hb, ev_bi_some, qaF hn, qaF g3, Int.toNat_natCast, hd, he, hx, hz, hw, hr, Bool.and_true, ev_br, ev_at, cond_true, cond_false, List.cons_append, List.map_append]
      simp [hdT, Tok.av]
    rw [qaw hst, <- qlF]
    simp only [hz, cond_false]
    simp only [List.length_cons] at g3
    exact qxd k _ _ _ (by simp only [List.length_drop, List.length_cons]; omega) (by omega) (by simp only [List.length_drop, List.length_cons]; omega) (by simp only [List.length_drop, List.length_cons, List.length_append, List.length_nil]; omega)
   ·cases acc with
    | nil =>
     rw [qag (j := 1)]
     ·simp (decide := true) only [qpT, hdT, pj_some, if_true, if_false, ev_bi_none, ev_bi_some, ev_at, sl_inl, hb, gv_some, Int.toNat_natCast, hd, hx, hw, hz, cond_true]; rfl
     ·simp only [hdT, qdW, Sum.elim_inl, qhm, hb, ev_bi_some, qaF hn, Int.toNat_natCast, hd, he, hx, hz, Bool.and_true, ev_br, ev_at, cond_true, cond_false]
    | cons a acc =>
     rw [qag (j := 3)]
     ·simp (decide := true) only [qpT, hdT, pj_some, if_true, if_false, ev_bi_none, ev_bi_some, ev_at, sr_inr, hb, gv_some, Int.toNat_natCast, hd, hx, hw, hz, cond_true]; rfl
     ·simp only [hdT, qdW, Sum.elim_inr, qhn, hb, ev_bi_some, qaF hn, Int.toNat_natCast, hd, he, hx, hz, Bool.and_true, ev_br, ev_at, cond_true, cond_false]
theorem qy6 (s : Bs) : qrE s = some (ET (qoH s).1, (qoH s).2.1, (qoH s).2.2) := by
 rw [qEc, qzS, qoH]
 cases h : decide ((s.length : Int) > 2048)
 ·have h' : s.length <= 2048 := by
   have := of_decide_eq_false h; omega
  simp only [ev_br, cond_false]
  exact qxd (s.length + 1) s 1 [] (by omega) (by omega) (by omega) (by simp; omega)
 ·rfl
end Go.Proofs.H13

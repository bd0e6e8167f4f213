/- The program's tokens: what the printed functions come to. -/
import Derived.Test.YthljpgljbpdmjaaGreatDoorD15c_1
import Derived.Test.YthljpgljbpdmjaaGreatDoorD15c_2
import Derived.Test.YthljpgljbpdmjaaGreatDoorD15c_3
import Derived.Test.YthljpgljbpdmjaaGreatDoorD15c_4
import Derived.Test.YthljpgljbpdmjaaGreatDoorD15c_5
import Derived.Test.YthljpgljbpdmjaaGreatDoorD15c_6
import Derived.Test.YthljpgljbpdmjaaGreatDoorD15c_7
import Derived.Test.YthljpgljbpdmjaaGreatDoorD15c_8
import Derived.Test.YthljpgljbpdmjaaGreatDoorTkA
set_option linter.unusedVariables false
set_option linter.unusedSimpArgs false
set_option linter.unnecessarySimpa false
namespace Go.Proofs.H15c
open Go Go.Eng Go.Tk
set_option maxRecDepth 20000
theorem qnA (x : Int) : qnz x = some (qud x) := by
 rw [qA3, qqm]; by_cases h : x ≥ 97 <;> simp [qud, h]
theorem qge (x : Int) : qer x = some (qgb x) := by
 rw [qwt, qiU]; by_cases h : x ≥ 48 <;> simp [qgb, h]
theorem qny (x : Int) : qkA x = some (qfm x) := by
 rw [qA2, qql, qnA, qge, qfm]
 cases qud x <;> cases qgb x <;> simp
theorem qxg (x : Int) : qnm x = some (qpb x) := by
 rw [qAC, qpX, qny, qpb]
 cases qfm x <;> cases (x == 46) <;> simp
theorem qxf (x : Int) : qnl x = some (qiC x) := by
 rw [qAB, qpW]; rfl
theorem qxQ {s : Bs} (hl : s.length ≤ big) : qvf (s, 0) = some (0, s, ((s.takeWhile (at8 qiC)).length : Int)) := by
 rw [qrF]
 refine qiN (fun n h => ?_) ?_
 ·simp only [qmo, qmp, qaK h, qeS h, qbw h, w32, qxf, qai h hl, br_eq, cond_true, sm_some, gv_some, ev_bi_some, ev_br, ev_at, cond_some]
 ·simp [qmo, qmp]
theorem qxw {s : Bs} (hl : s.length ≤ big) : qkB s = some (s.takeWhile (at8 qiC)) := by
 rw [qA5, qqo, qxQ hl]
 simp [qbe (qgF s), qik]
theorem qxH {s : Bs} (hl : s.length ≤ big) : qvb (s, 0) = some (0, s, ((s.takeWhile (at8 qfm)).length : Int)) := by
 rw [qrq]
 refine qiN (fun n h => ?_) ?_
 ·simp only [ql9, qma, qaK h, qeS h, qbw h, w32, qny, qai h hl, br_eq, cond_true, sm_some, gv_some, ev_bi_some, ev_br, ev_at, cond_some]
 ·simp [ql9, qma]
theorem qxk {s : Bs} (hl : s.length ≤ big) : qqX s = some (s.takeWhile (at8 qfm)) := by
 rw [qAK, qp4, qxH hl]
 simp [qbe (qgF s), qik]
theorem qxI {s : Bs} (hl : s.length ≤ big) : qvc (s, 0) = some (0, s, ((s.takeWhile (at8 qpb)).length : Int)) := by
 rw [qrr]
 refine qiN (fun n h => ?_) ?_
 ·simp only [qmb, qmc, qaK h, qeS h, qbw h, w32, qxg, qai h hl, br_eq, cond_true, sm_some, gv_some, ev_bi_some, ev_br, ev_at, cond_some]
 ·simp [qmb, qmc]
theorem qxl {s : Bs} (hl : s.length ≤ big) : qqY s = some (s.takeWhile (at8 qpb)) := by
 rw [qAL, qp5, qxI hl]
 simp [qbe (qgF s), qik]
theorem qxJ {s : Bs} (hl : s.length ≤ big) : qvd (s, 0) = some (0, s, ((s.takeWhile (at8 qgb)).length : Int)) := by
 rw [qrs]
 refine qiN (fun n h => ?_) ?_
 ·simp only [qmd, qme, qaK h, qeS h, qbw h, w32, qge, qai h hl, br_eq, cond_true, sm_some, gv_some, ev_bi_some, ev_br, ev_at, cond_some]
 ·simp [qmd, qme]
theorem qnq {s : Bs} (hl : s.length ≤ big) : qfR s = some (s.takeWhile (at8 qgb)) := by
 rw [qAM, qp6, qxJ hl]
 simp [qbe (qgF s), qik]
theorem qxP {s : Bs} (hl : s.length ≤ big) : ∀ (k n : Nat), n + k = s.length → ∃ j, (j = 0 ∨ j = 1) ∧ qrE (s, (n : Int)) = some (j, s, ((n + blk false (s.drop n) : Nat) : Int)) := by
 intro k
 induction k using Nat.strongRecOn with
 | _ k ih =>
  intro n hn
  rw [qg2]
  by_cases h : n < s.length
  ·have hst : (qid (s, (n : Int))).ev = some (bif spI (s[n].toNat : Int) then .next (s, ((n + 1 : Nat) : Int)) else bif (s[n].toNat : Int) == 35 then .next (s, ((n + ((s.drop n).takeWhile (at8 qiC)).length : Nat) : Int)) else .done 0) := by
    have hw : IntKind.i64.wrap ((n : Int) + (((s.drop n).takeWhile (at8 qiC)).length : Int)) = ((n + ((s.drop n).takeWhile (at8 qiC)).length : Nat) : Int) := by
     have := qgF (p := at8 qiC) (s.drop n)
     simp only [List.length_drop, big] at this hl
     rw [wrap64 (by omega) (by omega)]; simp
    have hd : (s.drop n).length ≤ big := by simp; omega
    simp only [qid, qmn, qaK h, qeS h, qbw h, qai h hl, qbe (Nat.le_of_lt h), Int.toNat_natCast, qxw hd, hw, ev_bi_some, ev_br, ev_at, cond_true, spI]
    cases ((s[n].toNat : Int) == 32) <;> cases ((s[n].toNat : Int) == 9) <;> cases ((s[n].toNat : Int) == 10) <;> cases ((s[n].toNat : Int) == 35) <;> rfl
   rw [drop_at h]
   simp only [blk]
   cases hs : spI (s[n].toNat : Int)
   ·cases hc : ((s[n].toNat : Int) == 35)
    ·rw [hs, hc] at hst
     exact ⟨0, .inl rfl, by rw [qar hst]; simp⟩
    ·rw [hs, hc] at hst
     rw [qaH hst]
     have ht : ((s.drop n).takeWhile (at8 qiC)).length = ((s.drop (n + 1)).takeWhile (at8 qiC)).length + 1 := by
      have : at8 qiC s[n] = true := by
       simp only [at8, qiC, bne_iff_ne, ne_eq]
       have : (s[n].toNat : Int) = 35 := by simpa using hc
       omega
      rw [drop_at h, List.takeWhile_cons_of_pos this, List.length_cons]
     have hle := qgF (p := at8 qiC) (s.drop n)
     simp only [List.length_drop] at hle
     obtain ⟨j, h1, h2⟩ := ih (k - ((s.drop n).takeWhile (at8 qiC)).length) (by omega) (n + ((s.drop n).takeWhile (at8 qiC)).length) (by omega)
     rw [qg2] at h2
     refine ⟨j, h1, h2.trans ?_⟩
     have e : s.drop (n + ((s.drop n).takeWhile (at8 qiC)).length) = (s.drop (n + 1)).drop ((s.drop (n + 1)).takeWhile (at8 qiC)).length := by rw [List.drop_drop, ht]; congr 1; omega
     rw [e, cond_false, cond_true, quH (s.drop (n + 1)), ht]
     congr 4; omega
   ·rw [hs] at hst
    rw [qaH hst]
    obtain ⟨j, h1, h2⟩ := ih (k - 1) (by omega) (n + 1) (by omega)
    rw [qg2] at h2
    refine ⟨j, h1, h2.trans ?_⟩
    rw [cond_true]; congr 4; omega
  ·have hn' : n = s.length := by omega
   subst hn'
   refine ⟨1, .inr rfl, ?_⟩
   rw [qar (j := 1) (by simp [qid, qmn])]
   simp [blk]
theorem qxu {s : Bs} (hl : s.length ≤ big) : qb6 s = some ((blk false s : Nat) : Int) := by
 obtain ⟨j, h1, h2⟩ := qxP hl s.length 0 (by omega)
 rw [qA1, qqk]
 simp only [Int.natCast_zero] at h2
 rw [h2]
 rcases h1 with rfl | rfl <;> simp
theorem qtj : qj1 = some (ES wordsS) := by
 rw [qwv, qiW]; rfl
theorem qti : qj0 = some (ES marksS) := by
 rw [qwu, qiV]; rfl
theorem qxC {l : List Bs} (hl : l.length ≤ big) (s : Bs) : qre (ES l, s, (l.length : Int), 0) = some (qix (s == ·) (fun _ => 0) 1 l, ES l, s, (l.length : Int), ((l.findIdx (s == ·) : Nat) : Int)) := by
 rw [qrf]
 refine qav (hd := fun n => (ES l, s, (l.length : Int), (n : Int))) (jx := fun _ => 0) (s == ·) 1 (fun n h => ?_) ?_
 ·simp only [qlZ, ql0, qaK h, qFw h, qs0 h, ev_br, ev_at, cond_true, qai h hl]
  cases (s == l[n]) <;> rfl
 ·simp [qlZ, ql0]
theorem qw4 {l : List Bs} (hl : l.length ≤ big) (s : Bs) : qqN (ES l) s = some (has l s) := by
 rw [qAl, qpH, qAn, qpJ, List.length_map, qxC hl, qas, has]
 cases l.any (s == ·) <;> simp
theorem qtu (s : Bs) : qj8 s = some (qm3 s) := by
 rw [qwE, qi6, qtj]
 simp only [ev_bi_some, qw4 (l := wordsS) (by decide), ev_at, qm3]
theorem qhD {s : Bs} (hl : s.length ≤ big) : qkx s = some (qGg s) := by
 rw [qAJ, qp3, qnq hl]
 cases s with
 | nil => rfl
 | cons c r =>
  have e1 : ((c :: r).takeWhile (at8 qgb) == c :: r) = (c :: r).all (at8 qgb) := by
   rw [Bool.eq_iff_iff, beq_iff_eq]; exact qv5
  have e2 : qaC (c :: r) 0 = (c.toNat : Int) := by simp [qaC, qda]
  have e3 : ((c.toNat : Int) != 48) = (some c != some 48) := by
   rw [Bool.eq_iff_iff, bne_iff_ne, bne_iff_ne, ne_eq, ne_eq, Decidable.not_iff_not, Option.some.injEq, ← UInt8.toNat_inj]
   exact Int.ofNat_inj
  have e4 : inB (c :: r).length 0 = true := by simp [inB]
  simp only [sm_some, gv_some, br_eq, cond_true, e1, e2, e3, e4, qGg, List.head?_cons, cond_some, ev_bi_some, ev_at]
  cases (c :: r).all (at8 qgb) <;> cases (((c :: r).length : Int) == 1) <;> simp
theorem qw6 {s : Bs} (hl : s.length ≤ big) : qqQ s [37] = some (bif s.getLast? == some 37 then (s.dropLast, true) else (s, false)) := by
 rw [qAs, qpO, qAi, qpC, qAk, qpG]
 simp only [big] at hl
 cases hs : s with
 | nil => rfl
 | cons c r =>
  rw [← hs]
  have h1 : 1 ≤ s.length := by rw [hs]; simp
  have e1 : decide ((s.length : Int) ≥ (([37] : Bs).length : Int)) = true := by simp; omega
  have e2 : IntKind.i64.wrap ((s.length : Int) - (([37] : Bs).length : Int)) = ((s.length - 1 : Nat) : Int) := by
   rw [wrap64 (by simp; omega) (by simp; omega)]; simp; omega
  have e3 : leB ((s.length - 1 : Nat) : Int) s.length = true := qbe (by omega)
  have e4 : s.take (s.length - 1) = s.dropLast := by rw [List.dropLast_eq_take]
  have e5 : (s.drop (s.length - 1) == [37]) = (s.getLast? == some 37) := by
   have hne : s ≠ [] := by rw [hs]; simp
   have := List.dropLast_concat_getLast hne
   rw [List.getLast?_eq_some_getLast hne]
   conv => lhs; lhs; rw [← this]
   rw [List.drop_append_of_le_length (by simp), show (s.dropLast ++ [s.getLast hne]).length - 1 = s.dropLast.length by simp, List.drop_length]
   simp
  simp only [e1, e2, e3, e4, e5, br_eq, cond_true, ev_bi_some, Int.toNat_natCast, Bool.and_true, ev_br, ev_at]
  cases (s.getLast? == some 37) <;> rfl
theorem qw5 (t : Bs) : qqO t [46] = some (Lib.indexByte t 46) := by
 rw [qAm, qpI]
 have e1 : ((([46] : Bs).length : Int) == 0) = false := rfl
 have e2 : ((([46] : Bs).length : Int) == 1) = true := rfl
 have e3 : inB ([46] : Bs).length 0 = true := rfl
 have e4 : (qaC [46] 0).toNat.toUInt8 = 46 := rfl
 simp only [e1, e2, e3, e4, br_eq, cond_false, cond_true, ev_bi_some, ev_br, ev_at]
 cases h : (([46] : Bs) == t)
 ·rfl
 ·have := eq_of_beq h
  subst this; rfl
theorem qjZ {t : Bs} (hl : t.length ≤ big) : qjY t [46] = some (quI t) := by
 rw [qws, qiT, qAo, qpK, qw5, qGf]
 simp only [big] at hl
 have hdw := drop_tw (p := (· != 46)) t
 by_cases h : (t.takeWhile (· != 46)).length < t.length
 ·have e1 : decide (((t.takeWhile (· != 46)).length : Int) ≥ 0) = true := by simp
  have e2 : IntKind.i64.wrap (((t.takeWhile (· != 46)).length : Int) + (([46] : Bs).length : Int)) = (((t.takeWhile (· != 46)).length + 1 : Nat) : Int) := by
   rw [wrap64 (by simp; omega) (by simp; omega)]; simp
  have e3 : leB ((t.takeWhile (· != 46)).length : Int) t.length = true := qbe (Nat.le_of_lt h)
  have e4 : leB (((t.takeWhile (· != 46)).length + 1 : Nat) : Int) t.length = true := qbe h
  simp only [ev_bi_some, if_pos h, e1, e2, e3, e4, ev_br, ev_at, cond_true, Int.toNat_natCast, Bool.and_true, qik]
  unfold quI
  rw [← hdw]
  rw [List.drop_eq_getElem_cons h]
 ·simp only [ev_bi_some, if_neg h]
  unfold quI
  have hdn : t.drop (t.takeWhile (· != 46)).length = [] := List.drop_eq_nil_of_le (Nat.not_lt.1 h)
  rw [← hdw, hdn]
  rfl
theorem qxU (w : Bs) {p : Bs} (hp : p.length ≤ 4) : qvk (w, p) = some (0, w, qqu p) := by
 rw [qrP]
 have key : ∀ (k : Nat) (p : Bs), p.length + k = 4 → qao (fun v => (qig v).ev) (w, p) = some (0, w, qqu p) := by
  intro k
  induction k with
  | zero =>
   intro p h
   have : qqu p = p := by unfold qqu; rw [show 4 - p.length = 0 by omega]; simp
   rw [this, qar (j := 0)]
   have : decide ((p.length : Int) < 4) = false := by simp; omega
   simp [qig, qmz, this]
  | succ k ih =>
   intro p h
   have e1 : decide ((p.length : Int) < 4) = true := by simp; omega
   have e2 : decide (p.length + 1 ≤ 4611686018427387904) = true := by simp; omega
   rw [qaH (v' := (w, p ++ [48])) (by simp only [qig, qmz, e1, e2, ev_br, ev_at, cond_true]), ih (p ++ [48]) (by simp; omega)]
   have : qqu (p ++ [48]) = qqu p := by
    unfold qqu
    rw [show 4 - p.length = (4 - (p ++ [48]).length) + 1 by simp; omega, List.replicate_succ, List.append_assoc]; rfl
   rw [this]
 exact key (4 - p.length) p (by omega)
theorem qtt {s : Bs} (hl : s.length ≤ big) : qj7 s = some (qm0 s) := by
 rw [qwD, qi5, qw6 hl, qm0]
 cases hs : (s.getLast? == some 37)
 ·have h1 : (quI s).1.length ≤ big := by
   have := qgF (p := (· != 46)) s
   unfold quI; split <;> simp <;> omega
  simp only [cond_false, ev_bi_some, qjZ hl, qhD h1, Bool.not_false, br_eq, cond_true, ev_br, ev_at]
 ·have hd : s.dropLast.length ≤ big := by simp; omega
  have h1 : (quI s.dropLast).1.length ≤ big := by
   have := qgF (p := (· != 46)) s.dropLast
   unfold quI; split <;> simp at * <;> omega
  have h2 : (quI s.dropLast).2.1.length ≤ big := by
   have := drop_tw (p := (· != 46)) s.dropLast
   unfold quI
   split
   ·simp
   ·rename_i x y e
    have h3 := congrArg List.length (this.trans e)
    simp at h3 hd ⊢
    omega
  simp only [cond_true, ev_bi_some, qjZ hd, qhD h1, Bool.not_true, br_eq, cond_false, sm_some, gv_some]
  have h0 : (quI s.dropLast).2.2 = false → (quI s.dropLast).2.1 = [] := by
   unfold quI; split <;> simp
  generalize quI s.dropLast = c at h0 h1 h2
  obtain ⟨w, p, pt⟩ := c
  simp only at h0 h1 h2 ⊢
  cases hi : qGg w
  ·simp only [Bool.not_false, cond_true, ev_bi_some, ev_br, ev_at, Bool.true_or]
  ·simp only [Bool.not_true, cond_false, Bool.false_or, ev_bi_some]
   have hpart : (bif pt then bif p == [] then some true else bif decide ((p.length : Int) > 4) then some true else bif sm (qfR p) then bif !gv (qfR p) == p then some true else bif inB p.length (IntKind.i64.wrap ((p.length : Int) - 1)) then some (qaC p (IntKind.i64.wrap ((p.length : Int) - 1)) == 48) else none else none else some false) = some (pt && !qyb p) := by
    cases pt
    ·rfl
    ·cases hp : p with
     | nil => rfl
     | cons x y =>
      rw [← hp]
      have hne : p ≠ [] := by rw [hp]; simp
      have h1' : 1 ≤ p.length := by rw [hp]; simp
      have e0 : (p == []) = false := by simpa using hne
      have e1 : (p.takeWhile (at8 qgb) == p) = p.all (at8 qgb) := by
       rw [Bool.eq_iff_iff, beq_iff_eq]; exact qv5
      have e2 : IntKind.i64.wrap ((p.length : Int) - 1) = ((p.length - 1 : Nat) : Int) := by
       simp only [big] at h2
       rw [wrap64 (by omega) (by omega)]; omega
      have e3 : inB p.length ((p.length - 1 : Nat) : Int) = true := qeS (by omega)
      have e4 : (qaC p ((p.length - 1 : Nat) : Int) == 48) = (p.getLast? == some 48) := by
       rw [qbw (by omega), List.getLast?_eq_getElem?, List.getElem?_eq_getElem (by omega), Bool.eq_iff_iff, beq_iff_eq, beq_iff_eq, Option.some.injEq, ← UInt8.toNat_inj]
       exact Int.ofNat_inj
      have e5 : decide ((p.length : Int) > 4) = !decide (p.length ≤ 4) := by
       by_cases h : p.length ≤ 4 <;> simp [h] <;> omega
      simp only [cond_true, cond_false, e0, qnq h2, sm_some, gv_some, e1, e2, e3, e4, e5, qyb, bne, Bool.true_and]
      cases decide (p.length ≤ 4) <;> cases p.all (at8 qgb) <;> cases (p.getLast? == some 48) <;> rfl
   rw [hpart]
   simp only [ev_bi_some, ev_br, ev_at]
   cases hg : (pt && !qyb p)
   ·simp only [cond_false]
    have e6 : decide ((w.length : Int) > 3) = decide (w.length > 3) := by
     by_cases h : w.length > 3 <;> simp [h] <;> omega
    rw [e6]
    cases h3 : decide (w.length > 3)
    ·simp only [cond_false]
     have hw3 : w.length ≤ 3 := by simpa using h3
     have hp4 : p.length ≤ 4 ∧ p.all (at8 qgb) = true := by
      cases pt
      ·rw [h0 rfl]; exact ⟨by simp, rfl⟩
      ·have hb : qyb p = true := by simpa using hg
       simp only [qyb, Bool.and_eq_true, decide_eq_true_eq] at hb
       exact ⟨hb.2.1, hb.2.2.1⟩
     have hw : w ≠ [] ∧ w.all (at8 qgb) = true := by
      simp only [qGg, Bool.and_eq_true, bne_iff_ne, ne_eq] at hi
      exact ⟨hi.2.1, hi.1⟩
     have hq : qqu p = p ++ List.replicate (4 - p.length) 48 := rfl
     have hl7 : (w ++ qqu p).length ≤ 7 := by rw [hq]; simp; omega
     have had : (w ++ qqu p).all (at8 qgb) = true := by
      rw [hq, List.all_append, List.all_append, hw.2, hp4.2]
      simp [at8, qgb]
     have hne : w ++ qqu p ≠ [] := by simp [hw.1]
     have hlt : qsM 0 (w ++ qqu p) < 9223372036854775808 := by
      have h7 := qz6 (w ++ qqu p) 0 0 had (by omega)
      have : 10 ^ (0 + (w ++ qqu p).length) ≤ 10 ^ 7 := Nat.pow_le_pow_right (by omega) (by omega)
      omega
     have hat := qFS had hne
     rw [if_pos hlt] at hat
     have e7 : decide (w.length + (qqu p).length ≤ 4611686018427387904) = true := by
      rw [List.length_append] at hl7; simp; omega
     have e8 : pOk (w ++ qqu p) = true := by simp only [pOk]; simp at hl7 ⊢; omega
     rw [qxU w hp4.1]
     simp only [pj_some, if_true, ev_bi_some, e7, e8, hat, nOk, qP7, Bool.and_self, ev_br, cond_true, ev_at, cond_some]
    ·rfl
   ·rfl
def qOd : Nat := 281474976710656
theorem qiM {n : Nat} (h : n ≤ qOd) : n ≤ big := Nat.le_trans h (by decide)
theorem qxv {s : Bs} (hl : s.length ≤ qOd) : qq3 s = some ((qGp s).1, 0, (qGp s).2.1, (qGp s).2.2) := by
 rw [qA4, qqn, qhD (qiM hl), qtt (qiM hl), qGp]
 have e : pOk s = true := decide_eq_true hl
 simp only [ev_bi_some, ev_br, ev_at, e, Bool.true_and]
 cases qGg s
 ·simp only [cond_false]
  cases ((qm0 s).2 == 0) <;> cases ((qm0 s).2 == 1) <;> rfl
 ·simp only [cond_true]
  cases Lib.parseIntB 64 s <;> rfl
theorem qw7 (s m : Bs) : qqR s m = some (preB m s) := by
 rw [qAt, qpP, qAj, qpE]
 have e : decide ((s.length : Int) ≥ (m.length : Int)) = decide (m.length ≤ s.length) := by
  by_cases h : m.length ≤ s.length <;> simp [h] <;> omega
 simp only [e, preB, qMX, Int.toNat_natCast]
 cases decide (m.length ≤ s.length) <;> simp
theorem qxV (s : Bs) : qrQ (s, ES marksS, (marksS.length : Int), 0, 0, 0, []) = some (qix (preB · s) (fun _ => 0) 1 marksS, s, ES marksS, (marksS.length : Int), ((marksS.findIdx (preB · s) : Nat) : Int), 0, 0, []) := by
 rw [qrR]
 refine qav (hd := fun n => (s, ES marksS, (marksS.length : Int), (n : Int), (0 : Int), (0 : Int), ([] : Bs))) (jx := fun _ => 0) (preB · s) 1 (fun n h => ?_) ?_
 ·simp only [qmA, qmB, qaK h, qFw h, qs0 h, qw7, ev_bi_some, ev_br, ev_at, cond_true, qai h (show marksS.length ≤ big by decide)]
  cases (preB marksS[n] s) <;> rfl
 ·simp [qmA, qmB]
theorem qtv {s : Bs} (hne : s ≠ []) (hl : s.length ≤ qOd) : qcz s = some ((qbm s).1, 0, (qbm s).2.1, (qbm s).2.2) := by
 have hb := qiM hl
 rw [qwF, qi7]
 cases s with
 | nil => exact absurd rfl hne
 | cons c r =>
  have e1 : inB (c :: r).length 0 = true := by simp [inB]
  have e2 : qaC (c :: r) 0 = (c.toNat : Int) := by simp [qaC, qda]
  simp only [e1, e2, w32, qnA, qge, qxk hb, qxl hb, qtu, qti, ev_bi_some, ev_br, ev_at, cond_true, qbm]
  rw [show at8 qud c = qud (c.toNat : Int) from rfl, show at8 qgb c = qgb (c.toNat : Int) from rfl]
  cases qud (c.toNat : Int)
  ·cases qgb (c.toNat : Int)
   ·simp only [cond_false, List.length_map, qxV, qas, qFO, pj_some]
    by_cases h : marksS.findIdx (preB · (c :: r)) < marksS.length
    ·have hf := List.find?_eq_getElem?_findIdx (p := (preB · (c :: r))) (xs := marksS)
     rw [List.getElem?_eq_getElem h] at hf
     simp only [decide_eq_true h, cond_true, if_true, ev_bi_some, ev_at, qs0 h, hf]
    ·have hf : marksS.find? (preB · (c :: r)) = none := by
      rw [List.find?_eq_getElem?_findIdx]; exact List.getElem?_eq_none (Nat.not_lt.1 h)
     rw [hf]
     simp [h]
   ·have h2 : ((c :: r).takeWhile (at8 qpb)).length ≤ qOd := Nat.le_trans (qgF _) hl
    simp only [cond_false, cond_true, qxv h2, ev_bi_some, ev_at]
  ·simp only [cond_true]
   have e : decide ((((c :: r).takeWhile (at8 qfm)).length : Int) > 16) = decide (((c :: r).takeWhile (at8 qfm)).length > 16) := by
    by_cases h : ((c :: r).takeWhile (at8 qfm)).length > 16 <;> simp [h] <;> omega
   rw [e]
   cases qm3 ((c :: r).takeWhile (at8 qfm)) <;> cases decide (((c :: r).takeWhile (at8 qfm)).length > 16) <;> rfl
noncomputable def qpt (o : Option (Nat × qcv)) : DT qy5 :=
  .bi (pj 0 o) (fun y0 => .at (([], 0, 0)))
   (.bi (pj 1 o) (fun y0 =>
    .at (([], IntKind.i64.wrap ((sl y0).snd + (↑(Lib.countByte (List.take (gv (qb6 (sl y0).fst)).toNat (sl y0).fst) 10) : Int)), (gv (qcz (List.drop (gv (qb6 (sl y0).fst)).toNat (sl y0).fst))).snd.snd.snd)))
    (.bi (pj 2 o) (fun y0 => .at (((sr y0).snd.snd, 0, 0)))
     (.bi (pj 3 o) (fun y0 =>
      .at (([], IntKind.i64.wrap ((sr y0).snd.fst + (↑(Lib.countByte (List.take (gv (qb6 (sr y0).fst)).toNat (sr y0).fst) 10) : Int)), (gv (qcz (List.drop (gv (qb6 (sr y0).fst)).toNat (sr y0).fst))).snd.snd.snd)))
      (.no))))
theorem qyg (s : Bs) : qpV s = .br (decide ((s.length : Int) > 2048)) (.at (([], 0, 5))) (qpt (qir (Sum.inl (s, 1)))) := rfl
def hdT (s : Bs) (line : Int) : List Tok → qcv
 | [] => .inl (s, line)
 | acc => .inr (s, line, ET acc)
theorem qvX : ∀ (k : Nat) (s : Bs) (line : Int) (acc : List Tok), s.length < k → 0 ≤ line → line + s.length ≤ 10000 → acc.length + s.length ≤ 10000 →
  (qpt (qir (hdT s line acc))).ev = some (ET (qiG k s line acc).1, (qiG k s line acc).2.1, (qiG k s line acc).2.2)
 | 0, s, line, acc, h, _, _, _ => by omega
 | k + 1, s, line, acc, h, h0, h1, h2 => by
  have hl : s.length ≤ qOd := Nat.le_trans (show s.length ≤ 10000 by omega) (by decide)
  have hb := qxu (qiM hl)
  have hn := qnf false s
  have hc : (s.take (blk false s)).count 10 ≤ blk false s := Nat.le_trans List.count_le_length (by simp; omega)
  have hw : IntKind.i64.wrap (line + (Lib.countByte (s.take (blk false s)) 10 : Int)) = line + ((s.take (blk false s)).count 10 : Nat) := by
   show IntKind.i64.wrap (line + ((s.take (blk false s)).count 10 : Nat)) = _
   exact wrap64 (by omega) (by omega)
  rw [qk5]
  simp only [qiG]
  cases hd : s.drop (blk false s) with
  | nil =>
   cases acc with
   | nil =>
    rw [qar (j := 0)]
    ·rfl
    ·simp only [hdT, qdz, Sum.elim_inl, qhg, hb, ev_bi_some, qbe hn, Int.toNat_natCast, hd, Bool.and_true, ev_br, ev_at, cond_true]; rfl
   | cons a acc =>
    rw [qar (j := 2)]
    ·rfl
    ·simp only [hdT, qdz, Sum.elim_inr, qhh, hb, ev_bi_some, qbe hn, Int.toNat_natCast, hd, Bool.and_true, ev_br, ev_at, cond_true]; rfl
  | cons c r =>
   have hlen := congrArg List.length hd
   simp only [List.length_drop, List.length_cons] at hlen
   have hx := qtv (s := c :: r) (by simp) (by simp only [qOd, List.length_cons] at hl ⊢; omega)
   have he : ((c :: r : Bs) == []) = false := rfl
   cases hz : ((qbm (c :: r)).2.2 != 0)
   ·have hz' : (qbm (c :: r)).2.2 = 0 := by simpa using hz
    obtain ⟨g1, t, g2⟩ := qo8 hz'
    have g3 : (qbm (c :: r)).2.1.length ≤ (c :: r).length := by
     have := congrArg List.length g2
     rw [List.length_append] at this; omega
    have g4 : 1 ≤ (qbm (c :: r)).2.1.length := by
     cases hq : (qbm (c :: r)).2.1 with
     | nil => exact absurd hq g1
     | cons _ _ => simp
    have hst : (qdz (hdT s line acc)).ev = some (.next (hdT ((c :: r).drop (qbm (c :: r)).2.1.length) (line + ((s.take (blk false s)).count 10 : Nat)) (acc ++ [⟨(qbm (c :: r)).1, line + ((s.take (blk false s)).count 10 : Nat), (qbm (c :: r)).2.1⟩]))) := by
     cases acc with
     | nil =>
      simp only [hdT, qdz, Sum.elim_inl, qhg, hb, ev_bi_some, qbe hn, qbe g3, Int.toNat_natCast, hd, he, hx, hz, hw, Bool.and_true, ev_br, ev_at, cond_true, cond_false]
      rfl
     | cons a acc =>
      have hr : room ((ET (a :: acc)).length + 1) 32 = true := qlM (by simp only [List.length_map, lim]; omega)
      simp only [hdT, qdz, Sum.elim_inr, qhh, hb, ev_bi_some, qbe hn, qbe g3, Int.toNat_natCast, hd, he, hx, hz, hw, hr, Bool.and_true, ev_br, ev_at, cond_true, cond_false, List.cons_append, List.map_append]
      simp [hdT, Tok.av]
    rw [qaH hst, ← qk5]
    simp only [hz, cond_false]
    simp only [List.length_cons] at g3
    exact qvX k _ _ _ (by simp only [List.length_drop, List.length_cons]; omega) (by omega) (by simp only [List.length_drop, List.length_cons]; omega) (by simp only [List.length_drop, List.length_cons, List.length_append, List.length_nil]; omega)
   ·cases acc with
    | nil =>
     rw [qar (j := 1)]
     ·simp (decide := true) only [qpt, hdT, pj_some, if_true, if_false, ev_bi_none, ev_bi_some, ev_at, sl_inl, hb, gv_some, Int.toNat_natCast, hd, hx, hw, hz, cond_true]; rfl
     ·simp only [hdT, qdz, Sum.elim_inl, qhg, hb, ev_bi_some, qbe hn, Int.toNat_natCast, hd, he, hx, hz, Bool.and_true, ev_br, ev_at, cond_true, cond_false]
    | cons a acc =>
     rw [qar (j := 3)]
     ·simp (decide := true) only [qpt, hdT, pj_some, if_true, if_false, ev_bi_none, ev_bi_some, ev_at, sr_inr, hb, gv_some, Int.toNat_natCast, hd, hx, hw, hz, cond_true]; rfl
     ·simp only [hdT, qdz, Sum.elim_inr, qhh, hb, ev_bi_some, qbe hn, Int.toNat_natCast, hd, he, hx, hz, Bool.and_true, ev_br, ev_at, cond_true, cond_false]
theorem qxe (s : Bs) : qqV s = some (ET (qij s).1, (qij s).2.1, (qij s).2.2) := by
 rw [qAA, qyg, qij]
 cases h : decide ((s.length : Int) > 2048)
 ·have h' : s.length ≤ 2048 := by
   have := of_decide_eq_false h; omega
  simp only [ev_br, cond_false]
  exact qvX (s.length + 1) s 1 [] (by omega) (by omega) (by omega) (by simp; omega)
 ·rfl
end Go.Proofs.H15c

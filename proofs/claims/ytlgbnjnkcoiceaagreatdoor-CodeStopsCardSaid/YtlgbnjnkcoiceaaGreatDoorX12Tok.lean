/- The program's tokens: what the printed functions come to. -/
import Derived.Test.YtlgbnjnkcoiceaaGreatDoorD12_1
import Derived.Test.YtlgbnjnkcoiceaaGreatDoorD12_2
import Derived.Test.YtlgbnjnkcoiceaaGreatDoorD12_3
import Derived.Test.YtlgbnjnkcoiceaaGreatDoorD12_4
import Derived.Test.YtlgbnjnkcoiceaaGreatDoorD12_5
import Derived.Test.YtlgbnjnkcoiceaaGreatDoorD12_6
import Derived.Test.YtlgbnjnkcoiceaaGreatDoorD12_7
import Derived.Test.YtlgbnjnkcoiceaaGreatDoorD12_8
import Derived.Test.YtlgbnjnkcoiceaaGreatDoorTkA
set_option linter.unusedVariables false
set_option linter.unusedSimpArgs false
set_option linter.unnecessarySimpa false
namespace Go.Proofs.H12
open Go Go.Eng Go.Tk
set_option maxRecDepth 20000
theorem f_u90q_val (x : Int) : f_u90q x = some (ltrI x) := by
  rw [f_u90q_eq, tr_u90q]; by_cases h : x ≥ 97 <;> simp [ltrI, h]
theorem f_u110q_val (x : Int) : f_u110q x = some (digI x) := by
  rw [f_u110q_eq, tr_u110q]; by_cases h : x ≥ 48 <;> simp [digI, h]
theorem f_u89q_val (x : Int) : f_u89q x = some (namI x) := by
  rw [f_u89q_eq, tr_u89q, f_u90q_val, f_u110q_val, namI]
  cases ltrI x <;> cases digI x <;> simp
theorem f_u54q_val (x : Int) : f_u54q x = some (numI x) := by
  rw [f_u54q_eq, tr_u54q, f_u89q_val, numI]
  cases namI x <;> cases (x == 46) <;> simp
theorem f_u53q_val (x : Int) : f_u53q x = some (cmtI x) := by
  rw [f_u53q_eq, tr_u53q]; rfl
theorem l_u55q_val {s : Bs} (hl : s.length ≤ big) : l_u55q (s, 0) = some (0, s, ((s.takeWhile (at8 cmtI)).length : Int)) := by
  rw [l_u55q_eq]
  refine pre_loop (fun n h => ?_) ?_
  · simp only [st_u55q, st_u55q_0, lt_at h, inB_at h, byteAt_at h, w32, f_u53q_val, wrap_succ h hl, br_eq, cond_true, sm_some, gv_some, ev_bi_some, ev_br, ev_at, cond_some]
  · simp [st_u55q, st_u55q_0]
theorem f_u93q_val {s : Bs} (hl : s.length ≤ big) : f_u93q s = some (s.takeWhile (at8 cmtI)) := by
  rw [f_u93q_eq, tr_u93q, l_u55q_val hl]
  simp [leB_nat (tw_le s), tw_take]
theorem l_u42q_val {s : Bs} (hl : s.length ≤ big) : l_u42q (s, 0) = some (0, s, ((s.takeWhile (at8 namI)).length : Int)) := by
  rw [l_u42q_eq]
  refine pre_loop (fun n h => ?_) ?_
  · simp only [st_u42q, st_u42q_0, lt_at h, inB_at h, byteAt_at h, w32, f_u89q_val, wrap_succ h hl, br_eq, cond_true, sm_some, gv_some, ev_bi_some, ev_br, ev_at, cond_some]
  · simp [st_u42q, st_u42q_0]
theorem f_u65q_val {s : Bs} (hl : s.length ≤ big) : f_u65q s = some (s.takeWhile (at8 namI)) := by
  rw [f_u65q_eq, tr_u65q, l_u42q_val hl]
  simp [leB_nat (tw_le s), tw_take]
theorem l_u43q_val {s : Bs} (hl : s.length ≤ big) : l_u43q (s, 0) = some (0, s, ((s.takeWhile (at8 numI)).length : Int)) := by
  rw [l_u43q_eq]
  refine pre_loop (fun n h => ?_) ?_
  · simp only [st_u43q, st_u43q_0, lt_at h, inB_at h, byteAt_at h, w32, f_u54q_val, wrap_succ h hl, br_eq, cond_true, sm_some, gv_some, ev_bi_some, ev_br, ev_at, cond_some]
  · simp [st_u43q, st_u43q_0]
theorem f_u66q_val {s : Bs} (hl : s.length ≤ big) : f_u66q s = some (s.takeWhile (at8 numI)) := by
  rw [f_u66q_eq, tr_u66q, l_u43q_val hl]
  simp [leB_nat (tw_le s), tw_take]
theorem l_u44q_val {s : Bs} (hl : s.length ≤ big) : l_u44q (s, 0) = some (0, s, ((s.takeWhile (at8 digI)).length : Int)) := by
  rw [l_u44q_eq]
  refine pre_loop (fun n h => ?_) ?_
  · simp only [st_u44q, st_u44q_0, lt_at h, inB_at h, byteAt_at h, w32, f_u110q_val, wrap_succ h hl, br_eq, cond_true, sm_some, gv_some, ev_bi_some, ev_br, ev_at, cond_some]
  · simp [st_u44q, st_u44q_0]
theorem f_u67q_val {s : Bs} (hl : s.length ≤ big) : f_u67q s = some (s.takeWhile (at8 digI)) := by
  rw [f_u67q_eq, tr_u67q, l_u44q_val hl]
  simp [leB_nat (tw_le s), tw_take]
theorem l_u52q_val {s : Bs} (hl : s.length ≤ big) : ∀ (k n : Nat), n + k = s.length → ∃ j, (j = 0 ∨ j = 1) ∧ l_u52q (s, (n : Int)) = some (j, s, ((n + blk false (s.drop n) : Nat) : Int)) := by
  intro k
  induction k using Nat.strongRecOn with
  | _ k ih =>
    intro n hn
    rw [l_u52q_eq]
    by_cases h : n < s.length
    · have hst : (st_u52q (s, (n : Int))).ev = some (bif spI (s[n].toNat : Int) then .next (s, ((n + 1 : Nat) : Int)) else bif (s[n].toNat : Int) == 35 then .next (s, ((n + ((s.drop n).takeWhile (at8 cmtI)).length : Nat) : Int)) else .done 0) := by
        have hw : IntKind.i64.wrap ((n : Int) + (((s.drop n).takeWhile (at8 cmtI)).length : Int)) = ((n + ((s.drop n).takeWhile (at8 cmtI)).length : Nat) : Int) := by
          have := tw_le (p := at8 cmtI) (s.drop n)
          simp only [List.length_drop, big] at this hl
          rw [wrap64 (by omega) (by omega)]; simp
        have hd : (s.drop n).length ≤ big := by simp; omega
        simp only [st_u52q, st_u52q_0, lt_at h, inB_at h, byteAt_at h, wrap_succ h hl, leB_nat (Nat.le_of_lt h), Int.toNat_natCast, f_u93q_val hd, hw, ev_bi_some, ev_br, ev_at, cond_true, spI]
        cases ((s[n].toNat : Int) == 32) <;> cases ((s[n].toNat : Int) == 9) <;> cases ((s[n].toNat : Int) == 10) <;> cases ((s[n].toNat : Int) == 35) <;> rfl
      rw [drop_at h]
      simp only [blk]
      cases hs : spI (s[n].toNat : Int)
      · cases hc : ((s[n].toNat : Int) == 35)
        · rw [hs, hc] at hst
          exact ⟨0, .inl rfl, by rw [iterO_done hst]; simp⟩
        · rw [hs, hc] at hst
          rw [iterO_next hst]
          have ht : ((s.drop n).takeWhile (at8 cmtI)).length = ((s.drop (n + 1)).takeWhile (at8 cmtI)).length + 1 := by
            have : at8 cmtI s[n] = true := by
              simp only [at8, cmtI, bne_iff_ne, ne_eq]
              have : (s[n].toNat : Int) = 35 := by simpa using hc
              omega
            rw [drop_at h, List.takeWhile_cons_of_pos this, List.length_cons]
          have hle := tw_le (p := at8 cmtI) (s.drop n)
          simp only [List.length_drop] at hle
          obtain ⟨j, h1, h2⟩ := ih (k - ((s.drop n).takeWhile (at8 cmtI)).length) (by omega) (n + ((s.drop n).takeWhile (at8 cmtI)).length) (by omega)
          rw [l_u52q_eq] at h2
          refine ⟨j, h1, h2.trans ?_⟩
          have e : s.drop (n + ((s.drop n).takeWhile (at8 cmtI)).length) = (s.drop (n + 1)).drop ((s.drop (n + 1)).takeWhile (at8 cmtI)).length := by rw [List.drop_drop, ht]; congr 1; omega
          rw [e, cond_false, cond_true, blk_true (s.drop (n + 1)), ht]
          congr 4; omega
      · rw [hs] at hst
        rw [iterO_next hst]
        obtain ⟨j, h1, h2⟩ := ih (k - 1) (by omega) (n + 1) (by omega)
        rw [l_u52q_eq] at h2
        refine ⟨j, h1, h2.trans ?_⟩
        rw [cond_true]; congr 4; omega
    · have hn' : n = s.length := by omega
      subst hn'
      refine ⟨1, .inr rfl, ?_⟩
      rw [iterO_done (j := 1) (by simp [st_u52q, st_u52q_0])]
      simp [blk]
theorem f_u88q_val {s : Bs} (hl : s.length ≤ big) : f_u88q s = some ((blk false s : Nat) : Int) := by
  obtain ⟨j, h1, h2⟩ := l_u52q_val hl s.length 0 (by omega)
  rw [f_u88q_eq, tr_u88q]
  simp only [Int.natCast_zero] at h2
  rw [h2]
  rcases h1 with rfl | rfl <;> simp
theorem f_u112q_val : f_u112q = some (ES wordsS) := by
  rw [f_u112q_eq, tr_u112q]; rfl
theorem f_u111q_val : f_u111q = some (ES marksS) := by
  rw [f_u111q_eq, tr_u111q]; rfl
theorem l_u16q_val {l : List Bs} (hl : l.length ≤ big) (s : Bs) : l_u16q (ES l, s, (l.length : Int), 0) = some (seek (s == ·) (fun _ => 0) 1 l, ES l, s, (l.length : Int), ((l.findIdx (s == ·) : Nat) : Int)) := by
  rw [l_u16q_eq]
  refine loop_search (hd := fun n => (ES l, s, (l.length : Int), (n : Int))) (jx := fun _ => 0) (s == ·) 1 (fun n h => ?_) ?_
  · simp only [st_u16q, st_u16q_0, lt_at h, okS1 h, qs0 h, ev_br, ev_at, cond_true, wrap_succ h hl]
    cases (s == l[n]) <;> rfl
  · simp [st_u16q, st_u16q_0]
theorem f_u14q_val {l : List Bs} (hl : l.length ≤ big) (s : Bs) : f_u14q (ES l) s = some (has l s) := by
  rw [f_u14q_eq, tr_u14q, f_u18q_eq, tr_u18q, List.length_map, l_u16q_val hl, seek_const, has]
  cases l.any (s == ·) <;> simp
theorem f_u136q_val (s : Bs) : f_u136q s = some (wordB s) := by
  rw [f_u136q_eq, tr_u136q, f_u112q_val]
  simp only [ev_bi_some, f_u14q_val (l := wordsS) (by decide), ev_at, wordB]
theorem f_u64q_val {s : Bs} (hl : s.length ≤ big) : f_u64q s = some (intB s) := by
  rw [f_u64q_eq, tr_u64q, f_u67q_val hl]
  cases s with
  | nil => rfl
  | cons c r =>
    have e1 : ((c :: r).takeWhile (at8 digI) == c :: r) = (c :: r).all (at8 digI) := by
      rw [Bool.eq_iff_iff, beq_iff_eq]; exact tw_all
    have e2 : byteAt (c :: r) 0 = (c.toNat : Int) := by simp [byteAt, atIdx]
    have e3 : ((c.toNat : Int) != 48) = (some c != some 48) := by
      rw [Bool.eq_iff_iff, bne_iff_ne, bne_iff_ne, ne_eq, ne_eq, Decidable.not_iff_not, Option.some.injEq, ← UInt8.toNat_inj]
      exact Int.ofNat_inj
    have e4 : inB (c :: r).length 0 = true := by simp [inB]
    simp only [sm_some, gv_some, br_eq, cond_true, e1, e2, e3, e4, intB, List.head?_cons, cond_some, ev_bi_some, ev_at]
    cases (c :: r).all (at8 digI) <;> cases (((c :: r).length : Int) == 1) <;> simp
theorem f_u31q_val {s : Bs} (hl : s.length ≤ big) : f_u31q s [37] = some (bif s.getLast? == some 37 then (s.dropLast, true) else (s, false)) := by
  rw [f_u31q_eq, tr_u31q, f_u10q_eq, tr_u10q, f_u12q_eq, tr_u12q]
  simp only [big] at hl
  cases hs : s with
  | nil => rfl
  | cons c r =>
    rw [← hs]
    have h1 : 1 ≤ s.length := by rw [hs]; simp
    have e1 : decide ((s.length : Int) ≥ (([37] : Bs).length : Int)) = true := by simp; omega
    have e2 : IntKind.i64.wrap ((s.length : Int) - (([37] : Bs).length : Int)) = ((s.length - 1 : Nat) : Int) := by
      rw [wrap64 (by simp; omega) (by simp; omega)]; simp; omega
    have e3 : leB ((s.length - 1 : Nat) : Int) s.length = true := leB_nat (by omega)
    have e4 : s.take (s.length - 1) = s.dropLast := by rw [List.dropLast_eq_take]
    have e5 : (s.drop (s.length - 1) == [37]) = (s.getLast? == some 37) := by
      have hne : s ≠ [] := by rw [hs]; simp
      have := List.dropLast_concat_getLast hne
      rw [List.getLast?_eq_some_getLast hne]
      conv => lhs; lhs; rw [← this]
      rw [List.drop_append_of_le_length (by simp), show (s.dropLast ++ [s.getLast hne]).length - 1 = s.dropLast.length by simp, List.drop_length]
      simp
    simp only [e1, e2, e3, e4, e5, br_eq, cond_true, ev_bi_some, Int.toNat_natCast, Bool.and_true, ev_br, ev_at]
    cases (s.getLast? == some 37) <;> rfl
theorem f_u17q_val (t : Bs) : f_u17q t [46] = some (Lib.indexByte t 46) := by
  rw [f_u17q_eq, tr_u17q]
  have e1 : ((([46] : Bs).length : Int) == 0) = false := rfl
  have e2 : ((([46] : Bs).length : Int) == 1) = true := rfl
  have e3 : inB ([46] : Bs).length 0 = true := rfl
  have e4 : (byteAt [46] 0).toNat.toUInt8 = 46 := rfl
  simp only [e1, e2, e3, e4, br_eq, cond_false, cond_true, ev_bi_some, ev_br, ev_at]
  cases h : (([46] : Bs) == t)
  · rfl
  · have := eq_of_beq h
    subst this; rfl
theorem f_u109q_val {t : Bs} (hl : t.length ≤ big) : f_u109q t [46] = some (cutP t) := by
  rw [f_u109q_eq, tr_u109q, f_u19q_eq, tr_u19q, f_u17q_val, index_tw]
  simp only [big] at hl
  have hdw := drop_tw (p := (· != 46)) t
  by_cases h : (t.takeWhile (· != 46)).length < t.length
  · have e1 : decide (((t.takeWhile (· != 46)).length : Int) ≥ 0) = true := by simp
    have e2 : IntKind.i64.wrap (((t.takeWhile (· != 46)).length : Int) + (([46] : Bs).length : Int)) = (((t.takeWhile (· != 46)).length + 1 : Nat) : Int) := by
      rw [wrap64 (by simp; omega) (by simp; omega)]; simp
    have e3 : leB ((t.takeWhile (· != 46)).length : Int) t.length = true := leB_nat (Nat.le_of_lt h)
    have e4 : leB (((t.takeWhile (· != 46)).length + 1 : Nat) : Int) t.length = true := leB_nat h
    simp only [ev_bi_some, if_pos h, e1, e2, e3, e4, ev_br, ev_at, cond_true, Int.toNat_natCast, Bool.and_true, tw_take]
    unfold cutP
    rw [← hdw]
    rw [List.drop_eq_getElem_cons h]
  · simp only [ev_bi_some, if_neg h]
    unfold cutP
    have hdn : t.drop (t.takeWhile (· != 46)).length = [] := List.drop_eq_nil_of_le (Nat.not_lt.1 h)
    rw [← hdw, hdn]
    rfl
theorem l_u87q_val (w : Bs) {p : Bs} (hp : p.length ≤ 4) : l_u87q (w, p) = some (0, w, padS p) := by
  rw [l_u87q_eq]
  have key : ∀ (k : Nat) (p : Bs), p.length + k = 4 → iterO (fun v => (st_u87q v).ev) (w, p) = some (0, w, padS p) := by
    intro k
    induction k with
    | zero =>
      intro p h
      have : padS p = p := by unfold padS; rw [show 4 - p.length = 0 by omega]; simp
      rw [this, iterO_done (j := 0)]
      have : decide ((p.length : Int) < 4) = false := by simp; omega
      simp [st_u87q, st_u87q_0, this]
    | succ k ih =>
      intro p h
      have e1 : decide ((p.length : Int) < 4) = true := by simp; omega
      have e2 : decide (p.length + 1 ≤ 4611686018427387904) = true := by simp; omega
      rw [iterO_next (v' := (w, p ++ [48])) (by simp only [st_u87q, st_u87q_0, e1, e2, ev_br, ev_at, cond_true]), ih (p ++ [48]) (by simp; omega)]
      have : padS (p ++ [48]) = padS p := by
        unfold padS
        rw [show 4 - p.length = (4 - (p ++ [48]).length) + 1 by simp; omega, List.replicate_succ, List.append_assoc]; rfl
      rw [this]
  exact key (4 - p.length) p (by omega)
theorem f_u135q_val {s : Bs} (hl : s.length ≤ big) : f_u135q s = some (rateS s) := by
  rw [f_u135q_eq, tr_u135q, f_u31q_val hl, rateS]
  cases hs : (s.getLast? == some 37)
  · have h1 : (cutP s).1.length ≤ big := by
      have := tw_le (p := (· != 46)) s
      unfold cutP; split <;> simp <;> omega
    simp only [cond_false, ev_bi_some, f_u109q_val hl, f_u64q_val h1, Bool.not_false, br_eq, cond_true, ev_br, ev_at]
  · have hd : s.dropLast.length ≤ big := by simp; omega
    have h1 : (cutP s.dropLast).1.length ≤ big := by
      have := tw_le (p := (· != 46)) s.dropLast
      unfold cutP; split <;> simp at * <;> omega
    have h2 : (cutP s.dropLast).2.1.length ≤ big := by
      have := drop_tw (p := (· != 46)) s.dropLast
      unfold cutP
      split
      · simp
      · rename_i x y e
        have h3 := congrArg List.length (this.trans e)
        simp at h3 hd ⊢
        omega
    simp only [cond_true, ev_bi_some, f_u109q_val hd, f_u64q_val h1, Bool.not_true, br_eq, cond_false, sm_some, gv_some]
    have h0 : (cutP s.dropLast).2.2 = false → (cutP s.dropLast).2.1 = [] := by
      unfold cutP; split <;> simp
    generalize cutP s.dropLast = c at h0 h1 h2
    obtain ⟨w, p, pt⟩ := c
    simp only at h0 h1 h2 ⊢
    cases hi : intB w
    · simp only [Bool.not_false, cond_true, ev_bi_some, ev_br, ev_at, Bool.true_or]
    · simp only [Bool.not_true, cond_false, Bool.false_or, ev_bi_some]
      have hpart : (bif pt then bif p == [] then some true else bif decide ((p.length : Int) > 4) then some true else bif sm (f_u67q p) then bif !gv (f_u67q p) == p then some true else bif inB p.length (IntKind.i64.wrap ((p.length : Int) - 1)) then some (byteAt p (IntKind.i64.wrap ((p.length : Int) - 1)) == 48) else none else none else some false) = some (pt && !partB p) := by
        cases pt
        · rfl
        · cases hp : p with
          | nil => rfl
          | cons x y =>
            rw [← hp]
            have hne : p ≠ [] := by rw [hp]; simp
            have h1' : 1 ≤ p.length := by rw [hp]; simp
            have e0 : (p == []) = false := by simpa using hne
            have e1 : (p.takeWhile (at8 digI) == p) = p.all (at8 digI) := by
              rw [Bool.eq_iff_iff, beq_iff_eq]; exact tw_all
            have e2 : IntKind.i64.wrap ((p.length : Int) - 1) = ((p.length - 1 : Nat) : Int) := by
              simp only [big] at h2
              rw [wrap64 (by omega) (by omega)]; omega
            have e3 : inB p.length ((p.length - 1 : Nat) : Int) = true := inB_at (by omega)
            have e4 : (byteAt p ((p.length - 1 : Nat) : Int) == 48) = (p.getLast? == some 48) := by
              rw [byteAt_at (by omega), List.getLast?_eq_getElem?, List.getElem?_eq_getElem (by omega), Bool.eq_iff_iff, beq_iff_eq, beq_iff_eq, Option.some.injEq, ← UInt8.toNat_inj]
              exact Int.ofNat_inj
            have e5 : decide ((p.length : Int) > 4) = !decide (p.length ≤ 4) := by
              by_cases h : p.length ≤ 4 <;> simp [h] <;> omega
            simp only [cond_true, cond_false, e0, f_u67q_val h2, sm_some, gv_some, e1, e2, e3, e4, e5, partB, bne, Bool.true_and]
            cases decide (p.length ≤ 4) <;> cases p.all (at8 digI) <;> cases (p.getLast? == some 48) <;> rfl
      rw [hpart]
      simp only [ev_bi_some, ev_br, ev_at]
      cases hg : (pt && !partB p)
      · simp only [cond_false]
        have e6 : decide ((w.length : Int) > 3) = decide (w.length > 3) := by
          by_cases h : w.length > 3 <;> simp [h] <;> omega
        rw [e6]
        cases h3 : decide (w.length > 3)
        · simp only [cond_false]
          have hw3 : w.length ≤ 3 := by simpa using h3
          have hp4 : p.length ≤ 4 ∧ p.all (at8 digI) = true := by
            cases pt
            · rw [h0 rfl]; exact ⟨by simp, rfl⟩
            · have hb : partB p = true := by simpa using hg
              simp only [partB, Bool.and_eq_true, decide_eq_true_eq] at hb
              exact ⟨hb.2.1, hb.2.2.1⟩
          have hw : w ≠ [] ∧ w.all (at8 digI) = true := by
            simp only [intB, Bool.and_eq_true, bne_iff_ne, ne_eq] at hi
            exact ⟨hi.2.1, hi.1⟩
          have hq : padS p = p ++ List.replicate (4 - p.length) 48 := rfl
          have hl7 : (w ++ padS p).length ≤ 7 := by rw [hq]; simp; omega
          have had : (w ++ padS p).all (at8 digI) = true := by
            rw [hq, List.all_append, List.all_append, hw.2, hp4.2]
            simp [at8, digI]
          have hne : w ++ padS p ≠ [] := by simp [hw.1]
          have hlt : decN 0 (w ++ padS p) < 9223372036854775808 := by
            have h7 := decN_lt (w ++ padS p) 0 0 had (by omega)
            have : 10 ^ (0 + (w ++ padS p).length) ≤ 10 ^ 7 := Nat.pow_le_pow_right (by omega) (by omega)
            omega
          have hat := atoi_dec had hne
          rw [if_pos hlt] at hat
          have e7 : decide (w.length + (padS p).length ≤ 4611686018427387904) = true := by
            rw [List.length_append] at hl7; simp; omega
          have e8 : pOk (w ++ padS p) = true := by simp only [pOk]; simp at hl7 ⊢; omega
          rw [l_u87q_val w hp4.1]
          simp only [pj_some, if_true, ev_bi_some, e7, e8, hat, nOk, nVal, Bool.and_self, ev_br, cond_true, ev_at, cond_some]
        · rfl
      · rfl
def pLim : Nat := 281474976710656
theorem pLim_big {n : Nat} (h : n ≤ pLim) : n ≤ big := Nat.le_trans h (by decide)
theorem f_u92q_val {s : Bs} (hl : s.length ≤ pLim) : f_u92q s = some ((numS s).1, 0, (numS s).2.1, (numS s).2.2) := by
  rw [f_u92q_eq, tr_u92q, f_u64q_val (pLim_big hl), f_u135q_val (pLim_big hl), numS]
  have e : pOk s = true := decide_eq_true hl
  simp only [ev_bi_some, ev_br, ev_at, e, Bool.true_and]
  cases intB s
  · simp only [cond_false]
    cases ((rateS s).2 == 0) <;> cases ((rateS s).2 == 1) <;> rfl
  · simp only [cond_true]
    cases Lib.parseIntB 64 s <;> rfl
theorem f_u32q_val (s m : Bs) : f_u32q s m = some (preB m s) := by
  rw [f_u32q_eq, tr_u32q, f_u11q_eq, tr_u11q]
  have e : decide ((s.length : Int) ≥ (m.length : Int)) = decide (m.length ≤ s.length) := by
    by_cases h : m.length ≤ s.length <;> simp [h] <;> omega
  simp only [e, preB, leB_iff, Int.toNat_natCast]
  cases decide (m.length ≤ s.length) <;> simp
theorem l_u91q_val (s : Bs) : l_u91q (s, ES marksS, (marksS.length : Int), 0, 0, 0, []) = some (seek (preB · s) (fun _ => 0) 1 marksS, s, ES marksS, (marksS.length : Int), ((marksS.findIdx (preB · s) : Nat) : Int), 0, 0, []) := by
  rw [l_u91q_eq]
  refine loop_search (hd := fun n => (s, ES marksS, (marksS.length : Int), (n : Int), (0 : Int), (0 : Int), ([] : Bs))) (jx := fun _ => 0) (preB · s) 1 (fun n h => ?_) ?_
  · simp only [st_u91q, st_u91q_0, lt_at h, okS1 h, qs0 h, f_u32q_val, ev_bi_some, ev_br, ev_at, cond_true, wrap_succ h (show marksS.length ≤ big by decide)]
    cases (preB marksS[n] s) <;> rfl
  · simp [st_u91q, st_u91q_0]
theorem f_u137q_val {s : Bs} (hne : s ≠ []) (hl : s.length ≤ pLim) : f_u137q s = some ((nextS s).1, 0, (nextS s).2.1, (nextS s).2.2) := by
  have hb := pLim_big hl
  rw [f_u137q_eq, tr_u137q]
  cases s with
  | nil => exact absurd rfl hne
  | cons c r =>
    have e1 : inB (c :: r).length 0 = true := by simp [inB]
    have e2 : byteAt (c :: r) 0 = (c.toNat : Int) := by simp [byteAt, atIdx]
    simp only [e1, e2, w32, f_u90q_val, f_u110q_val, f_u65q_val hb, f_u66q_val hb, f_u136q_val, f_u111q_val, ev_bi_some, ev_br, ev_at, cond_true, nextS]
    rw [show at8 ltrI c = ltrI (c.toNat : Int) from rfl, show at8 digI c = digI (c.toNat : Int) from rfl]
    cases ltrI (c.toNat : Int)
    · cases digI (c.toNat : Int)
      · simp only [cond_false, List.length_map, l_u91q_val, seek_const, any_idx', pj_some]
        by_cases h : marksS.findIdx (preB · (c :: r)) < marksS.length
        · have hf := List.find?_eq_getElem?_findIdx (p := (preB · (c :: r))) (xs := marksS)
          rw [List.getElem?_eq_getElem h] at hf
          simp only [decide_eq_true h, cond_true, if_true, ev_bi_some, ev_at, qs0 h, hf]
        · have hf : marksS.find? (preB · (c :: r)) = none := by
            rw [List.find?_eq_getElem?_findIdx]; exact List.getElem?_eq_none (Nat.not_lt.1 h)
          rw [hf]
          simp [h]
      · have h2 : ((c :: r).takeWhile (at8 numI)).length ≤ pLim := Nat.le_trans (tw_le _) hl
        simp only [cond_false, cond_true, f_u92q_val h2, ev_bi_some, ev_at]
    · simp only [cond_true]
      have e : decide ((((c :: r).takeWhile (at8 namI)).length : Int) > 16) = decide (((c :: r).takeWhile (at8 namI)).length > 16) := by
        by_cases h : ((c :: r).takeWhile (at8 namI)).length > 16 <;> simp [h] <;> omega
      rw [e]
      cases wordB ((c :: r).takeWhile (at8 namI)) <;> cases decide (((c :: r).takeWhile (at8 namI)).length > 16) <;> rfl
noncomputable def tokTree (o : Option (Nat × TT_u40q)) : DT B_u51q :=
  .bi (pj 0 o) (fun y0 => .at (([], 0, 0)))
   (.bi (pj 1 o) (fun y0 =>
    .at (([], IntKind.i64.wrap ((sl y0).snd + (↑(Lib.countByte (List.take (gv (f_u88q (sl y0).fst)).toNat (sl y0).fst) 10) : Int)), (gv (f_u137q (List.drop (gv (f_u88q (sl y0).fst)).toNat (sl y0).fst))).snd.snd.snd)))
    (.bi (pj 2 o) (fun y0 => .at (((sr y0).snd.snd, 0, 0)))
     (.bi (pj 3 o) (fun y0 =>
      .at (([], IntKind.i64.wrap ((sr y0).snd.fst + (↑(Lib.countByte (List.take (gv (f_u88q (sr y0).fst)).toNat (sr y0).fst) 10) : Int)), (gv (f_u137q (List.drop (gv (f_u88q (sr y0).fst)).toNat (sr y0).fst))).snd.snd.snd)))
      (.no))))
theorem tokTree_eq (s : Bs) : tr_u51q s = .br (decide ((s.length : Int) > 2048)) (.at (([], 0, 5))) (tokTree (l_u40q (Sum.inl (s, 1)))) := rfl
def hdT (s : Bs) (line : Int) : List Tok → TT_u40q
  | [] => .inl (s, line)
  | acc => .inr (s, line, ET acc)
theorem tokF_val : ∀ (k : Nat) (s : Bs) (line : Int) (acc : List Tok), s.length < k → 0 ≤ line → line + s.length ≤ 10000 → acc.length + s.length ≤ 10000 →
    (tokTree (l_u40q (hdT s line acc))).ev = some (ET (toksF k s line acc).1, (toksF k s line acc).2.1, (toksF k s line acc).2.2)
  | 0, s, line, acc, h, _, _, _ => by omega
  | k + 1, s, line, acc, h, h0, h1, h2 => by
    have hl : s.length ≤ pLim := Nat.le_trans (show s.length ≤ 10000 by omega) (by decide)
    have hb := f_u88q_val (pLim_big hl)
    have hn := blk_le false s
    have hc : (s.take (blk false s)).count 10 ≤ blk false s := Nat.le_trans List.count_le_length (by simp; omega)
    have hw : IntKind.i64.wrap (line + (Lib.countByte (s.take (blk false s)) 10 : Int)) = line + ((s.take (blk false s)).count 10 : Nat) := by
      show IntKind.i64.wrap (line + ((s.take (blk false s)).count 10 : Nat)) = _
      exact wrap64 (by omega) (by omega)
    rw [l_u40q_eq]
    simp only [toksF]
    cases hd : s.drop (blk false s) with
    | nil =>
      cases acc with
      | nil =>
        rw [iterO_done (j := 0)]
        · rfl
        · simp only [hdT, st_u40q, Sum.elim_inl, st_u40q_0, hb, ev_bi_some, leB_nat hn, Int.toNat_natCast, hd, Bool.and_true, ev_br, ev_at, cond_true]; rfl
      | cons a acc =>
        rw [iterO_done (j := 2)]
        · rfl
        · simp only [hdT, st_u40q, Sum.elim_inr, st_u40q_1, hb, ev_bi_some, leB_nat hn, Int.toNat_natCast, hd, Bool.and_true, ev_br, ev_at, cond_true]; rfl
    | cons c r =>
      have hlen := congrArg List.length hd
      simp only [List.length_drop, List.length_cons] at hlen
      have hx := f_u137q_val (s := c :: r) (by simp) (by simp only [pLim, List.length_cons] at hl ⊢; omega)
      have he : ((c :: r : Bs) == []) = false := rfl
      cases hz : ((nextS (c :: r)).2.2 != 0)
      · have hz' : (nextS (c :: r)).2.2 = 0 := by simpa using hz
        obtain ⟨g1, t, g2⟩ := next_pre hz'
        have g3 : (nextS (c :: r)).2.1.length ≤ (c :: r).length := by
          have := congrArg List.length g2
          rw [List.length_append] at this; omega
        have g4 : 1 ≤ (nextS (c :: r)).2.1.length := by
          cases hq : (nextS (c :: r)).2.1 with
          | nil => exact absurd hq g1
          | cons _ _ => simp
        have hst : (st_u40q (hdT s line acc)).ev = some (.next (hdT ((c :: r).drop (nextS (c :: r)).2.1.length) (line + ((s.take (blk false s)).count 10 : Nat)) (acc ++ [⟨(nextS (c :: r)).1, line + ((s.take (blk false s)).count 10 : Nat), (nextS (c :: r)).2.1⟩]))) := by
          cases acc with
          | nil =>
            simp only [hdT, st_u40q, Sum.elim_inl, st_u40q_0, hb, ev_bi_some, leB_nat hn, leB_nat g3, Int.toNat_natCast, hd, he, hx, hz, hw, Bool.and_true, ev_br, ev_at, cond_true, cond_false]
            rfl
          | cons a acc =>
            have hr : room ((ET (a :: acc)).length + 1) 32 = true := room_of (by simp only [List.length_map, lim]; omega)
            simp only [hdT, st_u40q, Sum.elim_inr, st_u40q_1, hb, ev_bi_some, leB_nat hn, leB_nat g3, Int.toNat_natCast, hd, he, hx, hz, hw, hr, Bool.and_true, ev_br, ev_at, cond_true, cond_false, List.cons_append, List.map_append]
            simp [hdT, Tok.av]
        rw [iterO_next hst, ← l_u40q_eq]
        simp only [hz, cond_false]
        simp only [List.length_cons] at g3
        exact tokF_val k _ _ _ (by simp only [List.length_drop, List.length_cons]; omega) (by omega) (by simp only [List.length_drop, List.length_cons]; omega) (by simp only [List.length_drop, List.length_cons, List.length_append, List.length_nil]; omega)
      · cases acc with
        | nil =>
          rw [iterO_done (j := 1)]
          · simp (decide := true) only [tokTree, hdT, pj_some, if_true, if_false, ev_bi_none, ev_bi_some, ev_at, sl_inl, hb, gv_some, Int.toNat_natCast, hd, hx, hw, hz, cond_true]; rfl
          · simp only [hdT, st_u40q, Sum.elim_inl, st_u40q_0, hb, ev_bi_some, leB_nat hn, Int.toNat_natCast, hd, he, hx, hz, Bool.and_true, ev_br, ev_at, cond_true, cond_false]
        | cons a acc =>
          rw [iterO_done (j := 3)]
          · simp (decide := true) only [tokTree, hdT, pj_some, if_true, if_false, ev_bi_none, ev_bi_some, ev_at, sr_inr, hb, gv_some, Int.toNat_natCast, hd, hx, hw, hz, cond_true]; rfl
          · simp only [hdT, st_u40q, Sum.elim_inr, st_u40q_1, hb, ev_bi_some, leB_nat hn, Int.toNat_natCast, hd, he, hx, hz, Bool.and_true, ev_br, ev_at, cond_true, cond_false]
theorem f_u51q_val (s : Bs) : f_u51q s = some (ET (toksS s).1, (toksS s).2.1, (toksS s).2.2) := by
  rw [f_u51q_eq, tokTree_eq, toksS]
  cases h : decide ((s.length : Int) > 2048)
  · have h' : s.length ≤ 2048 := by
      have := of_decide_eq_false h; omega
    simp only [ev_br, cond_false]
    exact tokF_val (s.length + 1) s 1 [] (by omega) (by omega) (by omega) (by simp; omega)
  · rfl
end Go.Proofs.H12

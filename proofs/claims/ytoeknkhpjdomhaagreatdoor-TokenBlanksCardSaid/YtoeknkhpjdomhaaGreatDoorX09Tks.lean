/- The document's way of reading tokens is the program's. -/
import Derived.Test.YtoeknkhpjdomhaaGreatDoorD09_1
import Derived.Test.YtoeknkhpjdomhaaGreatDoorD09_2
import Derived.Test.YtoeknkhpjdomhaaGreatDoorD09_3
import Derived.Test.YtoeknkhpjdomhaaGreatDoorX09Tkr
set_option linter.unusedVariables false
set_option linter.unusedSimpArgs false
set_option linter.unnecessarySimpa false
namespace Go.Proofs.H09
open Go Go.Eng Go.Tk
set_option maxRecDepth 20000
theorem qiD : qiC = some (ES wordsS) := by
 rw [qq4, qkA]; rfl
theorem qo7 (s : Bs) : qlA (s, ES wordsS, 0) = some (qzw (s == ·) (fun _ => 0) 1 wordsS, s, ES wordsS, ((wordsS.findIdx (s == ·) : Nat) : Int)) := by
 rw [qlB]
 refine qbq (hd := fun n => (s, ES wordsS, (n : Int))) (jx := fun _ => 0) (s == ·) 1 (fun n h => ?_) ?_
 ·have hb : wordsS.length ≤ big := by decide
  have hl : decide ((n : Int) < ((ES wordsS).length : Int)) = true := by rw [List.length_map]; exact qbk h
  simp only [qhS, qhT, hl, qC3 h, qs0 h, ev_br, ev_at, cond_true, qao h hb]
  have : (wordsS[n] == s) = (s == wordsS[n]) := by rw [Bool.eq_iff_iff, beq_iff_eq, beq_iff_eq]; exact eq_comm
  rw [this]
  cases (s == wordsS[n]) <;> rfl
 ·simp [qhS, qhT]
theorem qiI (s : Bs) : qiH s = some (qdV s) := by
 rw [qrb, qkH, qiD, ev_bi_some, qo7, qbM, qdV, has]
 cases wordsS.any (s == ·) <;> simp
theorem qb5 {s : Bs} {n : Nat} (h : n < s.length) (k : UInt8) : (qad s (n : Int) == (k.toNat : Int)) = (s[n] == k) := by
 rw [qaH h, Bool.eq_iff_iff, beq_iff_eq, beq_iff_eq, ← UInt8.toNat_inj]
 exact Int.ofNat_inj
theorem qo9 {s : Bs} {n : Nat} (h : n < s.length) : ∃ v, qlD (s, (n : Int), one13, 0) = some ((bif one13.any (· == s[n]) then 0 else 1), v) := by
 have := qbq (st := fun v => (qfX v).ev) (l := one13) (hd := fun k => (s, (n : Int), one13, (k : Int))) (jx := fun _ => 0) (· == s[n]) 1 (fun k hk => by
  have hb : one13.length ≤ big := by decide
  have e1 : (qad one13 (k : Int) == qad s (n : Int)) = (one13[k] == s[n]) := by
   rw [qaH hk, qaH h, Bool.eq_iff_iff, beq_iff_eq, beq_iff_eq, ← UInt8.toNat_inj]
   exact Int.ofNat_inj
  simp only [qfX, qhV, qbk hk, qaO hk, qaO h, e1, ev_br, ev_at, cond_true, qao hk hb]
  cases (one13[k] == s[n]) <;> rfl) (by simp [qfX, qhV])
 rw [qbM] at this
 rw [qlE]
 exact ⟨_, this⟩
theorem qoD {s : Bs} (hl : s.length ≤ 1000000) {n : Nat} (h : n < s.length) : qli s (n : Int) = some ((qea (s.drop n) : Nat) : Int) := by
 have hb : s.length ≤ big := Nat.le_trans hl (by decide)
 rw [qre, qkK, qao h hb]
 have e61 : (61 : Int) = ((61 : UInt8).toNat : Int) := rfl
 have e33 : (33 : Int) = ((33 : UInt8).toNat : Int) := rfl
 have e60 : (60 : Int) = ((60 : UInt8).toNat : Int) := rfl
 rw [drop_at h]
 have e13 : ([123, 125, 40, 41, 44, 59, 58, 36, 43, 45, 42, 47, 60] : List UInt8) = one13 := rfl
 obtain ⟨v, hv⟩ := qo9 h
 have c1 : (qad s (n : Int) == 61) = (s[n] == 61) := qb5 h 61
 have c2 : (qad s (n : Int) == 33) = (s[n] == 33) := qb5 h 33
 have c3 : (qad s (n : Int) == 60) = (s[n] == 60) := qb5 h 60
 rw [e13, hv]
 unfold qea
 by_cases h2 : n + 1 < s.length
 ·have c4 : (qad s ((n + 1 : Nat) : Int) == 61) = (s[n + 1] == 61) := qb5 h2 61
  simp only [qbk h2, qaO h2, qaO h, c1, c2, c3, c4, br_eq, cond_true, ev_bi_some]
  rw [drop_at h2]
  cases hq : (s[n + 1] == 61 && (s[n] == 61 || (s[n] == 33 || s[n] == 60)))
  ·rw [qnz (r := s[n + 1] :: s.drop (n + 1 + 1)) hq]
   have : (bif s[n + 1] == 61 then (bif s[n] == 61 then some true else bif s[n] == 33 then some true else some (s[n] == 60)) else some false) = some false := by
    revert hq
    cases (s[n + 1] == 61) <;> cases (s[n] == 61) <;> cases (s[n] == 33) <;> cases (s[n] == 60) <;> simp
   rw [this]
   simp only [ev_bi_some, ev_br, cond_false]
   cases one13.any (· == s[n]) <;> rfl
  ·rw [quc hq]
   have : (bif s[n + 1] == 61 then (bif s[n] == 61 then some true else bif s[n] == 33 then some true else some (s[n] == 60)) else some false) = some true := by
    revert hq
    cases (s[n + 1] == 61) <;> cases (s[n] == 61) <;> cases (s[n] == 33) <;> cases (s[n] == 60) <;> simp
   rw [this]
   rfl
 ·have hd : s.drop (n + 1) = [] := List.drop_eq_nil_of_le (by omega)
  rw [hd, qnz (r := []) rfl]
  simp only [qw3 h2, br_eq, cond_false, ev_bi_some, ev_br]
  cases one13.any (· == s[n]) <;> rfl
theorem qqe {s : Bs} {n k : Nat} (hk : k ≤ (s.drop n).length) : List.take ((((n + k : Nat) : Int)).toNat - ((n : Nat) : Int).toNat) (List.drop ((n : Nat) : Int).toNat s) = (s.drop n).take k := by
 rw [Int.toNat_natCast, Int.toNat_natCast]
 congr 1; omega
theorem qoz {s : Bs} (hl : s.length ≤ 1000000) {n : Nat} (h : n < s.length) : ∃ k t, qcs s (n : Int) = some (k, 0, t, (qem (s.drop n)).2.2) ∧ ((qem (s.drop n)).2.2 = 0 → k = (qem (s.drop n)).1 ∧ t = (qem (s.drop n)).2.1) := by
 have hb : s.length ≤ big := Nat.le_trans hl (by decide)
 rw [qq3, qkz]
 have hd := drop_at h
 have hln : (s.drop n).length = s.length - n := by rw [List.length_drop]
 have l1 := qdt (p := qpx false) (s.drop n)
 have l2 := qdt (p := qpx true) (s.drop n)
 have g1 : leB (((n + ((s.drop n).takeWhile (qpx false)).length : Nat)) : Int) s.length = true := qaJ (by omega)
 have g2 : leB ((n : Nat) : Int) (((n + ((s.drop n).takeWhile (qpx false)).length : Nat)) : Int).toNat = true := by rw [Int.toNat_natCast]; exact qaJ (by omega)
 have g3 : leB (((n + ((s.drop n).takeWhile (qpx true)).length : Nat)) : Int) s.length = true := qaJ (by omega)
 have g4 : leB ((n : Nat) : Int) (((n + ((s.drop n).takeWhile (qpx true)).length : Nat)) : Int).toNat = true := by rw [Int.toNat_natCast]; exact qaJ (by omega)
 simp only [qaO h, qaH h, qiz, qcK, qiM hb false (Nat.le_of_lt h), qiM hb true (Nat.le_of_lt h), g1, g2, g3, g4, ev_br, ev_bi_some, cond_true, qqe l1, qqe l2, qdu, Bool.and_self]
 have en : qpx false = at8 qbK := rfl
 have em : qpx true = at8 qbA := rfl
 rw [en, em] at *
 have hr : qem (s.drop n) = (bif at8 qiZ s[n] then (bif qdV ((s.drop n).takeWhile (at8 qbK)) then (5, (s.drop n).takeWhile (at8 qbK), 0) else bif decide (((s.drop n).takeWhile (at8 qbK)).length > 16) then (1, (s.drop n).takeWhile (at8 qbK), 4) else (1, (s.drop n).takeWhile (at8 qbK), 0))
  else bif at8 qaI s[n] then
   (bif qew ((s.drop n).takeWhile (at8 qbA)) then (bif qek ((s.drop n).takeWhile (at8 qbA)) then (2, (s.drop n).takeWhile (at8 qbA), 6) else (2, (s.drop n).takeWhile (at8 qbA), 0))
   else bif !qfx ((s.drop n).takeWhile (at8 qbA)) then (3, (s.drop n).takeWhile (at8 qbA), 2) else bif (qbd ((s.drop n).takeWhile (at8 qbA))).2 != 0 then (3, (s.drop n).takeWhile (at8 qbA), 6) else (3, (s.drop n).takeWhile (at8 qbA), 0))
  else bif qea (s.drop n) == 0 then (0, [], 2) else (4, (s.drop n).take (qea (s.drop n)), 0)) := by
  conv => lhs; rw [hd]
  rw [← hd]
  conv => lhs; unfold qem
  rw [hd]
 rw [hr]
 show ∃ k t, (bif at8 qiZ s[n] then _ else _) = _ ∧ _
 cases hlt : at8 qiZ s[n]
 ·simp only [cond_false]
  show ∃ k t, (bif at8 qaI s[n] then _ else _) = _ ∧ _
  cases hdg : at8 qaI s[n]
  ·simp only [cond_false, qoD hl h, ev_bi_some]
   have e0 : (((qea (s.drop n) : Nat) : Int) == 0) = (qea (s.drop n) == 0) := by
    rw [Bool.eq_iff_iff, beq_iff_eq, beq_iff_eq]; omega
   rw [ev_br, e0]
   have hmk : qea (s.drop n) ≤ (s.drop n).length := by
    unfold qea
    cases hf : marksS.find? (preB · (s.drop n)) with
    | none => simp
    | some m =>
     have := congrArg List.length (qlJ hf)
     rw [List.length_take] at this
     show m.length ≤ (s.drop n).length
     omega
   cases hm : (qea (s.drop n) == 0)
   ·have hw : IntKind.i64.wrap ((n : Int) + ((qea (s.drop n) : Nat) : Int)) = ((n + qea (s.drop n) : Nat) : Int) := by rw [wrap64 (by omega) (by omega)]; push_cast; rfl
    have q1 : leB ((n + qea (s.drop n) : Nat) : Int) s.length = true := qaJ (by omega)
    have q2 : leB ((n : Nat) : Int) (((n + qea (s.drop n) : Nat)) : Int).toNat = true := by rw [Int.toNat_natCast]; exact qaJ (by omega)
    simp only [cond_false, hw, q1, q2, Bool.and_self, ev_br, cond_true, qqe hmk, ev_at]
    exact ⟨_, _, rfl, fun _ => ⟨rfl, rfl⟩⟩
   ·exact ⟨_, _, rfl, fun h => by cases h⟩
  ·simp only [cond_true]
   have hlt2 : ((s.drop n).takeWhile (at8 qbA)).length ≤ 1000000 := by have := qdt (p := at8 qbA) (s.drop n); omega
   have hlb : ((s.drop n).takeWhile (at8 qbA)).length ≤ big := Nat.le_trans hlt2 (by decide)
   have hh : ∃ r, (s.drop n).takeWhile (at8 qbA) = s[n] :: r := by
    rw [hd, List.takeWhile_cons]
    have : at8 qbA s[n] = true := by simp only [at8, qbA, qbK] at hdg ⊢; simp [hdg]
    rw [this]; exact ⟨_, rfl⟩
   generalize (s.drop n).takeWhile (at8 qbA) = t at hlt2 hlb hh
   simp only [qfu hlb, ev_bi_some]
   have ei : (((plS t : Nat) : Int) == (t.length : Int)) = qew t := by
    obtain ⟨r, rfl⟩ := hh
    unfold plS
    have hcd : at8 qaI s[n] = true := hdg
    rw [Bool.eq_iff_iff, beq_iff_eq, qaV]
    constructor
    ·intro h1
     cases hc : (decide (((s[n] :: r).takeWhile (at8 qaI)).length > 1) && (s[n] :: r).head? == some 48)
     ·rw [hc] at h1
      simp only [cond_false] at h1
      have hall : (s[n] :: r).takeWhile (at8 qaI) = s[n] :: r := by
       have := qdu (p := at8 qaI) (s[n] :: r)
       rw [show ((s[n] :: r).takeWhile (at8 qaI)).length = (s[n] :: r).length by omega, List.take_length] at this
       exact this.symm
      refine ⟨qh6.1 hall, by simp, ?_⟩
      rw [hall] at hc
      by_cases h1l : (s[n] :: r).length > 1
      ·right
       rw [decide_eq_true h1l] at hc
       simpa using hc
      ·left; simp only [List.length_cons] at h1l ⊢; omega
     ·rw [hc] at h1
      simp only [cond_true, List.length_cons] at h1; omega
    ·rintro ⟨h1, h2, h3⟩
     rw [qh6.2 h1]
     have : (decide ((s[n] :: r).length > 1) && (s[n] :: r).head? == some 48) = false := by
      rcases h3 with h3 | h3
      ·rw [decide_eq_false (by omega)]; rfl
      ·have : ((s[n] :: r).head? == some 48) = false := by simpa using h3
       rw [this, Bool.and_false]
     rw [this]; rfl
   rw [ev_br, ei]
   cases hi : qew t
   ·simp only [cond_false, qiK hlb, qiF hlt2, ev_bi_some, ev_br]
    cases hf : qfx t
    ·exact ⟨_, _, rfl, fun h => by cases h⟩
    ·simp only [Bool.not_true, cond_false]
     cases hz : ((qbd t).2 != 0)
     ·exact ⟨_, _, rfl, fun _ => ⟨rfl, rfl⟩⟩
     ·exact ⟨_, _, rfl, fun h => by cases h⟩
   ·simp only [cond_true, qoA, ev_bi_some, ev_br]
    cases qek t
    ·exact ⟨_, _, rfl, fun _ => ⟨rfl, rfl⟩⟩
    ·exact ⟨_, _, rfl, fun h => by cases h⟩
 ·simp only [cond_true, qiI, ev_bi_some, ev_br]
  have e6 : decide ((((s.drop n).takeWhile (at8 qbK)).length : Int) > 16) = decide (((s.drop n).takeWhile (at8 qbK)).length > 16) := by
   by_cases h : ((s.drop n).takeWhile (at8 qbK)).length > 16
   ·rw [decide_eq_true h, decide_eq_true (by omega)]
   ·rw [decide_eq_false h, decide_eq_false (by omega)]
  rw [e6]
  cases qdV ((s.drop n).takeWhile (at8 qbK))
  ·cases decide (((s.drop n).takeWhile (at8 qbK)).length > 16)
   ·exact ⟨_, _, rfl, fun _ => ⟨rfl, rfl⟩⟩
   ·exact ⟨_, _, rfl, fun h => by cases h⟩
  ·exact ⟨_, _, rfl, fun _ => ⟨rfl, rfl⟩⟩
def qih (s : Bs) (line : Int) (n : Nat) : List Tok → qbW
 | [] => .inl (s, line, (n : Int))
 | acc => .inr (s, line, (n : Int), ET acc)
noncomputable def qhg (o : Option (Nat × qbW)) : DT qpB :=
  .bi (pj 0 o) (fun y0 => .at (([], (sl y0).snd.fst, (gv (qcs (sl y0).fst (sl y0).snd.snd)).snd.snd.snd)))
   (.bi (pj 1 o) (fun y0 => .at (([], 0, 0)))
    (.bi (pj 2 o) (fun y0 => .at (([], (sr y0).snd.fst, (gv (qcs (sr y0).fst (sr y0).snd.snd.fst)).snd.snd.snd)))
     (.bi (pj 3 o) (fun y0 => .at (((sr y0).snd.snd.snd, 0, 0)))
      (.no))))
theorem qpq (s : Bs) : qkh s = .br (decide ((s.length : Int) > 2048)) (.at (([], 0, 5))) (qhg (qf7 (Sum.inl (s, 1, 0)))) := rfl
theorem qoT {s : Bs} (hl : s.length ≤ big) (line : Int) {n : Nat} (hn : n ≤ s.length) : qdy (Sum.inl (s, line, (n : Int))) = some (0, Sum.inl (s, line, ((n + ((s.drop n).takeWhile (at8 qcD)).length : Nat) : Int))) := by
 rw [qg4]
 refine qmY (p := at8 qcD) (s := s) (fun n => (Sum.inl (s, line, (n : Int)) : qbX)) 0 (fun n h => ?_) ?_ (s.length - n) n (by omega)
 ·simp only [qeD, Sum.elim_inl, qhy, qbk h, qaO h, qaH h, qao h hl, br_eq, cond_true, ev_bi_some, ev_br, ev_at, cond_some, at8, qcD]
 ·simp [qeD, qhy]
theorem qoU {s : Bs} (hl : s.length ≤ big) (line : Int) (L : List AV) {n : Nat} (hn : n ≤ s.length) : qdy (Sum.inr (s, line, (n : Int), L)) = some (1, Sum.inr (s, line, ((n + ((s.drop n).takeWhile (at8 qcD)).length : Nat) : Int), L)) := by
 rw [qg4]
 refine qmY (p := at8 qcD) (s := s) (fun n => (Sum.inr (s, line, (n : Int), L) : qbX)) 1 (fun n h => ?_) ?_ (s.length - n) n (by omega)
 ·simp only [qeD, Sum.elim_inr, qhz, qbk h, qaO h, qaH h, qao h hl, br_eq, cond_true, ev_bi_some, ev_br, ev_at, cond_some, at8, qcD]
 ·simp [qeD, qhz]
def qkS (acc : List Tok) (q : List Tok × Int × Int) : List Tok × Int × Int := bif q.2.2 != 0 then ([], q.2) else (acc ++ q.1, q.2)
theorem qp0 (acc : List Tok) (t : Tok) (q : List Tok × Int × Int) : qkS acc (qgh t q) = qkS (acc ++ [t]) q := by
 unfold qgh qkS
 cases h : (q.2.2 != 0)
 ·simp [h]
 ·simp [h]
theorem qsQ {c : UInt8} {r : Bs} (h : spI c.toNat = true) (line : Int) : rdT (c :: r) line = rdT r (line + (bif c == 10 then 1 else 0)) := by
 have := qpY (p := [c]) (s := r) (by
  have := qm8 (s := r) [c] (by simpa using h)
  exact this) line
 rw [show [c] ++ r = c :: r from rfl] at this
 rw [this]
 congr 2
 by_cases hc : c = 10
 ·subst hc; rfl
 ·have : (c == 10) = false := by simpa using hc
  rw [this, List.count_cons, List.count_nil, this]; rfl
theorem qzs {r : Bs} (line : Int) : rdT (35 :: r) line = rdT ((35 :: r).drop ((35 :: r).takeWhile (at8 qcD)).length) line := by
 have hs := List.takeWhile_append_dropWhile (p := at8 qcD) (l := 35 :: r)
 have hb := qjr (35 :: r)
 have e1 : blk true (35 :: r) = blk true r + 1 := rfl
 have e2 : blk false (35 :: r) = blk true r + 1 := rfl
 have hp := qpY (p := (35 :: r).takeWhile (at8 qcD)) (s := (35 :: r).drop ((35 :: r).takeWhile (at8 qcD)).length) (by
  rw [drop_tw, hs, e2, ← e1, hb, drop_tw]) line
 rw [drop_tw, hs] at hp
 rw [hp, drop_tw]
 congr 1
 have : ((35 :: r).takeWhile (at8 qcD)).count 10 = 0 := by
  rw [List.count_eq_zero]
  intro hm
  have := List.all_eq_true.1 (qtf (p := at8 qcD) (l := 35 :: r)) _ hm
  cases this
 rw [this]; simp
theorem qur {s : Bs} (hl : s.length ≤ 2048) : ∀ (k n : Nat) (line : Int) (acc : List Tok), n + k = s.length → 0 ≤ line → line ≤ 10000 + n → acc.length ≤ n →
  (qhg (qf7 (qih s line n acc))).ev = some (ET (qkS acc (rdT (s.drop n) line)).1, (qkS acc (rdT (s.drop n) line)).2.1, (qkS acc (rdT (s.drop n) line)).2.2) := by
 have hm : s.length ≤ 1000000 := by omega
 have hb : s.length ≤ big := Nat.le_trans hm (by decide)
 intro k
 induction k using Nat.strongRecOn with
 | _ k ih =>
  intro n line acc hn h0 h1 h2
  rw [qg3]
  by_cases h : n < s.length
  ·have c10 : (qad s (n : Int) == 10) = (s[n] == 10) := qb5 h 10
   have c32 : (qad s (n : Int) == 32) = (s[n] == 32) := qb5 h 32
   have c9 : (qad s (n : Int) == 9) = (s[n] == 9) := qb5 h 9
   have c35 : (qad s (n : Int) == 35) = (s[n] == 35) := qb5 h 35
   have hw1 : IntKind.i64.wrap (line + 1) = line + 1 := wrap64 (by omega) (by omega)
   have hd := drop_at h
   have hcw := qdt (p := at8 qcD) (s.drop n)
   rw [List.length_drop] at hcw
   obtain ⟨tk, tt, htok, htk⟩ := qoz hm h
   have step : ∀ (line' : Int) (n' : Nat) (acc' : List Tok), n < n' → n' ≤ s.length → 0 ≤ line' → line' ≤ 10000 + n' → acc'.length ≤ n' → (qa8 (qih s line n acc)).ev = some (.next (qih s line' n' acc')) →
     qkS acc (rdT (s.drop n) line) = qkS acc' (rdT (s.drop n') line') →
     (qhg (qav (fun v => (qa8 v).ev) (qih s line n acc))).ev = some (ET (qkS acc (rdT (s.drop n) line)).1, (qkS acc (rdT (s.drop n) line)).2.1, (qkS acc (rdT (s.drop n) line)).2.2) := by
    intro line' n' acc' g1 g2 g3 g4 g5 g6 g7
    rw [qat g6, ← qg3, g7]
    exact ih (s.length - n') (by omega) n' line' acc' (by omega) g3 g4 g5
   by_cases q10 : s[n] = 10
   ·have e10 : (s[n] == 10) = true := by simpa using q10
    refine step (line + 1) (n + 1) acc (by omega) (by omega) (by omega) (by omega) (by omega) ?_ ?_
    ·cases acc with
     | nil => simp only [qih, qa8, Sum.elim_inl, qbT, qbk h, qaO h, c10, e10, hw1, qao h hb, ev_br, ev_at, cond_true]
     | cons a acc => simp only [qih, qa8, Sum.elim_inr, qbU, qbk h, qaO h, c10, e10, hw1, qao h hb, ev_br, ev_at, cond_true]
    ·rw [hd, qsQ (by rw [q10]; rfl), e10]; rfl
   ·have e10 : (s[n] == 10) = false := by simpa using q10
    by_cases q32 : s[n] = 32
    ·have e32 : (s[n] == 32) = true := by simpa using q32
     refine step line (n + 1) acc (by omega) (by omega) h0 (by omega) (by omega) ?_ ?_
     ·cases acc with
      | nil => simp only [qih, qa8, Sum.elim_inl, qbT, qbk h, qaO h, c10, e10, c32, e32, qao h hb, ev_br, ev_at, cond_true, cond_false]
      | cons a acc => simp only [qih, qa8, Sum.elim_inr, qbU, qbk h, qaO h, c10, e10, c32, e32, qao h hb, ev_br, ev_at, cond_true, cond_false]
     ·rw [hd, qsQ (by rw [q32]; rfl), e10, cond_false, Int.add_zero]
    ·have e32 : (s[n] == 32) = false := by simpa using q32
     by_cases q9 : s[n] = 9
     ·have e9 : (s[n] == 9) = true := by simpa using q9
      refine step line (n + 1) acc (by omega) (by omega) h0 (by omega) (by omega) ?_ ?_
      ·cases acc with
       | nil => simp only [qih, qa8, Sum.elim_inl, qbT, qbk h, qaO h, c10, e10, c32, e32, c9, e9, qao h hb, ev_br, ev_at, cond_true, cond_false]
       | cons a acc => simp only [qih, qa8, Sum.elim_inr, qbU, qbk h, qaO h, c10, e10, c32, e32, c9, e9, qao h hb, ev_br, ev_at, cond_true, cond_false]
      ·rw [hd, qsQ (by rw [q9]; rfl), e10, cond_false, Int.add_zero]
     ·have e9 : (s[n] == 9) = false := by simpa using q9
      by_cases q35 : s[n] = 35
      ·have e35 : (s[n] == 35) = true := by simpa using q35
       have hpos : 1 ≤ ((s.drop n).takeWhile (at8 qcD)).length := by
        rw [hd, q35, List.takeWhile_cons_of_pos (by rfl)]; simp
       refine step line (n + ((s.drop n).takeWhile (at8 qcD)).length) acc (by omega) (by omega) h0 (by omega) (by omega) ?_ ?_
       ·cases acc with
        | nil =>
         simp only [qih, qa8, Sum.elim_inl, qbT, qbk h, qaO h, c10, e10, c32, e32, c9, e9, c35, e35, qoT hb line (Nat.le_of_lt h), pj_some, if_true, ev_bi_some, sl_inl, ev_br, ev_at, cond_true, cond_false]
        | cons a acc =>
         simp (decide := true) only [qih, qa8, Sum.elim_inr, qbU, qbk h, qaO h, c10, e10, c32, e32, c9, e9, c35, e35, qoU hb line (ET (a :: acc)) (Nat.le_of_lt h), pj_some, if_true, if_false, ev_bi_some, ev_bi_none, sr_inr, ev_br, ev_at, cond_true, cond_false]
       ·rw [← List.drop_drop, hd, q35, qzs]
      ·have e35 : (s[n] == 35) = false := by simpa using q35
       have hok : qpy (s.drop n) = true := by
        rw [hd]
        simp only [qpy, spI, Bool.and_eq_true, Bool.not_eq_true', Bool.or_eq_false_iff, beq_eq_false_iff_ne]
        have z : ∀ m : UInt8, s[n] ≠ m → ¬ ((s[n].toNat : Int) = (m.toNat : Int)) := fun m hm he => hm (UInt8.toNat_inj.1 (Int.ofNat_inj.1 he))
        exact ⟨⟨z 32 q32, z 9 q9, z 10 q10⟩, z 35 q35⟩
       obtain ⟨r1, r2⟩ := qpp (s.drop n)
       have hst := qC7 hok line
       have hst2 : Tk.stepT (s.drop n) line = bif (qai (s.drop n)).2.2 != 0 then ([], line, (qai (s.drop n)).2.2) else qgh ⟨(qai (s.drop n)).1, line, (qai (s.drop n)).2.1⟩ (rdT ((s.drop n).drop (qai (s.drop n)).2.1.length) line) := by
        conv => lhs; rw [hd]
        rw [hd]; rfl
       rw [hst2] at hst
       cases hz : ((qai (s.drop n)).2.2 != 0)
       ·have hz' : (qai (s.drop n)).2.2 = 0 := by simpa using hz
        rw [hz, cond_false] at hst
        obtain ⟨rfl, rfl⟩ := htk (r1.trans hz')
        have hr2 := r2 hz'
        obtain ⟨p1, y, p2⟩ := qbn hz'
        have p1 := List.length_pos_iff.2 p1
        have p3 := congrArg List.length p2
        rw [List.length_append, List.length_drop] at p3
        rw [hr2] at htok
        have hwn : IntKind.i64.wrap ((n : Int) + ((qai (s.drop n)).2.1.length : Int)) = ((n + (qai (s.drop n)).2.1.length : Nat) : Int) := by rw [wrap64 (by omega) (by omega)]; push_cast; rfl
        refine step line (n + (qai (s.drop n)).2.1.length) (acc ++ [⟨(qai (s.drop n)).1, line, (qai (s.drop n)).2.1⟩]) (by omega) (by omega) h0 (by omega) (by simp only [List.length_append, List.length_cons, List.length_nil]; omega) ?_ ?_
        ·cases acc with
         | nil =>
          simp only [qih, qa8, Sum.elim_inl, qbT, qbk h, qaO h, c10, e10, c32, e32, c9, e9, c35, e35, htok, hz, hwn, ev_bi_some, ev_br, ev_at, cond_true, cond_false]
          rfl
         | cons a acc =>
          have hrm : room ((ET (a :: acc)).length + 1) 32 = true := qsX (by simp only [List.length_map, lim]; omega)
          simp only [qih, qa8, Sum.elim_inr, qbU, qbk h, qaO h, c10, e10, c32, e32, c9, e9, c35, e35, htok, hz, hwn, hrm, ev_bi_some, ev_br, ev_at, cond_true, cond_false, List.cons_append, List.map_append]
          simp [qih, Tok.av]
        ·rw [hst, qp0, List.drop_drop]
       ·have hzr : ((qem (s.drop n)).2.2 != 0) = true := by rw [r1]; exact hz
        rw [hz, cond_true] at hst
        rw [hst]
        have hac : qkS acc (([] : List Tok), line, (qai (s.drop n)).2.2) = ([], line, (qai (s.drop n)).2.2) := by
         unfold qkS
         simp only [hz, cond_true]
        rw [hac, ← r1]
        cases acc with
        | nil =>
         rw [qak (j := 0)]
         ·simp only [qhg, qih, pj_some, if_true, ev_bi_some, ev_at, sl_inl, htok, gv_some]; rfl
         ·simp only [qih, qa8, Sum.elim_inl, qbT, qbk h, qaO h, c10, e10, c32, e32, c9, e9, c35, e35, htok, hzr, ev_bi_some, ev_br, ev_at, cond_true, cond_false]
        | cons a acc =>
         rw [qak (j := 2)]
         ·simp (decide := true) only [qhg, qih, pj_some, if_true, if_false, ev_bi_some, ev_bi_none, ev_at, sr_inr, htok, gv_some]; rfl
         ·simp only [qih, qa8, Sum.elim_inr, qbU, qbk h, qaO h, c10, e10, c32, e32, c9, e9, c35, e35, htok, hzr, ev_bi_some, ev_br, ev_at, cond_true, cond_false]
  ·have hd : s.drop n = [] := qty h
   rw [hd, qyR]
   have hac : qkS acc (([] : List Tok), (0 : Int), (0 : Int)) = (acc, 0, 0) := by simp [qkS]
   rw [hac]
   have hle : decide ((n : Int) < (s.length : Int)) = false := qw3 h
   cases acc with
   | nil =>
    rw [qak (j := 1)]
    ·rfl
    ·simp only [qih, qa8, Sum.elim_inl, qbT, hle, ev_br, ev_at, cond_false]
   | cons a acc =>
    rw [qak (j := 3)]
    ·rfl
    ·simp only [qih, qa8, Sum.elim_inr, qbU, hle, ev_br, ev_at, cond_false]
theorem qiu (s : Bs) : qit s = some (ET (qa2 s).1, (qa2 s).2.1, (qa2 s).2.2) := by
 rw [qqH, qpq]
 cases h : decide ((s.length : Int) > 2048)
 ·have h' : s.length ≤ 2048 := by
   have := of_decide_eq_false h; omega
  rw [qco h']
  simp only [ev_br, cond_false]
  have := qur h' s.length 0 1 [] (by omega) (by omega) (by omega) (by simp)
  rw [List.drop_zero] at this
  have hac : qkS [] (rdT s 1) = rdT s 1 := by
   unfold qkS
   cases hz : ((rdT s 1).2.2 != 0)
   ·simp
   ·
    simp only [cond_true]
    exact (Prod.ext (qkQ s 1 hz).symm rfl)
  rw [hac] at this
  exact this
 ·unfold qa2
  rw [h]; rfl
end Go.Proofs.H09

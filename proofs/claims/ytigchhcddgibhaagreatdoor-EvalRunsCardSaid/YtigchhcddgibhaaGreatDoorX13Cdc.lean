/- Code: what the document's examination of code comes to. -/
import Derived.Test.YtigchhcddgibhaaGreatDoorX13Cdb
set_option linter.unusedVariables false
set_option linter.unusedSimpArgs false
set_option linter.unnecessarySimpa false
namespace Go.Proofs.H13
open Go Go.Eng Go.Tk
set_option maxRecDepth 20000
theorem qxz {s : Sk} {T : List Int} (hs : s.ts.length <= 100000) (hT : T.length <= 100000) : qfb s.kn s.bad (EI s.ts) (EI T) = some ((qci s T).kn, (qci s T).bad, EI (qci s T).ts) := by
 rw [qyE, qjW, qf4 (by simp only [big]; omega)]
 obtain ⟨k, b, t⟩ := s
 have hE : EI ([] : List Int) = [] := rfl
 cases k
 ·have hm : qci ⟨false, b, t⟩ T = ⟨true, b, T⟩ := rfl
  rw [hm]
  cases T with
  | nil => rfl
  | cons x T =>
   have h8 := qWn hT
   simp only [List.length_cons] at h8
   simp [h8]
 ·have hm : qci ⟨true, b, t⟩ T = ⟨true, b || t != T, t⟩ := rfl
  rw [hm]
  cases he : (t == T)
  ·have hb : (t != T) = true := by simp [bne, he]
   simp [hb, he]
  ·have hb : (t != T) = false := by simp [bne, he]
   simp [hb, he]
theorem qxa {a b : Blk} {es : List AV} {m : Nat} {x : Bool} {sz : Nat} {v : Bool} (h : m <= es.length) : qgb [(192, Blk.arr sz es v), (128, a), (0, b)] qdu (AV.tup [AV.own 192 0 (some m), AV.bool x]) = true := by
 show (decide (0 + m <= es.length) && (true && true)) = true
 simp [h]
theorem qsx {a b d : Blk} {es : List AV} {m k : Nat} {x : Bool} {sz : Nat} {v : Bool} (h : m <= es.length) (hk : (k == 192) = false) : qgb [(192, Blk.arr sz es v), (k, d), (128, a), (0, b)] qdu (AV.tup [AV.own 192 0 (some m), AV.bool x]) = true := by
 show (decide (0 + m <= es.length) && (true && true)) = true
 simp [h]
theorem zad {T : List Int} {k : Nat} (r : Int) (h : k <= T.length) : List.take (T.length - k + 1) (EI (T.take (T.length - k)) ++ EI [r] ++ EI (T.drop (T.length - k + 1))) = EI (T.take (T.length - k) ++ [r]) := by
 rw [qkm, qkm, qhC, List.take_left' (by simp)]
theorem qbq (l : List AV) (n : Nat) : qf2 l n = l.drop n := by cases n <;> rfl
theorem qtY {vs : List Va} {ins : List In} {T : List Int} {i : Nat} (hi : i < ins.length) (hT : T.length <= 100000) (hv : vs.length <= 100000) (hN : ins.length <= 100000) (ty : Int) :
  ∃ A b, qk2 ty (EV vs) (EN ins) (i : Int) (EI T) = some (A, b) /\ match qcC vs ins.length i ins[i] T with
   | some (T', _, _) => A = EI T' /\ b = true
   | none => b = false := by
 rw [qyq, qjI]
 simp only [okN hi, qn0 hi, qn1 hi, qn2 hi, ev_br, cond_true, List.length_map]
 generalize hx : ins[i] = x
 by_cases hT0 : T.length = 0
 ·have : T = [] := List.length_eq_zero_iff.1 hT0
  subst this
  simp only [List.length_nil, decide_true, Bool.and_self, cond_true]
  unfold qcC
  by_cases c1 : x.op = 1
  ·have e2 : (x.op == 1) = true := by simp [c1]
   simp only [e2, cond_true, ev_bi_some, ev_at, qk8, if_pos c1]
   have hp : pushB ⟨x.op, x.a, x.n⟩ = pushB x := rfl
   rw [hp]
   refine ⟨EI [x.a], pushB x, rfl, ?_⟩
   cases pushB x <;> simp
  have e2 : (x.op == 1) = false := by simp [c1]
  simp only [e2, cond_false, if_neg c1]
  by_cases c2 : x.n = 0
  ·have e3 : (x.n != 0) = false := by simp [c2]
   simp only [e3, cond_false, if_neg (show ¬ x.n ≠ 0 from fun q => q c2)]
   by_cases c3 : x.op = 2
   ·have e4 : (x.op == 2) = true := by simp [c3]
    simp only [e4, cond_true, if_pos c3]
    by_cases c4 : x.a < 0
    ·rw [if_neg (by omega)]
     exact ⟨[], false, by simp [c4], rfl⟩
    ·rw [if_pos (by omega)]
     have d1 : decide (x.a < 0) = false := by simpa using c4
     by_cases c5 : x.a.toNat < vs.length
     ·have h7 : x.a = ((x.a.toNat : Nat) : Int) := by omega
      have h8 : qay ksV (EV vs) x.a = true := by rw [h7]; exact okV c5
      have h9 : intOf (cellAt (EV vs) x.a 1) = vs[x.a.toNat].ty := by
       have := qv1 c5
       rwa [<- h7] at this
      have d2 : decide (x.a >= (vs.length : Int)) = false := by simp; omega
      rw [List.getElem?_eq_getElem c5]
      simp only [d1, d2, h8, h9, cond_false, cond_true, br_eq, ev_bi_some, ev_br, ev_at]
      exact ⟨_, _, rfl, rfl, rfl⟩
     ·rw [List.getElem?_eq_none (by omega)]
      have d2 : decide (x.a >= (vs.length : Int)) = true := by simp; omega
      simp only [d1, d2, cond_false, cond_true, br_eq, ev_bi_some, ev_br, ev_at]
      exact ⟨_, _, rfl, rfl⟩
   have e4 : (x.op == 2) = false := by simp [c3]
   simp only [e4, cond_false, if_neg c3]
   by_cases c4 : x.op = 3
   ·have e5 : (x.op == 3) = true := by simp [c4]
    simp only [e5, cond_true, if_pos c4]
    have ho : qfn x.a [] = none := by
     unfold qfn
     rw [if_neg]
     rintro ⟨_, _, h⟩
     simp only [List.length_nil, arS] at h
     split at h <;> omega
    rw [ho]
    refine ⟨[], false, ?_, rfl⟩
    cases decide (x.a < 5) <;> cases decide (x.a > 18) <;> cases (x.a == 9) <;> cases (x.a == 16) <;> rfl
   have e5 : (x.op == 3) = false := by simp [c4]
   simp only [e5, cond_false, if_neg c4]
   by_cases c5 : x.op = 4
   ·have e6 : (x.op == 4) = true := by simp [c5]
    simp only [e6, cond_true, if_pos c5]
    by_cases c6 : (i : Int) < x.a
    ·have d1 : decide (x.a > (i : Int)) = true := by simpa using c6
     simp only [d1, cond_true]
     by_cases c7 : x.a <= (ins.length : Int)
     ·rw [if_pos ⟨c6, c7⟩]
      exact ⟨_, _, rfl, rfl, by simpa using c7⟩
     ·rw [if_neg (fun q => c7 q.2)]
      exact ⟨_, _, rfl, by simpa using c7⟩
    ·have d1 : decide (x.a > (i : Int)) = false := by simpa using c6
     rw [if_neg (fun q => c6 q.1)]
     simp only [d1, cond_false]
     exact ⟨_, _, rfl, rfl⟩
   have e6 : (x.op == 4) = false := by simp [c5]
   simp only [e6, cond_false, if_neg c5]
   refine ⟨[], false, ?_, ?_⟩
   ·cases (x.op == 5) <;> rfl
   ·by_cases c6 : x.op = 5
    ·rw [if_pos c6]; simp
    ·rw [if_neg c6]
  ·have e3 : (x.n != 0) = true := by simp [c2]
   simp only [e3, cond_true, if_pos c2]
   exact ⟨_, _, rfl, rfl⟩
 ·have h5 := qWn hT
  have h6 : room (T.length + 1) 8 = true := qcA (by simp only [lim]; omega)
  simp only [hT0, h5, h6, decide_false, decide_true, Bool.false_and, Bool.true_and, cond_false, cond_true, ne_eq, not_false_eq_true]
  unfold qcC
  by_cases c1 : x.op = 1
  ·have e2 : (x.op == 1) = true := by simp [c1]
   simp only [e2, cond_true, ev_bi_some, ev_at, qk8, if_pos c1, qkn, qkm]
   have hp : pushB ⟨x.op, x.a, x.n⟩ = pushB x := rfl
   rw [hp]
   refine ⟨EI (T ++ [x.a]), pushB x, rfl, ?_⟩
   cases pushB x <;> simp
  have e2 : (x.op == 1) = false := by simp [c1]
  simp only [e2, cond_false, if_neg c1]
  by_cases c2 : x.n = 0
  ·have e3 : (x.n != 0) = false := by simp [c2]
   simp only [e3, cond_false, if_neg (show ¬ x.n ≠ 0 from fun q => q c2)]
   by_cases c3 : x.op = 2
   ·have e4 : (x.op == 2) = true := by simp [c3]
    simp only [e4, cond_true, if_pos c3]
    by_cases c4 : x.a < 0
    ·rw [if_neg (by omega)]
     exact ⟨[], false, by simp [c4], rfl⟩
    ·rw [if_pos (by omega)]
     have d1 : decide (x.a < 0) = false := by simpa using c4
     by_cases c5 : x.a.toNat < vs.length
     ·have h7 : x.a = ((x.a.toNat : Nat) : Int) := by omega
      have h8 : qay ksV (EV vs) x.a = true := by rw [h7]; exact okV c5
      have h9 : intOf (cellAt (EV vs) x.a 1) = vs[x.a.toNat].ty := by
       have := qv1 c5
       rwa [<- h7] at this
      have d2 : decide (x.a >= (vs.length : Int)) = false := by simp; omega
      rw [List.getElem?_eq_getElem c5]
      simp only [d1, d2, h8, h9, cond_false, cond_true, br_eq, ev_bi_some, ev_br, ev_at, qkn, qkm]
      exact ⟨_, _, rfl, rfl, rfl⟩
     ·rw [List.getElem?_eq_none (by omega)]
      have d2 : decide (x.a >= (vs.length : Int)) = true := by simp; omega
      simp only [d1, d2, cond_false, cond_true, br_eq, ev_bi_some, ev_br, ev_at]
      exact ⟨_, _, rfl, rfl⟩
   have e4 : (x.op == 2) = false := by simp [c3]
   simp only [e4, cond_false, if_neg c3]
   by_cases c4 : x.op = 3
   ·have e5 : (x.op == 3) = true := by simp [c4]
    simp only [e5, cond_true, if_pos c4]
    by_cases g1 : x.a < 5
    ·refine ⟨[], false, by simp [g1], ?_⟩
     unfold qfn
     rw [if_neg (by omega)]; rfl
    by_cases g2 : x.a > 18
    ·refine ⟨[], false, by simp [g1, g2], ?_⟩
     unfold qfn
     rw [if_neg (by omega)]; rfl
    have w1 : IntKind.i64.wrap ((T.length : Int) - 1) = ((T.length - 1 : Nat) : Int) := qmV (k := 1) (by omega) hT
    simp only [g1, g2, decide_false, br_eq, cond_false, ev_bi_some, ev_br, ev_at, w1, Int.toNat_natCast, qaF (Nat.sub_le _ _), Bool.true_and, Bool.and_true, cond_true, Nat.zero_add, Nat.sub_zero, qbq, qtA, qhC]
    by_cases g3 : x.a = 9 \/ x.a = 16
    ·have hy : (bif (x.a == 9) then some true else some (x.a == 16)) = some true := by
      rcases g3 with h | h <;> rw [h] <;> rfl
     have hk : arS x.a = 1 := by simp [arS, g3]
     have hr := qeI (T.drop (T.length - 1)) x.a
     have g4 : decide ((T.length : Int) < 1) = false := by simp; omega
     have g5 : decide (T.length - 1 + 1 <= T.length) = true := decide_eq_true (by omega)
     simp only [hy, ev_bi_some, ev_br, ev_at, cond_true, cond_false, g4, hr, g5, Nat.sub_le, decide_true, Bool.and_self, qkn]
     rw [qsx (by simp) rfl, zad _ (by omega)]
     simp only [cond_true]
     refine ⟨_, _, rfl, ?_⟩
     unfold qfn
     rw [if_pos (by omega), hk]
     cases hq : (qa0 x.a (T.drop (T.length - 1))).2
     ·simp
     ·simp
    ·have hy : (bif (x.a == 9) then some true else some (x.a == 16)) = some false := by
      have a : (x.a == 9) = false := by simpa using fun q => g3 (.inl q)
      have b : (x.a == 16) = false := by simpa using fun q => g3 (.inr q)
      rw [a, b]; rfl
     have hk : arS x.a = 2 := by simp [arS, g3]
     simp only [hy, ev_bi_some, ev_br, ev_at, cond_false]
     by_cases g6 : T.length < 2
     ·have g4 : decide ((T.length : Int) < 2) = true := by simp; omega
      simp only [g4, cond_true]
      refine ⟨_, _, rfl, ?_⟩
      unfold qfn
      rw [if_neg (by omega)]; rfl
     ·have hr := qeI (T.drop (T.length - 2)) x.a
      have g4 : decide ((T.length : Int) < 2) = false := by simp; omega
      have w2 : IntKind.i64.wrap ((T.length : Int) - 2) = ((T.length - 2 : Nat) : Int) := qmV (k := 2) (by omega) hT
      have g5 : decide (T.length - 2 + 1 <= T.length) = true := decide_eq_true (by omega)
      simp only [g4, w2, Int.toNat_natCast, qaF (Nat.sub_le _ _), Bool.true_and, Bool.and_true, cond_true, cond_false, Nat.sub_le, decide_true, Nat.sub_zero, qtA, qhC, hr, ev_bi_some, ev_br, ev_at, g5, Bool.and_self, qkn]
      rw [qsx (by simp) rfl, zad _ (by omega)]
      simp only [cond_true]
      refine ⟨_, _, rfl, ?_⟩
      unfold qfn
      rw [if_pos (by omega), hk]
      cases hq : (qa0 x.a (T.drop (T.length - 2))).2
      ·simp
      ·simp
   have e5 : (x.op == 3) = false := by simp [c4]
   simp only [e5, cond_false, if_neg c4]
   by_cases c5 : x.op = 4
   ·have e6 : (x.op == 4) = true := by simp [c5]
    simp only [e6, cond_true, if_pos c5]
    by_cases c6 : (i : Int) < x.a
    ·have d1 : decide (x.a > (i : Int)) = true := by simpa using c6
     simp only [d1, cond_true]
     by_cases c7 : x.a <= (ins.length : Int)
     ·rw [if_pos ⟨c6, c7⟩]
      exact ⟨_, _, rfl, rfl, by simpa using c7⟩
     ·rw [if_neg (fun q => c7 q.2)]
      exact ⟨_, _, rfl, by simpa using c7⟩
    ·have d1 : decide (x.a > (i : Int)) = false := by simpa using c6
     rw [if_neg (fun q => c6 q.1)]
     simp only [d1, cond_false]
     exact ⟨_, _, rfl, rfl⟩
   have e6 : (x.op == 4) = false := by simp [c5]
   simp only [e6, cond_false, if_neg c5]
   by_cases c6 : x.op = 5
   ·have e7 : (x.op == 5) = true := by simp [c6]
    simp only [e7, cond_true, if_pos c6]
    have hw : IntKind.i64.wrap ((T.length : Int) - 1) = ((T.length - 1 : Nat) : Int) := qmV (k := 1) (by omega) hT
    have hlt : T.length - 1 < T.length := by omega
    have d0 : ((T.length : Int) == 0) = false := by rw [beq_eq_false_iff_ne]; omega
    have q1 : okP [CS.int IntKind.i64] (EI T) (T.length - 1) 0 = true := by rw [qiQ hlt]; rfl
    have q2 : intOf (qaz (EI T) (T.length - 1) 0) = T[T.length - 1] := by rw [qdC hlt]; rfl
    simp only [d0, hw, qaO hlt, Int.toNat_natCast, q1, q2, cond_false, cond_true, br_eq, qaF (Nat.le_of_lt hlt), Bool.and_true, Bool.true_and, Nat.zero_add, Nat.sub_le, decide_true, Nat.sub_zero, qhC, last_at hT0]
    by_cases c8 : T[T.length - 1] = 5
    ·have d1 : (T[T.length - 1] != 5) = false := by simp [c8]
     simp only [d1, cond_false, ev_bi_some, ev_br, ev_at, cond_true]
     have hd : T.take (T.length - 1) = T.dropLast := (List.dropLast_eq_take).symm
     rw [hd]
     rw [qxa (by simp), qxa (by simp)]
     by_cases c9 : (i : Int) < x.a
     ·have d1 : decide (x.a > (i : Int)) = true := by simpa using c9
      simp only [d1, cond_true]
      by_cases c10 : x.a <= (ins.length : Int)
      ·rw [if_pos ⟨by rw [c8], c9, c10⟩]
       exact ⟨_, _, rfl, rfl, by simpa using c10⟩
      ·rw [if_neg (fun q => c10 q.2.2)]
       exact ⟨_, _, rfl, by simpa using c10⟩
     ·have d1 : decide (x.a > (i : Int)) = false := by simpa using c9
      rw [if_neg (fun q => c9 q.2.1)]
      simp only [d1, cond_false, cond_true]
      exact ⟨_, _, rfl, rfl⟩
    ·have d1 : (T[T.length - 1] != 5) = true := by simp [c8]
     simp only [d1, cond_true, ev_bi_some, ev_br, ev_at]
     rw [if_neg (fun q => c8 (by simpa using q.1))]
     exact ⟨_, _, rfl, rfl⟩
   have e7 : (x.op == 5) = false := by simp [c6]
   simp only [e7, cond_false, if_neg c6]
   exact ⟨_, _, rfl, rfl⟩
  ·have e3 : (x.n != 0) = true := by simp [c2]
   simp only [e3, cond_true, if_pos c2]
   exact ⟨_, _, rfl, rfl⟩
theorem qzP {vs : List Va} {N i : Nat} {x : In} {T T' : List Int} {jt : Option Nat} {go : Bool} (h : qcC vs N i x T = some (T', jt, go)) :
  go = (x.op != 4) /\ ((x.op = 4 \/ x.op = 5) /\ jt = some x.a.toNat /\ 0 <= x.a \/ (x.op ≠ 4 /\ x.op ≠ 5) /\ jt = none) := by
 unfold qcC at h
 split at h
 ·rename_i c
  cases hp : pushB x <;> rw [hp] at h
  ·cases h
  ·cases h; rw [c]; exact ⟨rfl, .inr ⟨by omega, rfl⟩⟩
 ·split at h
  ·cases h
  ·split at h
   ·rename_i c
    split at h
    ·split at h
     ·cases h; rw [c]; exact ⟨rfl, .inr ⟨by omega, rfl⟩⟩
     ·cases h
    ·cases h
   ·split at h
    ·rename_i c
     cases ho : qfn x.a T with
     | none => rw [ho] at h; cases h
     | some r => rw [ho] at h; cases h; rw [c]; exact ⟨rfl, .inr ⟨by omega, rfl⟩⟩
    ·split at h
     ·rename_i c
      split at h
      ·cases h; rw [c]; exact ⟨rfl, .inl ⟨.inl rfl, rfl, by omega⟩⟩
      ·cases h
     ·split at h
      ·rename_i c
       split at h
       ·cases h; rw [c]; exact ⟨rfl, .inl ⟨.inr rfl, rfl, by omega⟩⟩
       ·cases h
      ·cases h
abbrev hdR (c : Cd) (i : Nat) (σ : List Sk) (d : Nat) : qcm := ((c.ins.length : Int), (d : Int), (i : Int), c.ty, EV c.vars, EN c.ins, SR σ)
theorem qNo {c : Cd} (hN : c.ins.length <= 100000) (hv : c.vars.length <= 100000) : ∀ (k i : Nat) (σ : List Sk) (d : Nat), i + k = c.ins.length -> qwX σ c.ins.length ->
    ∃ j w, qeN (hdR c i σ d) = some (j, w) /\
      (((qf1 c.vars c.ins.length i (c.ins.drop i) σ d).1 = 9 /\ (j = 0 \/ j = 2)) \/
       ((qf1 c.vars c.ins.length i (c.ins.drop i) σ d).1 = 5 /\ j = 3) \/
       ((qf1 c.vars c.ins.length i (c.ins.drop i) σ d).1 = 0 /\ j = 1 /\ ∃ d', w = hdR c c.ins.length (qf1 c.vars c.ins.length i (c.ins.drop i) σ d).2.1 d' /\ (qf1 c.vars c.ins.length i (c.ins.drop i) σ d).2.2 = max d' (atD (qf1 c.vars c.ins.length i (c.ins.drop i) σ d).2.1 c.ins.length) /\ qwX (qf1 c.vars c.ins.length i (c.ins.drop i) σ d).2.1 c.ins.length)) := by
  intro k
  induction k with
  | zero =>
    intro i σ d hi hσ
    have : i = c.ins.length := by omega
    subst this
    have hs : c.ins.length < σ.length := by rw [hσ.1]; omega
    have hq : σ[c.ins.length]? = some σ[c.ins.length] := List.getElem?_eq_getElem hs
    rw [List.drop_length, qf1]
    have hok : okD σ c.ins.length = (σ[c.ins.length].kn && !σ[c.ins.length].bad) := by unfold okD; rw [hq]
    have hle : decide ((c.ins.length : Int) <= (c.ins.length : Int)) = true := by simp
    cases hb : okD σ c.ins.length
    · refine ⟨0, hdR c c.ins.length σ d, ?_, .inl ⟨rfl, .inl rfl⟩⟩
      rw [qcg, qag (j := 0)]
      simp only [qcs, qcj, hle, Int.toNat_natCast, qaO hs, List.length_map, rO0 hs, r0 hs, r1 hs, ev_br, ev_at, cond_true, br_eq]
      rw [hok] at hb
      cases h1 : σ[c.ins.length].kn
      · rfl
      · rw [h1] at hb
        have : σ[c.ins.length].bad = true := by simpa using hb
        rw [this]; rfl
    · refine ⟨1, hdR c c.ins.length σ d, ?_, .inr (.inr ⟨rfl, rfl, d, rfl, rfl, hσ⟩)⟩
      rw [hok] at hb
      have hkn : σ[c.ins.length].kn = true /\ σ[c.ins.length].bad = false := by simpa using hb
      rw [qcg, qag (j := 1)]
      simp only [qcs, qcj, hle, Int.toNat_natCast, qaO hs, List.length_map, rO0 hs, r0 hs, r1 hs, hkn.1, hkn.2, ev_br, ev_at, ev_bi_some, cond_true, cond_false, br_eq, Bool.not_true, beq_self_eq_true]
  | succ k ih =>
    intro i σ d hi hσ
    have hn : i < c.ins.length := by omega
    have hs : i < σ.length := by rw [hσ.1]; omega
    have hq : σ[i]? = some σ[i] := List.getElem?_eq_getElem hs
    have hT : σ[i].ts.length <= 16 := hσ.2 i _ hq
    rw [drop_at hn, qf1]
    have hle : decide ((i : Int) <= (c.ins.length : Int)) = true := by simp; omega
    have hne : ((i : Int) == (c.ins.length : Int)) = false := by simp; omega
    have hat : atD σ i = σ[i].ts.length := by unfold atD; rw [hq]
    have hone : qtk c.vars c.ins.length i c.ins[i] σ = bif !σ[i].kn || σ[i].bad then ((9 : Int), σ, 0) else match qcC c.vars c.ins.length i c.ins[i] σ[i].ts with
      | none => (9, σ, 0)
      | some (T, jt, go) => if 16 < T.length then (5, σ, 0) else (0, goS (toS σ T jt) T i go, T.length) := by unfold qtk; rw [hq]; rfl
    cases hb : (!σ[i].kn || σ[i].bad)
    · rw [hb, cond_false] at hone
      have hkn : σ[i].kn = true /\ σ[i].bad = false := by simpa using hb
      obtain ⟨A, b, h1, h2⟩ := qtY hn (show σ[i].ts.length <= 100000 by omega) hv hN c.ty
      cases hst : qcC c.vars c.ins.length i c.ins[i] σ[i].ts with
      | none =>
        rw [hst] at h2 hone
        simp only at h2 hone
        refine ⟨2, hdR c i σ d, ?_, .inl ?_⟩
        · rw [qcg, qag (j := 2)]
          simp only [qcs, qcj, hle, hne, Int.toNat_natCast, qaO hs, List.length_map, rO0 hs, r0 hs, r1 hs, r2 hs, hkn.1, hkn.2, h1, h2, ev_br, ev_at, ev_bi_some, cond_true, cond_false, br_eq, Bool.not_true, Bool.not_false]
        · rw [hone]; exact ⟨rfl, .inr rfl⟩
      | some r =>
        obtain ⟨T, jt, go⟩ := r
        rw [hst] at h2 hone
        simp only at h2 hone
        obtain ⟨rfl, rfl⟩ := h2
        by_cases hlen : 16 < T.length
        · rw [if_pos hlen] at hone
          refine ⟨3, hdR c i σ d, ?_, .inr (.inl ?_)⟩
          · rw [qcg, qag (j := 3)]
            have hd : decide ((T.length : Int) > 16) = true := decide_eq_true (by omega)
            simp only [qcs, qcj, hle, hne, Int.toNat_natCast, qaO hs, List.length_map, rO0 hs, r0 hs, r1 hs, r2 hs, hkn.1, hkn.2, h1, hd, ev_br, ev_at, ev_bi_some, cond_true, cond_false, br_eq, Bool.not_true, Bool.not_false]
          · rw [hone]; exact ⟨rfl, rfl⟩
        · rw [if_neg hlen] at hone
          rw [hone]
          have hT16 : T.length <= 16 := by omega
          have hd : decide ((T.length : Int) > 16) = false := decide_eq_false (by omega)
          have hσ1 : qwX (toS σ T jt) c.ins.length := by
            cases jt with
            | none => exact hσ
            | some j => exact qg0 hσ j hT16
          have hσ2 : qwX (goS (toS σ T jt) T i go) c.ins.length := by
            cases go with
            | false => exact hσ1
            | true => exact qg0 hσ1 (i + 1) hT16
          have hstep : (qcs (hdR c i σ d)).ev = some (.next (hdR c (i + 1) (goS (toS σ T jt) T i go) (max d (atD σ i)))) := by
            have hw := qal hn (show c.ins.length <= big by simp only [big]; omega)
            have hlt1 : i + 1 < σ.length := by rw [hσ.1]; omega
            have mt : ∀ {τ : List Sk} {j : Nat} (hj : j < τ.length), qwX τ c.ins.length -> qfb τ[j].kn τ[j].bad (EI τ[j].ts) (EI T) = some ((qci τ[j] T).kn, (qci τ[j] T).bad, EI (qci τ[j] T).ts) := by
              intro τ j hj hτ
              exact qxz (by have := hτ.2 j _ (List.getElem?_eq_getElem hj); omega) (by omega)
            have st : ∀ {τ : List Sk} {j : Nat} (hj : j < τ.length), qfu (SR τ) j 0 [.bool (qci τ[j] T).kn, .bool (qci τ[j] T).bad, .view 1 (EI (qci τ[j] T).ts)] = SR (qeX τ j T) := by
              intro τ j hj
              rw [qpG hj]
              exact zdp hj _ _ _
            simp only [qcs, qcj, hle, hne, okN hn, qn0 hn, qn1 hn, Int.toNat_natCast, qaO hs, List.length_map, rO0 hs, r0 hs, r1 hs, r2 hs, hkn.1, hkn.2, h1, hd, ev_br, ev_at, ev_bi_some, cond_true, cond_false, br_eq, Bool.not_true, Bool.not_false, hw, List.length_map, q4p, hat]
            obtain ⟨rfl, h5⟩ := qzP hst
            generalize hx : c.ins[i] = x at h5 hst
            rcases h5 with ⟨h6, rfl, h7⟩ | ⟨⟨h6, h7⟩, rfl⟩
            · have h8 : (bif (x.op == 4) then some true else some (x.op == 5)) = some true := by
                rcases h6 with h | h <;> rw [h] <;> rfl
              have hj := qJt hst
              have hlj : x.a.toNat < σ.length := by rw [hσ.1]; omega
              have ha : x.a = ((x.a.toNat : Nat) : Int) := by omega
              have hI : inB σ.length x.a = true := by rw [ha]; exact qaO hlj
              simp only [h8, ev_bi_some, ev_br, ev_at, cond_true, hI, rO0 hlj, r0 hlj, r1 hlj, r2 hlj, mt hlj hσ, rS hlj, st hlj, toS]
              rcases h6 with h | h
              · have e1 : (x.op != 4) = false := by simp [h]
                simp only [e1, cond_false, ev_br, ev_at]
                rfl
              · have e1 : (x.op != 4) = true := by simp [h]
                have hl2 : i + 1 < (qeX σ x.a.toNat T).length := by rw [qgZ]; exact hlt1
                have hσ3 : qwX (qeX σ x.a.toNat T) c.ins.length := hσ1
                have hI2 : inB (qeX σ x.a.toNat T).length ((i + 1 : Nat) : Int) = true := qaO hl2
                simp only [e1, cond_true, ev_br, ev_at, hI2, rO0 hl2, r0 hl2, r1 hl2, r2 hl2, mt hl2 hσ3, rS hl2, st hl2, ev_bi_some, goS, List.length_map]
            · have e1 : (x.op != 4) = true := by simp [h6]
              have h8 : (bif (x.op == 4) then some true else some (x.op == 5)) = some false := by
                rw [show (x.op == 4) = false by simpa using h6, show (x.op == 5) = false by simpa using h7]; rfl
              have hI2 : inB σ.length ((i + 1 : Nat) : Int) = true := qaO hlt1
              simp only [h8, ev_bi_some, ev_br, ev_at, cond_false, cond_true, e1, hI2, rO0 hlt1, r0 hlt1, r1 hlt1, r2 hlt1, mt hlt1 hσ, rS hlt1, st hlt1, toS, goS]
          obtain ⟨j, w, h3, h4⟩ := ih (i + 1) (goS (toS σ T jt) T i go) (max d (atD σ i)) (by omega) hσ2
          refine ⟨j, w, ?_, ?_⟩
          · rw [qcg] at h3 ⊢
            rw [qaw hstep]; exact h3
          · exact h4
    · rw [hb, cond_true] at hone
      refine ⟨0, hdR c i σ d, ?_, .inl ?_⟩
      · rw [qcg, qag (j := 0)]
        simp only [qcs, qcj, hle, Int.toNat_natCast, qaO hs, List.length_map, rO0 hs, r0 hs, r1 hs, ev_br, ev_at, ev_bi_some, br_eq, cond_true, cond_false]
        cases hk : σ[i].kn
        · rfl
        · rw [hk] at hb
          have : σ[i].bad = true := by simpa using hb
          simp [this]
      · rw [hone]; exact ⟨rfl, .inl rfl⟩
theorem quH {c : Cd} (hv : c.vars.length <= 100000) : qlj c.ty (EV c.vars) (EN c.ins) = some ((qtl c).1, (qtl c).2) := by
 rw [qyV, qkd, <- q2y]
 unfold zbl
 simp only [List.length_map, qk7 (show c.vars.length <= big by simp only [big]; omega), ev_br, ev_at, ev_bi_some]
 by_cases h : c.ins.length > 128
 ·rw [if_pos h, show decide ((c.ins.length : Int) > 128) = true by simp; omega]; rfl
 ·rw [if_neg h, show decide ((c.ins.length : Int) > 128) = false by simp; omega]
  simp only [cond_false]
  cases h1 : (qdv c.vars != 0)
  ·have hN : c.ins.length <= 100000 := by omega
   have hR : List.replicate (c.ins.length + 1) (AV.agg [AV.bool false, AV.bool false, AV.view 1 []]) = SR (List.replicate (c.ins.length + 1) un) := by
    have := (List.map_replicate (f := skR) (n := c.ins.length + 1) (a := un)).symm
    exact this
   have h0 : 0 < (List.replicate (c.ins.length + 1) un).length := by simp
   have hset : qfu (SR (List.replicate (c.ins.length + 1) un)) 0 0 [.bool true] = SR (sk0 c.ins.length) := by
    rw [qiC (y := ⟨true, false, []⟩) h0]
    ·simp [List.replicate_succ, sk0]
    ·simp; rfl
   have hin : inB (SR (List.replicate (c.ins.length + 1) un)).length 0 = true := rIn h0
   simp only [qV9 hN (show 32 <= 1000 by omega), cond_false, cond_true]
   simp only [wrapN hN, Int.toNat_natCast, hR, hin, rS1 h0, hset, cond_false, cond_true]
   obtain ⟨j, w, h2, h3⟩ := qNo hN hv c.ins.length 0 (sk0 c.ins.length) 0 (by omega) (qTu _)
   have h2' : qeN ((c.ins.length : Int), 0, 0, c.ty, EV c.vars, EN c.ins, SR (sk0 c.ins.length)) = some (j, w) := h2
   rw [h2']
   simp only [List.drop_zero] at h3
   generalize qf1 c.vars c.ins.length 0 c.ins (sk0 c.ins.length) 0 = W at h3 ⊢
   rcases h3 with ⟨h4, h5⟩ | ⟨h4, rfl⟩ | ⟨h4, rfl, d', rfl, h5, h6⟩
   ·rw [h4]
    rcases h5 with rfl | rfl <;> simp (decide := true) only [pj_some, if_true, if_false, ev_bi_none, ev_bi_some, ev_at] <;> rfl
   ·rw [h4]
    simp (decide := true) only [pj_some, if_true, if_false, ev_bi_none, ev_bi_some, ev_at]
    rfl
   ·obtain ⟨W1, σ, dd⟩ := W
    simp only at h4 h5 h6 ⊢
    subst h4
    have hs : c.ins.length < σ.length := by rw [h6.1]; omega
    have hq : σ[c.ins.length]? = some σ[c.ins.length] := List.getElem?_eq_getElem hs
    have hat : atD σ c.ins.length = σ[c.ins.length].ts.length := by unfold atD; rw [hq]
    have htb : tsB c σ = (σ[c.ins.length].ts == [c.ty]) := by unfold tsB; rw [hq]
    have hsz := h6.2 _ _ hq
    have hsame := qf4 (a := σ[c.ins.length].ts) (b := [c.ty]) (by simp only [big]; omega)
    have hsame' : qgV (EI σ[c.ins.length].ts) [AV.int IntKind.i64 c.ty] = some (σ[c.ins.length].ts == [c.ty]) := hsame
    simp (decide := true) only [pj_some, if_true, if_false, ev_bi_none, ev_bi_some, ev_at, ev_br, Int.toNat_natCast, qaO hs, rO2 hs, r2 hs, hsame', cond_true, htb, List.length_map, q4p, h5, hat, bne_self_eq_false, cond_false]
    cases (σ[c.ins.length].ts == [c.ty]) <;> rfl
  ·rfl
theorem qzj {c : Cd} (hv : c.vars.length <= 100000) : qn7 c.ty (EV c.vars) (EN c.ins) = some (qtl c).2 := by
 rw [qEK, qqZ, quH hv]; rfl
end Go.Proofs.H13

/- Code: what the printed functions that examine code come to. -/
import Derived.Test.YtigchhcddgibhaaGreatDoorX13Typ
import Derived.Test.YtigchhcddgibhaaGreatDoorCdB
set_option linter.unusedVariables false
set_option linter.unusedSimpArgs false
set_option linter.unnecessarySimpa false
namespace Go.Proofs.H13
open Go Go.Eng Go.Tk
set_option maxRecDepth 20000
def skA (s : Sk) : AV := .agg [.bool s.kn, .view 1 (EI s.ts)]
abbrev SK (σ : List Sk) : List AV := σ.map skA
abbrev CL (σ : List Sk) : List AV := σ.map (fun s => AV.bool s.bad)
def skR (s : Sk) : AV := .agg [.bool s.kn, .bool s.bad, .view 1 (EI s.ts)]
abbrev SR (σ : List Sk) : List AV := σ.map skR
section
variable {σ : List Sk} {n : Nat}
theorem rIn (h : n < σ.length) : inB (SR σ).length (n : Int) = true := qaO (by simpa using h)
theorem kO0 (h : n < σ.length) : okP [CS.bool] (SK σ) n 0 = true := by rw [qiQ h]; rfl
theorem kO1 (h : n < σ.length) : okP [CS.slice 1] (SK σ) n 1 = true := by rw [qiQ h]; rfl
theorem cO0 (h : n < σ.length) : okP [CS.bool] (CL σ) n 0 = true := by rw [qiQ h]; rfl
theorem rO0 (h : n < σ.length) : okP [CS.bool, CS.bool, CS.slice 1] (SR σ) n 0 = true := by rw [qiQ h]; rfl
theorem rO2 (h : n < σ.length) : okP [CS.slice 1] (SR σ) n 2 = true := by rw [qiQ h]; rfl
theorem k0 (h : n < σ.length) : qbH (qaz (SK σ) n 0) = σ[n].kn := by rw [qdC h]; rfl
theorem k1 (h : n < σ.length) : qaj (qaz (SK σ) n 1) = EI σ[n].ts := by rw [qdC h]; rfl
theorem c0 (h : n < σ.length) : qbH (qaz (CL σ) n 0) = σ[n].bad := by rw [qdC h]; rfl
theorem r0 (h : n < σ.length) : qbH (qaz (SR σ) n 0) = σ[n].kn := by rw [qdC h]; rfl
theorem r1 (h : n < σ.length) : qbH (qaz (SR σ) n 1) = σ[n].bad := by rw [qdC h]; rfl
theorem r2 (h : n < σ.length) : qaj (qaz (SR σ) n 2) = EI σ[n].ts := by rw [qdC h]; rfl
theorem kS (h : n < σ.length) : okS (SK σ) n 0 2 = true := by rw [qnk h]; rfl
theorem cS (h : n < σ.length) : okS (CL σ) n 0 1 = true := by rw [qnk h]; rfl
theorem rS (h : n < σ.length) : okS (SR σ) n 0 3 = true := by rw [qnk h]; rfl
theorem rS1 (h : n < σ.length) : okS (SR σ) n 0 1 = true := by rw [qnk h]; rfl
theorem zat (h : n < σ.length) (T : List Int) (b : Bool) : qfu (SK σ) n 0 [.bool true, .view 1 (EI T)] = SK (σ.set n ⟨true, b, T⟩) := qiC h rfl
theorem zbz (h : n < σ.length) (k : Bool) (T : List Int) : qfu (CL σ) n 0 [.bool true] = CL (σ.set n ⟨k, true, T⟩) := qiC h rfl
theorem zdp (h : n < σ.length) (k b : Bool) (T : List Int) : qfu (SR σ) n 0 [.bool k, .bool b, .view 1 (EI T)] = SR (σ.set n ⟨k, b, T⟩) := qiC h rfl
theorem qfm {β : Type} {f : Sk -> β} (h : n < σ.length) {y : Sk} (hy : f y = f σ[n]) : (σ.set n y).map f = σ.map f := by
 rw [List.map_set, hy]
 apply List.ext_getElem?
 intro j
 rw [List.getElem?_set]
 by_cases e : n = j
 ·subst e; simp [h]
 ·simp [e]
theorem qpG (h : n < σ.length) (T : List Int) : qeX σ n T = σ.set n (qci σ[n] T) := by
 apply List.ext_getElem?
 intro j
 rw [qdq, List.getElem?_set]
 by_cases e : n = j
 ·subst e; simp [h]
 ·rw [if_neg (fun q => e q.symm), if_neg e]
end
theorem qQu {α : Type} [BEq α] [LawfulBEq α] : ∀ {a b : List α}, a.length = b.length -> (List.range a.length).any (fun n => a[n]? != b[n]?) = !(a == b)
 | a, b, h => by
  by_cases e : a = b
  ·subst e; simp
  ·have h1 : (a == b) = false := by simpa using e
   rw [h1]
   rw [List.any_eq_true.2]
   ·rfl
   ·apply Classical.byContradiction
    intro hc
    apply e
    apply List.ext_getElem?
    intro j
    by_cases hj : j < a.length
    ·apply Classical.byContradiction
     intro hne
     exact hc ⟨j, by simpa using hj, by simpa using hne⟩
    ·rw [List.getElem?_eq_none (by omega), List.getElem?_eq_none (by omega)]
theorem qkB {a b : List Int} (ha : a.length <= big) : qnM (EI a) (EI b) = some (a == b) := by
 rw [qDV, qqa, List.length_map, List.length_map]
 by_cases hl : a.length = b.length
 ·have hloop : qrV (EI a, EI b, (a.length : Int), 0) = some (qf0 (fun n => a[n]? != b[n]?) (fun _ => 0) 1 (List.range a.length), EI a, EI b, (a.length : Int), (((List.range a.length).findIdx (fun n => a[n]? != b[n]?) : Nat) : Int)) := by
   rw [qrW]
   refine qb1 a.length (hd := fun i => (EI a, EI b, (a.length : Int), (i : Int))) _ (fun _ => 0) 1 (fun i hn => ?_) ?_
   ·have hn' : i < b.length := by omega
    simp only [qmj, qmk, qar hn, okI hn, okI hn', qi0 hn, qi0 hn', ev_br, ev_at, cond_true, qal hn ha]
    have : (a[i]? != b[i]?) = (a[i] != b[i]) := by rw [List.getElem?_eq_getElem hn, List.getElem?_eq_getElem hn']; simp [bne]
    rw [this]
    cases (a[i] != b[i]) <;> rfl
   ·simp [qmj, qmk]
  rw [hloop, qaE, qQu hl]
  have : ((a.length : Int) != (b.length : Int)) = false := by simp [hl]
  rw [this]
  cases (a == b) <;> rfl
 ·have h1 : ((a.length : Int) != (b.length : Int)) = true := by simp; omega
  have h2 : (a == b) = false := by
   rw [beq_eq_false_iff_ne]; intro e; exact hl (by rw [e])
  rw [h1, h2]; rfl
theorem qf4 {a b : List Int} (ha : a.length <= big) : qgV (EI a) (EI b) = some (a == b) := by
 rw [qEL, qq0, List.length_map, List.length_map]
 by_cases hl : a.length = b.length
 ·have hloop : qr8 (EI a, EI b, 0) = some (qf0 (fun n => a[n]? != b[n]?) (fun _ => 0) 1 (List.range a.length), EI a, EI b, (((List.range a.length).findIdx (fun n => a[n]? != b[n]?) : Nat) : Int)) := by
   rw [qr9]
   refine qb1 a.length (hd := fun i => (EI a, EI b, (i : Int))) _ (fun _ => 0) 1 (fun i hn => ?_) ?_
   ·have hn' : i < b.length := by omega
    simp only [qmA, qmB, List.length_map, qar hn, okI hn, okI hn', qi0 hn, qi0 hn', ev_br, ev_at, cond_true, qal hn ha]
    have : (a[i]? != b[i]?) = (a[i] != b[i]) := by rw [List.getElem?_eq_getElem hn, List.getElem?_eq_getElem hn']; simp [bne]
    rw [this]
    cases (a[i] != b[i]) <;> rfl
   ·simp [qmA, qmB]
  rw [hloop, qaE, qQu hl]
  have : ((a.length : Int) != (b.length : Int)) = false := by simp [hl]
  rw [this]
  cases (a == b) <;> rfl
 ·have h1 : ((a.length : Int) != (b.length : Int)) = true := by simp; omega
  have h2 : (a == b) = false := by
   rw [beq_eq_false_iff_ne]; intro e; exact hl (by rw [e])
  rw [h1, h2]; rfl
theorem q1E {n : Nat} (h : n <= 100000) : decide (n * 8 <= lim) = true := by
 rw [decide_eq_true_eq]; simp only [lim]; omega
theorem qWn {n : Nat} (h : n <= 100000) : room n 8 = true := q1E h
theorem qfx {σ : List Sk} {jt : Nat} (h : jt < σ.length) {T : List Int} (hT : T.length <= 100000) (hσ : σ[jt].ts.length <= 100000) (ty : Int) (V I : List AV) (d : Int) :
  qgU (jt : Int) (EI T) ty V I d (SK σ) (CL σ) = some (ty, V, I, d, SK (qeX σ jt T), CL (qeX σ jt T)) := by
 rw [qD1, qqg, qpG h]
 simp only [Int.toNat_natCast, qaO h, kO0 h, kO1 h, k0 h, k1 h, cS h, kS h, qkB (show σ[jt].ts.length <= big by simp only [big]; omega), ev_br, ev_at, cond_true, sm_some, gv_some, br_eq, List.length_map]
 have hc : ∀ k : Bool, CL (σ.set jt ⟨k, σ[jt].bad, T⟩) = CL σ := fun k => qfm h rfl
 have hE : EI ([] : List Int) = [] := rfl
 cases hk : σ[jt].kn
 ·have hm : qci σ[jt] T = ⟨true, σ[jt].bad, T⟩ := by unfold qci; rw [hk]; rfl
  rw [hm, hc]
  cases T with
  | nil =>
   have := zat h [] σ[jt].bad
   rw [hE] at this
   simp [this]
  | cons t T =>
   have := zat h (t :: T) σ[jt].bad
   have h8 := q1E hT
   simp only [decide_eq_true_eq, List.length_cons] at h8
   simp [-List.map_cons, this, h8]
 ·have hm : qci σ[jt] T = ⟨true, σ[jt].bad || σ[jt].ts != T, σ[jt].ts⟩ := by unfold qci; rw [hk]; rfl
  rw [hm]
  have hs : SK (σ.set jt ⟨true, σ[jt].bad || σ[jt].ts != T, σ[jt].ts⟩) = SK σ := qfm h (by simp only [skA, hk])
  rw [hs]
  cases he : (σ[jt].ts == T)
  ·have hb : (σ[jt].bad || σ[jt].ts != T) = true := by simp [bne, he]
   rw [hb, <- zbz h true σ[jt].ts]
   simp
  ·have hb : (σ[jt].bad || σ[jt].ts != T) = σ[jt].bad := by simp [bne, he]
   rw [hb]
   have : CL (σ.set jt ⟨true, σ[jt].bad, σ[jt].ts⟩) = CL σ := qfm h rfl
   rw [this]
   simp
theorem qza (o a n : Int) : qnX o a n = some (pushB ⟨o, a, n⟩) := by
 rw [qEi, qqx]
 unfold pushB
 by_cases h1 : a = 1
 ·subst h1; rfl
 by_cases h2 : a = 2
 ·subst h2; cases h : decide (0 <= n) <;> simp at h <;> simp [h]
 by_cases h3 : a = 3
 ·subst h3; cases h : decide (0 <= n) <;> simp at h <;> simp [h]
 simp [h1, h2, h3]
theorem qk8 (o a n : Int) : qhQ o a n = some (pushB ⟨o, a, n⟩) := by
 rw [qyF, qjX]
 unfold pushB
 by_cases h1 : a = 1
 ·subst h1; rfl
 by_cases h2 : a = 2
 ·subst h2; cases h : decide (0 <= n) <;> simp at h <;> simp [h]
 by_cases h3 : a = 3
 ·subst h3; cases h : decide (0 <= n) <;> simp at h <;> simp [h]
 simp [h1, h2, h3]
theorem qmV {n k : Nat} (h : k <= n) (hn : n <= 100000) : IntKind.i64.wrap ((n : Int) - (k : Nat)) = ((n - k : Nat) : Int) := by
 rw [wrap64 (by omega) (by omega)]; omega
theorem qtA (T : List Int) (n : Nat) : (EI T).drop n = EI (T.drop n) := by simp [List.map_drop]
theorem qhC (T : List Int) (n : Nat) : (EI T).take n = EI (T.take n) := by simp [List.map_take]
theorem qkm (a b : List Int) : EI a ++ EI b = EI (a ++ b) := by simp
theorem qkn (a : Int) : [AV.int .i64 a] = EI [a] := rfl
theorem qzl {T : List Int} (hT : T.length <= 100000) (o : Int) : ∃ A b, qrO o (EI T) = some (A, b) /\ match qfn o T with
    | some T' => A = EI T' /\ b = true
    | none => b = false := by
  have key : ∀ k : Nat, k = 1 \/ k = 2 -> arS o = k -> ∃ A b, (DT.bi (br (decide (o < 5)) (some true) (some (decide (o > 18)))) (fun y1 =>
      .bi (br y1 (some true) (some (decide (IntKind.i64.wrap (((EI T).length : Int) - ((k : Nat) : Int)) < 0)))) (fun y2 =>
       .br (y2) (.at (([], false)))
        (.br (leB (IntKind.i64.wrap (((EI T).length : Int) - ((k : Nat) : Int))) (EI T).length)
         (.bi (qb4 o (List.drop (IntKind.i64.wrap (((EI T).length : Int) - ((k : Nat) : Int))).toNat (EI T))) (fun y3 =>
          .br (leB (IntKind.i64.wrap (((EI T).length : Int) - ((k : Nat) : Int))) (EI T).length && true)
           (.br (decide ((List.take (IntKind.i64.wrap (((EI T).length : Int) - ((k : Nat) : Int))).toNat (EI T)).length = 0))
            (.at (([AV.int IntKind.i64 y3.fst], y3.snd)))
            (.br (decide ((List.take (IntKind.i64.wrap (((EI T).length : Int) - ((k : Nat) : Int))).toNat (EI T)).length ≠ 0) && decide ((List.take (IntKind.i64.wrap (((EI T).length : Int) - ((k : Nat) : Int))).toNat (EI T)).length * 8 <= lim))
             (.br (room ((List.take (IntKind.i64.wrap (((EI T).length : Int) - ((k : Nat) : Int))).toNat (EI T)).length + 1) 8)
              (.at ((List.take (IntKind.i64.wrap (((EI T).length : Int) - ((k : Nat) : Int))).toNat (EI T) ++ [AV.int IntKind.i64 y3.fst], y3.snd)))
              (.no))
             (.no)))
           (.no)) (.no)) (.no))) (.no)) (.no) : DT qCb).ev = some (A, b) /\ match qfn o T with
      | some T' => A = EI T' /\ b = true
      | none => b = false := by
    intro k hk hk2
    unfold qfn
    rw [hk2, List.length_map]
    by_cases h1 : o < 5
    · rw [if_neg (by omega)]
      refine ⟨[], false, ?_, rfl⟩
      simp [h1]
    by_cases h2 : o > 18
    · rw [if_neg (by omega)]
      refine ⟨[], false, ?_, rfl⟩
      simp [h1, h2]
    by_cases h3 : k <= T.length
    · rw [if_pos (by omega)]
      have hw : IntKind.i64.wrap ((T.length : Int) - ((k : Nat) : Int)) = ((T.length - k : Nat) : Int) := qmV h3 hT
      rw [hw]
      have hr := qhZ (l := T.drop (T.length - k)) (by simp [big]; omega) o
      simp only [Int.toNat_natCast, qtA, qhC, hr, h1, h2, decide_false, decide_true, br_eq, cond_false, cond_true, ev_bi_some, ev_br, ev_at, qaF (show T.length - k <= T.length by omega), List.length_map, List.length_take, Nat.min_eq_left (show T.length - k <= T.length by omega), show decide (((T.length - k : Nat) : Int) < 0) = false from decide_eq_false (by omega), Bool.true_and, Bool.and_true, qkn, qkm]
      by_cases h4 : T.length - k = 0
      · simp only [h4, decide_true, cond_true]
        refine ⟨_, _, rfl, ?_⟩
        cases hq : (qa0 o (T.drop 0)).2
        · simp [hq]
        · simp [hq]
      · have h5 := q1E (show T.length - k <= 100000 by omega)
        have h6 := qWn (show T.length - k + 1 <= 100000 by omega)
        simp only [h4, h5, h6, decide_false, cond_false, cond_true, ne_eq, not_false_eq_true, decide_true, Bool.true_and]
        refine ⟨_, _, rfl, ?_⟩
        cases hq : (qa0 o (T.drop (T.length - k))).2
        · simp [hq]
        · simp [hq]
    · rw [if_neg (by omega)]
      refine ⟨[], false, ?_, rfl⟩
      have hw : IntKind.i64.wrap ((T.length : Int) - ((k : Nat) : Int)) = (T.length : Int) - (k : Int) := wrap64 (by omega) (by omega)
      rw [hw]
      simp only [h1, h2, decide_false, decide_true, br_eq, cond_false, cond_true, ev_bi_some, ev_br, ev_at, show decide ((T.length : Int) - (k : Int) < 0) = true from decide_eq_true (by omega)]
  rw [qEO, qq3]
  by_cases h9 : o = 9 \/ o = 16
  · have e : br (o == 9) (some true) (some (o == 16)) = some true := by
      rcases h9 with rfl | rfl <;> rfl
    rw [e]
    exact key 1 (.inl rfl) (by simp [arS, h9])
  · have e : br (o == 9) (some true) (some (o == 16)) = some false := by
      have a : (o == 9) = false := by simpa using fun q => h9 (.inl q)
      have b : (o == 16) = false := by simpa using fun q => h9 (.inr q)
      rw [a, b]; rfl
    rw [e]
    exact key 2 (.inr rfl) (by simp [arS, h9])
def jtI : Option Nat -> Int
 | some j => (j : Int)
 | none => -1
theorem last_at {T : List Int} (h : T.length ≠ 0) : T.getLast? = some T[T.length - 1] := by
 rw [List.getLast?_eq_getElem?, List.getElem?_eq_getElem]
theorem qxB {vs : List Va} {ins : List In} {σ : List Sk} {i : Nat} (hi : i < ins.length) (hs : i < σ.length) (hT : σ[i].ts.length <= 100000) (hv : vs.length <= 100000) (hN : ins.length <= 100000) (ty d : Int) :
  ∃ A t g b, qaS (i : Int) ty (EV vs) (EN ins) d (SK σ) (CL σ) = some (A, t, g, b, ty, EV vs, EN ins, d, SK σ, CL σ) /\ match qcC vs ins.length i ins[i] σ[i].ts with
   | some (T, jt, go) => A = EI T /\ t = jtI jt /\ g = go /\ b = true
   | none => b = false := by
 rw [qD2, qqh]
 have hs' : inB σ.length (i : Int) = true := qaO hs
 simp only [okN hi, qn0 hi, qn1 hi, qn2 hi, hs', kO1 hs, k1 hs, Int.toNat_natCast, ev_br, cond_true, List.length_map]
 generalize hx : ins[i] = x
 generalize hTT : σ[i].ts = T at hT
 unfold qcC
 by_cases c1 : x.op = 1
 ·have e1 : (x.op != 1) = false := by simp [c1]
  have e2 : (x.op == 1) = true := by simp [c1]
  simp only [e1, e2, br_eq, cond_false, cond_true, ev_bi_some, ev_br, ev_at, qza, if_pos c1, qkn, qkm]
  have hp : pushB ⟨x.op, x.a, x.n⟩ = pushB x := rfl
  rw [hp]
  by_cases c : T.length = 0
  ·have : T = [] := List.length_eq_zero_iff.1 c
   subst this
   refine ⟨EI [x.a], -1, true, pushB x, by simp, ?_⟩
   cases pushB x <;> simp [jtI]
  ·have h5 := q1E hT
   simp only [decide_eq_true_eq] at h5
   have h6 : room (T.length + 1) 8 = true := qcA (by simp only [lim]; omega)
   refine ⟨EI (T ++ [x.a]), -1, true, pushB x, by simp [c, h5, h6], ?_⟩
   cases pushB x <;> simp [jtI]
 have e1 : (x.op != 1) = true := by simp [c1]
 have e2 : (x.op == 1) = false := by simp [c1]
 simp only [e1, e2, br_eq, cond_false, cond_true, ev_bi_some, ev_br, ev_at, if_neg c1]
 by_cases c2 : x.n = 0
 ·have e3 : (x.n != 0) = false := by simp [c2]
  simp only [e3, cond_false, if_neg (show ¬ x.n ≠ 0 from fun q => q c2)]
  by_cases c3 : x.op = 2
  ·have e4 : (x.op == 2) = true := by simp [c3]
   simp only [e4, cond_true, if_pos c3]
   by_cases c4 : x.a < 0
   ·rw [if_neg (by omega)]
    exact ⟨[], -1, false, false, by simp [c4], rfl⟩
   ·rw [if_pos (by omega)]
    by_cases c5 : x.a.toNat < vs.length
    ·have h7 : x.a = ((x.a.toNat : Nat) : Int) := by omega
     have h8 : qay ksV (EV vs) x.a = true := by rw [h7]; exact okV c5
     have h9 : intOf (cellAt (EV vs) x.a 1) = vs[x.a.toNat].ty := by
      have := qv1 c5
      rwa [<- h7] at this
     have d1 : decide (x.a < 0) = false := by simpa using c4
     have d2 : decide (x.a >= (vs.length : Int)) = false := by simp; omega
     rw [List.getElem?_eq_getElem c5]
     simp only [d1, d2, h8, h9, cond_false, cond_true, qkn, qkm]
     by_cases c : T.length = 0
     ·have : T = [] := List.length_eq_zero_iff.1 c
      subst this
      exact ⟨_, _, _, _, rfl, rfl, rfl, rfl, rfl⟩
     ·have h5 := q1E hT
      have h6 : room (T.length + 1) 8 = true := qcA (by simp only [lim]; omega)
      simp only [c, h5, h6, decide_false, cond_false, cond_true, ne_eq, not_false_eq_true, decide_true, Bool.true_and]
      exact ⟨_, _, _, _, rfl, rfl, rfl, rfl, rfl⟩
    ·rw [List.getElem?_eq_none (by omega)]
     have d1 : decide (x.a < 0) = false := by simpa using c4
     have d2 : decide (x.a >= (vs.length : Int)) = true := by simp; omega
     simp only [d1, d2, cond_false, cond_true]
     exact ⟨_, _, _, _, rfl, rfl⟩
  have e4 : (x.op == 2) = false := by simp [c3]
  simp only [e4, cond_false, if_neg c3]
  by_cases c4 : x.op = 3
  ·have e5 : (x.op == 3) = true := by simp [c4]
   obtain ⟨A, b, h1, h2⟩ := qzl hT x.a
   simp only [e5, cond_true, if_pos c4, h1]
   refine ⟨A, -1, true, b, rfl, ?_⟩
   cases ho : qfn x.a T with
   | none => rw [ho] at h2; simpa using h2
   | some T' => rw [ho] at h2; simpa [jtI] using h2
  have e5 : (x.op == 3) = false := by simp [c4]
  simp only [e5, cond_false, if_neg c4]
  by_cases c5 : x.op = 4
  ·have e6 : (x.op == 4) = true := by simp [c5]
   simp only [e6, cond_true, if_pos c5]
   by_cases c6 : (i : Int) < x.a
   ·have d1 : decide (x.a > (i : Int)) = true := by simpa using c6
    simp only [d1, cond_true]
    by_cases c7 : x.a <= (ins.length : Int)
    ·rw [if_pos ⟨c6, c7⟩]
     exact ⟨_, _, _, _, rfl, rfl, by simp only [jtI]; omega, rfl, by simpa using c7⟩
    ·rw [if_neg (fun q => c7 q.2)]
     exact ⟨_, _, _, _, rfl, by simpa using c7⟩
   ·have d1 : decide (x.a > (i : Int)) = false := by simpa using c6
    rw [if_neg (fun q => c6 q.1)]
    simp only [d1, cond_false]
    exact ⟨_, _, _, _, rfl, rfl⟩
  have e6 : (x.op == 4) = false := by simp [c5]
  simp only [e6, cond_false, if_neg c5]
  by_cases c6 : x.op = 5
  ·have e7 : (x.op == 5) = true := by simp [c6]
   simp only [e7, cond_true, if_pos c6]
   by_cases c7 : T.length = 0
   ·have : T = [] := List.length_eq_zero_iff.1 c7
    subst this
    exact ⟨_, _, _, _, rfl, by simp⟩
   ·have hw : IntKind.i64.wrap ((T.length : Int) - 1) = ((T.length - 1 : Nat) : Int) := qmV (k := 1) (by omega) hT
    have hlt : T.length - 1 < T.length := by omega
    have d0 : ((T.length : Int) == 0) = false := by rw [beq_eq_false_iff_ne]; omega
    simp only [d0, hw, okI hlt, qi0 hlt, cond_false, cond_true, qaF (Nat.le_of_lt hlt), Bool.and_true, Int.toNat_natCast, qhC, last_at c7]
    by_cases c8 : T[T.length - 1] = 5
    ·have d1 : (T[T.length - 1] != 5) = false := by simp [c8]
     simp only [d1, cond_false, ev_bi_some, ev_br, ev_at]
     have hd : T.take (T.length - 1) = T.dropLast := (List.dropLast_eq_take).symm
     rw [hd]
     by_cases c9 : (i : Int) < x.a
     ·have d1 : decide (x.a > (i : Int)) = true := by simpa using c9
      simp only [d1, cond_true]
      by_cases c10 : x.a <= (ins.length : Int)
      ·rw [if_pos ⟨by rw [c8], c9, c10⟩]
       exact ⟨_, _, _, _, rfl, rfl, by simp only [jtI]; omega, rfl, by simpa using c10⟩
      ·rw [if_neg (fun q => c10 q.2.2)]
       exact ⟨_, _, _, _, rfl, by simpa using c10⟩
     ·have d1 : decide (x.a > (i : Int)) = false := by simpa using c9
      rw [if_neg (fun q => c9 q.2.1)]
      simp only [d1, cond_false]
      exact ⟨_, _, _, _, rfl, rfl⟩
    ·have d1 : (T[T.length - 1] != 5) = true := by simp [c8]
     simp only [d1, cond_true, ev_bi_some, ev_br, ev_at]
     rw [if_neg (fun q => c8 (by simpa using q.1))]
     exact ⟨_, _, _, _, rfl, rfl⟩
  have e7 : (x.op == 5) = false := by simp [c6]
  simp only [e7, cond_false, if_neg c6]
  exact ⟨_, _, _, _, rfl, rfl⟩
 ·have e3 : (x.n != 0) = true := by simp [c2]
  simp only [e3, cond_true, if_pos c2]
  exact ⟨_, _, _, _, rfl, rfl⟩
abbrev qwX (σ : List Sk) (N : Nat) : Prop := σ.length = N + 1 /\ ∀ (j : Nat) (s : Sk), σ[j]? = some s -> s.ts.length <= 16
theorem qg0 {σ : List Sk} {N : Nat} (h : qwX σ N) (j : Nat) {T : List Int} (hT : T.length <= 16) : qwX (qeX σ j T) N := by
 refine ⟨by rw [qgZ]; exact h.1, fun k s hs => ?_⟩
 rw [qdq] at hs
 split at hs
 ·cases hq : σ[k]? with
  | none => rw [hq] at hs; cases hs
  | some s0 =>
   rw [hq] at hs
   simp only [Option.map_some, Option.some.injEq] at hs
   subst hs
   have := h.2 k s0 hq
   unfold qci
   cases s0.kn
   ·exact hT
   ·exact this
 ·exact h.2 k s hs
abbrev hdW (c : Cd) (i : Nat) (σ : List Sk) (d : Nat) : qdO := ((c.ins.length : Int), (c.ins.length : Int), (i : Int), c.ty, EV c.vars, EN c.ins, (d : Int), SK σ, CL σ)
theorem q4p (a b : Nat) : (if (a : Int) > (b : Int) then (a : Int) else (b : Int)) = ((max b a : Nat) : Int) := by split <;> omega
theorem qJt {vs : List Va} {N i : Nat} {x : In} {T T' : List Int} {j : Nat} {go : Bool} (h : qcC vs N i x T = some (T', some j, go)) : j <= N := ((qzQ h).1 j rfl).2
theorem qJG {c : Cd} (hN : c.ins.length <= 100000) (hv : c.vars.length <= 100000) : ∀ (k i : Nat) (σ : List Sk) (d : Nat), i + k = c.ins.length -> qwX σ c.ins.length ->
    ∃ j w, qiI (hdW c i σ d) = some (j, w) /\
      (((qcD c.vars c.ins.length i (c.ins.drop i) σ d).1 = 9 /\ (j = 0 \/ j = 1)) \/
       ((qcD c.vars c.ins.length i (c.ins.drop i) σ d).1 = 5 /\ j = 2) \/
       ((qcD c.vars c.ins.length i (c.ins.drop i) σ d).1 = 0 /\ j = 3 /\ w = hdW c c.ins.length (qcD c.vars c.ins.length i (c.ins.drop i) σ d).2.1 (qcD c.vars c.ins.length i (c.ins.drop i) σ d).2.2 /\ qwX (qcD c.vars c.ins.length i (c.ins.drop i) σ d).2.1 c.ins.length)) := by
  intro k
  induction k with
  | zero =>
    intro i σ d hi hσ
    have : i = c.ins.length := by omega
    subst this
    refine ⟨3, hdW c c.ins.length σ d, ?_, .inr (.inr ?_)⟩
    · rw [qd6, qag (j := 3)]
      simp [qdV, qdp]
    · rw [List.drop_length]
      exact ⟨rfl, rfl, rfl, hσ⟩
  | succ k ih =>
    intro i σ d hi hσ
    have hn : i < c.ins.length := by omega
    have hs : i < σ.length := by rw [hσ.1]; omega
    have hq : σ[i]? = some σ[i] := List.getElem?_eq_getElem hs
    have hT : σ[i].ts.length <= 16 := hσ.2 i _ hq
    rw [drop_at hn, qcD]
    have hone : qtk c.vars c.ins.length i c.ins[i] σ = bif !σ[i].kn || σ[i].bad then ((9 : Int), σ, 0) else match qcC c.vars c.ins.length i c.ins[i] σ[i].ts with
      | none => (9, σ, 0)
      | some (T, jt, go) => if 16 < T.length then (5, σ, 0) else (0, goS (toS σ T jt) T i go, T.length) := by unfold qtk; rw [hq]; rfl
    cases hb : (!σ[i].kn || σ[i].bad)
    · rw [hb, cond_false] at hone
      obtain ⟨A, t, g, b, h1, h2⟩ := qxB hn hs (by omega) hv hN c.ty (d : Int)
      have hkn : σ[i].kn = true /\ σ[i].bad = false := by simpa using hb
      cases hst : qcC c.vars c.ins.length i c.ins[i] σ[i].ts with
      | none =>
        rw [hst] at h2 hone
        simp only at h2 hone
        refine ⟨1, hdW c i σ d, ?_, .inl ?_⟩
        · rw [qd6, qag (j := 1)]
          simp only [qdV, qdp, qar hn, Int.toNat_natCast, qaO hs, List.length_map, kO0 hs, cO0 hs, k0 hs, c0 hs, hkn.1, hkn.2, h1, h2, ev_br, ev_at, ev_bi_some, br_eq, cond_true, cond_false, Bool.not_true, Bool.not_false]
        · rw [hone]
          exact ⟨rfl, .inr rfl⟩
      | some r =>
        obtain ⟨T, jt, go⟩ := r
        rw [hst] at h2 hone
        simp only at h2 hone
        obtain ⟨rfl, rfl, hgo, rfl⟩ := h2
        rw [hgo] at h1
        by_cases hlen : 16 < T.length
        · rw [if_pos hlen] at hone
          refine ⟨2, hdW c i σ d, ?_, .inr (.inl ?_)⟩
          · rw [qd6, qag (j := 2)]
            have hd : decide ((T.length : Int) > 16) = true := decide_eq_true (by omega)
            simp only [qdV, qdp, qar hn, Int.toNat_natCast, qaO hs, List.length_map, kO0 hs, cO0 hs, k0 hs, c0 hs, hkn.1, hkn.2, h1, hd, ev_br, ev_at, ev_bi_some, br_eq, cond_true, cond_false, Bool.not_true, Bool.not_false]
          · rw [hone]; exact ⟨rfl, rfl⟩
        · rw [if_neg hlen] at hone
          rw [hone]
          have hT16 : T.length <= 16 := by omega
          have hd : decide ((T.length : Int) > 16) = false := decide_eq_false (by omega)
          have hσ1 : qwX (toS σ T jt) c.ins.length := by
            cases jt with
            | none => exact hσ
            | some j => exact qg0 hσ j hT16
          have hσ2 : qwX (goS (toS σ T jt) T i go) c.ins.length := by
            cases go with
            | false => exact hσ1
            | true => exact qg0 hσ1 (i + 1) hT16
          have hstep : (qdV (hdW c i σ d)).ev = some (.next (hdW c (i + 1) (goS (toS σ T jt) T i go) (max d T.length))) := by
            have hw := qal hn (show c.ins.length <= big by simp only [big]; omega)
            have hlt1 : i + 1 < σ.length := by rw [hσ.1]; omega
            cases jt with
            | none =>
              have h1' : qaS (i : Int) c.ty (EV c.vars) (EN c.ins) (d : Int) (SK σ) (CL σ) = some (EI T, -1, go, true, c.ty, EV c.vars, EN c.ins, (d : Int), SK σ, CL σ) := h1
              have hm1 : decide ((-1 : Int) >= 0) = false := rfl
              simp only [qdV, qdp, qar hn, Int.toNat_natCast, qaO hs, List.length_map, kO0 hs, cO0 hs, k0 hs, c0 hs, hkn.1, hkn.2, h1', hd, ev_br, ev_at, ev_bi_some, br_eq, cond_true, cond_false, Bool.not_true, Bool.not_false, List.length_map, q4p, hw]
              simp only [hm1, cond_false, toS]
              cases go with
              | false => rfl
              | true =>
                have := qfx hlt1 (show T.length <= 100000 by omega) (by have := hσ.2 (i + 1) _ (List.getElem?_eq_getElem hlt1); omega) c.ty (EV c.vars) (EN c.ins) ((max d T.length : Nat) : Int)
                simp only [this, cond_true, goS]
                rfl
            | some j =>
              have h1' : qaS (i : Int) c.ty (EV c.vars) (EN c.ins) (d : Int) (SK σ) (CL σ) = some (EI T, (j : Int), go, true, c.ty, EV c.vars, EN c.ins, (d : Int), SK σ, CL σ) := h1
              have hj := qJt hst
              have hlj : j < σ.length := by rw [hσ.1]; omega
              have hc : decide (((j : Nat) : Int) >= 0) = true := decide_eq_true (Int.natCast_nonneg j)
              have := qfx hlj (show T.length <= 100000 by omega) (by have := hσ.2 j _ (List.getElem?_eq_getElem hlj); omega) c.ty (EV c.vars) (EN c.ins) ((max d T.length : Nat) : Int)
              simp only [qdV, qdp, qar hn, Int.toNat_natCast, qaO hs, List.length_map, kO0 hs, cO0 hs, k0 hs, c0 hs, hkn.1, hkn.2, h1', hd, ev_br, ev_at, ev_bi_some, br_eq, cond_true, cond_false, Bool.not_true, Bool.not_false, List.length_map, q4p, hw]
              simp only [hc, cond_true, toS, this, ev_bi_some, ev_br, ev_at]
              cases go with
              | false => rfl
              | true =>
                have hl2 : i + 1 < (qeX σ j T).length := by rw [qgZ]; exact hlt1
                have hσ3 : qwX (qeX σ j T) c.ins.length := hσ1
                have := qfx hl2 (show T.length <= 100000 by omega) (by have := hσ3.2 (i + 1) _ (List.getElem?_eq_getElem hl2); omega) c.ty (EV c.vars) (EN c.ins) ((max d T.length : Nat) : Int)
                simp only [this, cond_true, goS, ev_bi_some, ev_br, ev_at]
          obtain ⟨j, w, h3, h4⟩ := ih (i + 1) (goS (toS σ T jt) T i go) (max d T.length) (by omega) hσ2
          refine ⟨j, w, ?_, ?_⟩
          · rw [qd6] at h3 ⊢
            rw [qaw hstep]; exact h3
          · exact h4
    · rw [hb, cond_true] at hone
      refine ⟨0, hdW c i σ d, ?_, .inl ?_⟩
      · rw [qd6, qag (j := 0)]
        simp only [qdV, qdp, qar hn, Int.toNat_natCast, qaO hs, List.length_map, kO0 hs, cO0 hs, k0 hs, c0 hs, ev_br, ev_at, ev_bi_some, br_eq, cond_true, cond_false]
        cases hk : σ[i].kn
        · rfl
        · rw [hk] at hb
          have : σ[i].bad = true := by simpa using hb
          simp [this]
      · rw [hone]; exact ⟨rfl, .inl rfl⟩
theorem qTu (N : Nat) : qwX (sk0 N) N := by
 refine ⟨by simp [sk0], fun j s hs => ?_⟩
 cases j with
 | zero => simp [sk0] at hs; subst hs; simp
 | succ j =>
  simp only [sk0, List.getElem?_cons_succ, List.getElem?_replicate] at hs
  split at hs
  ·cases hs; simp
  ·cases hs
theorem qNq (N : Nat) : qeX (List.replicate (N + 1) un) 0 [] = sk0 N := by
 rw [qpG (by simp)]
 simp [List.replicate_succ, sk0, qci]
theorem qV9 {n b : Nat} (h : n <= 100000) (hb : b <= 1000) : (decide (0 <= IntKind.i64.wrap ((n : Int) + 1)) && decide (IntKind.i64.wrap ((n : Int) + 1) <= IntKind.i64.wrap ((n : Int) + 1)) && room (IntKind.i64.wrap ((n : Int) + 1)).toNat b && decide (IntKind.i64.wrap ((n : Int) + 1) <= 4611686018427387904)) = true := by
 have hw : IntKind.i64.wrap ((n : Int) + 1) = ((n + 1 : Nat) : Int) := qal (m := n + 1) (by omega) (by simp only [big]; omega)
 rw [hw, Int.toNat_natCast]
 have := Nat.mul_le_mul (show n + 1 <= 100001 by omega) hb
 rw [qcA (by simp only [lim]; omega)]
 simp; omega
theorem wrapN {n : Nat} (h : n <= 100000) : IntKind.i64.wrap ((n : Int) + 1) = ((n + 1 : Nat) : Int) := qal (m := n + 1) (by omega) (by simp only [big]; omega)
theorem nz {p : Prop} (h : (9 : Int) = 0) : p := absurd h (by decide)
theorem nz5 {p : Prop} (h : (5 : Int) = 0) : p := absurd h (by decide)
theorem qzm {c : Cd} (hN : c.ins.length <= 100000) (hv : c.vars.length <= 100000) : ∃ r, qrz c.ty (EV c.vars) (EN c.ins) 0 = some r /\ r.1 = (bif (qdZ c).1 != 0 then (qdZ c).1 else bif Tk.endB c (qdZ c).2.1 then 0 else 9) /\ (r.1 = 0 -> r.2.2.2.2.1 = ((qdZ c).2.2 : Int)) := by
 rw [qD3, qqi]
 have hK : List.replicate (c.ins.length + 1) (AV.agg [AV.bool false, AV.view 1 []]) = SK (List.replicate (c.ins.length + 1) un) := by
  have := (List.map_replicate (f := skA) (n := c.ins.length + 1) (a := un)).symm
  exact this
 have hC : List.replicate (c.ins.length + 1) (AV.bool false) = CL (List.replicate (c.ins.length + 1) un) := by
  have := (List.map_replicate (f := fun s : Sk => AV.bool s.bad) (n := c.ins.length + 1) (a := un)).symm
  exact this
 have hl := qfx (σ := List.replicate (c.ins.length + 1) un) (jt := 0) (by simp) (T := []) (by simp) (by simp) c.ty (EV c.vars) (EN c.ins) 0
 rw [qNq] at hl
 have hl' : qgU 0 [] c.ty (EV c.vars) (EN c.ins) 0 (SK (List.replicate (c.ins.length + 1) un)) (CL (List.replicate (c.ins.length + 1) un)) = some (c.ty, EV c.vars, EN c.ins, 0, SK (sk0 c.ins.length), CL (sk0 c.ins.length)) := hl
 simp only [List.length_map, qV9 hN (show 32 <= 1000 by omega), qV9 hN (show 1 <= 1000 by omega), ev_br, cond_true]
 simp only [wrapN hN, Int.toNat_natCast, hK, hC, hl', ev_br, cond_true, ev_bi_some]
 obtain ⟨j, w, h1, h2⟩ := qJG hN hv c.ins.length 0 (sk0 c.ins.length) 0 (by omega) (qTu _)
 have h1' : qiI ((c.ins.length : Int), (c.ins.length : Int), 0, c.ty, EV c.vars, EN c.ins, 0, SK (sk0 c.ins.length), CL (sk0 c.ins.length)) = some (j, w) := h1
 rw [h1']
 have hW : qcD c.vars c.ins.length 0 (c.ins.drop 0) (sk0 c.ins.length) 0 = qdZ c := rfl
 rw [hW] at h2
 rcases h2 with ⟨h3, h4⟩ | ⟨h3, rfl⟩ | ⟨h3, rfl, rfl, h5⟩
 ·rw [h3]
  rcases h4 with rfl | rfl
  ·simp (decide := true) only [pj_some, if_true, ev_bi_some, ev_at]
   refine ⟨_, rfl, ?_⟩; exact ⟨rfl, nz⟩
  ·simp (decide := true) only [pj_some, if_true, if_false, ev_bi_none, ev_bi_some, ev_at]
   refine ⟨_, rfl, ?_⟩; exact ⟨rfl, nz⟩
 ·rw [h3]
  simp (decide := true) only [pj_some, if_true, if_false, ev_bi_none, ev_bi_some, ev_at]
  refine ⟨_, rfl, ?_⟩; exact ⟨rfl, nz5⟩
 ·rw [h3]
  generalize (qdZ c).2.1 = σ at h5 ⊢
  have hs : c.ins.length < σ.length := by rw [h5.1]; omega
  have hE : Tk.endB c σ = (σ[c.ins.length].kn && !σ[c.ins.length].bad && σ[c.ins.length].ts == [c.ty]) := by
   unfold Tk.endB; rw [List.getElem?_eq_getElem hs]
  simp (decide := true) only [pj_some, if_true, if_false, ev_bi_none, ev_bi_some, Int.toNat_natCast, qaO hs, List.length_map, kO0 hs, kO1 hs, cO0 hs, k0 hs, k1 hs, c0 hs, ev_br, ev_at, cond_true, cond_false, hE, List.length_map, bne_self_eq_false]
  generalize σ[c.ins.length] = s
  cases s.kn
  ·refine ⟨_, rfl, ?_⟩; exact ⟨rfl, nz⟩
  cases s.bad
  ·by_cases hT : s.ts.length = 1
   ·obtain ⟨t, ht⟩ := List.length_eq_one_iff.1 hT
    rw [ht]
    have e1 : qay ksI (EI [t]) 0 = true := rfl
    have e2 : intOf (cellAt (EI [t]) 0 0) = t := rfl
    have e3 : ((([t] : List Int).length : Int) != 1) = false := rfl
    simp only [e1, e2, e3, cond_true, cond_false, Bool.not_true, Bool.not_false, Bool.true_and]
    by_cases hq : t = c.ty
    ·subst hq
     simp only [bne_self_eq_false, cond_false, beq_self_eq_true, cond_true]
     refine ⟨_, rfl, ?_⟩; exact ⟨rfl, fun _ => rfl⟩
    ·have d1 : (t != c.ty) = true := by simpa using hq
     have d2 : ([t] == [c.ty]) = false := by simpa using hq
     rw [d1, d2]
     refine ⟨_, rfl, ?_⟩; exact ⟨rfl, nz⟩
   ·have d1 : ((s.ts.length : Int) != 1) = true := by simp; omega
    have d2 : (s.ts == [c.ty]) = false := by
     rw [beq_eq_false_iff_ne]; intro e; exact hT (by rw [e]; rfl)
    simp only [d1, d2, cond_true, cond_false, Bool.not_true, Bool.not_false, Bool.true_and]
    refine ⟨_, rfl, ?_⟩; exact ⟨rfl, nz⟩
  ·refine ⟨_, rfl, ?_⟩; exact ⟨rfl, nz⟩
theorem qpe {c : Cd} (hv : c.vars.length <= 100000) : qrN c.ty (EV c.vars) (EN c.ins) = some ((qtl c).1, (qtl c).2) := by
 rw [qEN, qq2]
 unfold qtl
 simp only [List.length_map, qgl (show c.vars.length <= big by simp only [big]; omega), ev_br, ev_at, ev_bi_some]
 by_cases h : c.ins.length > 128
 ·rw [if_pos h, show decide ((c.ins.length : Int) > 128) = true by simp; omega]; rfl
 ·rw [if_neg h, show decide ((c.ins.length : Int) > 128) = false by simp; omega]
  simp only [cond_false]
  cases h1 : (qdv c.vars != 0)
  ·obtain ⟨r, h2, h3, h4⟩ := qzm (c := c) (by omega) hv
   simp only [h2, ev_bi_some, ev_br, ev_at, cond_false]
   cases h5 : ((qdZ c).1 != 0)
   ·rw [h5] at h3
    simp only [cond_false] at h3 ⊢
    cases h6 : Tk.endB c (qdZ c).2.1
    ·rw [h6] at h3
     simp only [cond_false] at h3 ⊢
     rw [h3]; rfl
    ·rw [h6] at h3
     simp only [cond_true] at h3 ⊢
     rw [h4 h3, h3]; rfl
   ·rw [h5] at h3
    simp only [cond_true] at h3 ⊢
    rw [h3, h5]; rfl
  ·rfl
theorem qy9 {c : Cd} (hv : c.vars.length <= 100000) : qnW c.ty (EV c.vars) (EN c.ins) = some (qtl c).2 := by
 rw [qEh, qqw, qpe hv]; rfl
end Go.Proofs.H13

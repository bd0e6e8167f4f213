/- Running code over plain data; compiled code gives the value of its expression. -/
import Derived.Test.YtigchhcddgibhaaGreatDoorEvB
import Derived.Test.YtigchhcddgibhaaGreatDoorCdB
set_option linter.unusedVariables false
set_option linter.unusedSimpArgs false
set_option linter.unnecessarySimpa false
namespace Go.Tk
open Go Go.Eng
set_option maxRecDepth 20000
def qgN (env : List Vl) (ins : List In) : Nat -> Nat -> List Vl -> Int -> Vl × Int × Int
 | 0, _, _, _ => (⟨0, 0⟩, 0, 0)
 | k + 1, p, st, fuel => match ins[p]? with
  | none => ((st[0]?).getD ⟨0, 0⟩, fuel, 0)
  | some x => if fuel <= 0 then (⟨0, 0⟩, 0, 8)
   else if x.op = 1 then qgN env ins k (p + 1) (st ++ [⟨x.a, x.n⟩]) (fuel - 1)
   else if x.op = 2 then qgN env ins k (p + 1) (st ++ [(env[x.a.toNat]?).getD ⟨0, 0⟩]) (fuel - 1)
   else if x.op = 3 then (if (qbc x.a (st.drop (st.length - arS x.a))).2 = 0 then qgN env ins k (p + 1) (st.take (st.length - arS x.a) ++ [(qbc x.a (st.drop (st.length - arS x.a))).1]) (fuel - 1)
    else (⟨0, 0⟩, 0, (qbc x.a (st.drop (st.length - arS x.a))).2))
   else if x.op = 4 then qgN env ins k x.a.toNat st (fuel - 1)
   else qgN env ins k (if ((st.getLast?).getD ⟨0, 0⟩).n = 0 then x.a.toNat else p + 1) st.dropLast (fuel - 1)
def qna (c : Cd) (env : List Vl) (fuel : Int) : Vl × Int × Int := bif (qtl c).2 != 0 then (⟨0, 0⟩, 0, 9) else bif !qhE c.vars env then (⟨0, 0⟩, 0, 1) else qgN env c.ins (c.ins.length + 1) 0 [] fuel
def qZg (σ : List Sk) (i : Nat) : List Int := match σ[i]? with
 | some s => s.ts
 | none => []
theorem qQX {σ : List Sk} {q j : Nat} {T : List Int} {s : Sk} (h : σ[j]? = some s) (hk : s.kn = true) : ∃ s', (qeX σ q T)[j]? = some s' /\ s'.kn = true /\ s'.ts = s.ts /\ (s.bad = true -> s'.bad = true) := by
 rw [qdq]
 by_cases c : j = q
 ·rw [if_pos c, h]
  refine ⟨qci s T, rfl, ?_⟩
  have hm : qci s T = ⟨true, s.bad || s.ts != T, s.ts⟩ := by unfold qci; rw [hk]; rfl
  rw [hm]
  exact ⟨rfl, rfl, fun hb => by simp [hb]⟩
 ·rw [if_neg c]
  exact ⟨s, h, hk, rfl, id⟩
theorem qQW {σ : List Sk} {q : Nat} {T : List Int} (h : q < σ.length) : ∃ s', (qeX σ q T)[q]? = some s' /\ s'.kn = true /\ (s'.bad = false -> s'.ts = T) := by
 rw [qdq, if_pos rfl, List.getElem?_eq_getElem h]
 refine ⟨qci σ[q] T, rfl, ?_⟩
 cases hk : σ[q].kn
 ·have hm : qci σ[q] T = ⟨true, σ[q].bad, T⟩ := by unfold qci; rw [hk]; rfl
  rw [hm]
  exact ⟨rfl, fun _ => rfl⟩
 ·have hm : qci σ[q] T = ⟨true, σ[q].bad || σ[q].ts != T, σ[q].ts⟩ := by unfold qci; rw [hk]; rfl
  rw [hm]
  refine ⟨rfl, fun hb => ?_⟩
  simp only [Bool.or_eq_false_iff, bne_eq_false_iff_eq] at hb
  exact hb.2
theorem qWc {σ : List Sk} {i : Nat} : okD σ i = true ↔ ∃ s, σ[i]? = some s /\ s.kn = true /\ s.bad = false := by
 unfold okD
 cases h : σ[i]? with
 | none => simp
 | some s => simp
theorem q6F {σ : List Sk} {T : List Int} {jt : Option Nat} {j : Nat} {s : Sk} (h : σ[j]? = some s) (hk : s.kn = true) : ∃ s', (toS σ T jt)[j]? = some s' /\ s'.kn = true /\ s'.ts = s.ts /\ (s.bad = true -> s'.bad = true) := by
 cases jt with
 | none => exact ⟨s, h, hk, rfl, id⟩
 | some q => exact qQX h hk
theorem q1B {σ : List Sk} {T : List Int} {i : Nat} {go : Bool} {j : Nat} {s : Sk} (h : σ[j]? = some s) (hk : s.kn = true) : ∃ s', (goS σ T i go)[j]? = some s' /\ s'.kn = true /\ s'.ts = s.ts /\ (s.bad = true -> s'.bad = true) := by
 cases go with
 | false => exact ⟨s, h, hk, rfl, id⟩
 | true => exact qQX h hk
theorem q2O {σ : List Sk} {T : List Int} {jt : Option Nat} {j : Nat} (h : jt ≠ some j) : (toS σ T jt)[j]? = σ[j]? := by
 cases jt with
 | none => rfl
 | some q => show (qeX σ q T)[j]? = _; rw [qdq, if_neg (fun e => h (by rw [e]))]
theorem q2N {σ : List Sk} {T : List Int} {i : Nat} {go : Bool} {j : Nat} (h : j ≠ i + 1) : (goS σ T i go)[j]? = σ[j]? := by
 cases go with
 | false => rfl
 | true => show (qeX σ (i + 1) T)[j]? = _; rw [qdq, if_neg h]
theorem qTL {vs : List Va} {N : Nat} : ∀ {l : List In} {i : Nat} {σ : List Sk} {d : Nat}, i + l.length = N -> σ.length = N + 1 -> (qcD vs N i l σ d).1 = 0 -> okD (qcD vs N i l σ d).2.1 N = true ->
  (∀ (j : Nat) (s : Sk), σ[j]? = some s -> s.kn = true -> ∃ s', (qcD vs N i l σ d).2.1[j]? = some s' /\ s'.kn = true /\ s'.ts = s.ts /\ (s.bad = true -> s'.bad = true)) /\
  (∀ j, i <= j -> j <= N -> okD (qcD vs N i l σ d).2.1 j = true) /\
  (∀ j, j < i -> (qcD vs N i l σ d).2.1[j]? = σ[j]?) /\
  (∀ (n : Nat) (hn : n < l.length), ∃ T jt go, qcC vs N (i + n) l[n] (qZg (qcD vs N i l σ d).2.1 (i + n)) = some (T, jt, go) /\ T.length <= 16 /\ (∀ q, jt = some q -> qZg (qcD vs N i l σ d).2.1 q = T) /\ (go = true -> qZg (qcD vs N i l σ d).2.1 (i + n + 1) = T))
 | [], i, σ, d, hi, hl, h0, hok => by
  simp only [List.length_nil, Nat.add_zero] at hi
  subst hi
  simp only [qcD] at hok ⊢
  refine ⟨fun j s h hk => ⟨s, h, hk, rfl, id⟩, fun j h1 h2 => ?_, fun _ _ => trivial, fun n hn => ?_⟩
  ·have : j = i := by omega
   subst this; exact hok
  ·simp at hn
 | x :: l, i, σ, d, hi, hl, h0, hok => by
  simp only [List.length_cons] at hi
  simp only [qcD] at h0 hok ⊢
  cases h1 : ((qtk vs N i x σ).1 != 0)
  ·rw [h1] at h0 hok
   simp only [cond_false] at h0 hok ⊢
   obtain ⟨s, T, jt, go, g1, g2, g3, g4, g5⟩ := q18 (by simpa using h1)
   obtain ⟨g6, g7⟩ := qzQ g4
   have hT : T.length <= 16 := by
    have h1' : (qtk vs N i x σ).1 = 0 := by simpa using h1
    unfold qtk at h1'
    rw [g1] at h1'
    simp only [g2, g3, g4, Bool.not_true, Bool.or_self, cond_false] at h1'
    split at h1'
    ·simp at h1'
    ·omega
   rw [g5] at h0 hok ⊢
   simp only at h0 hok ⊢
   have hl2 : (goS (toS σ T jt) T i go).length = N + 1 := by rw [q1u, qTC, hl]
   obtain ⟨a1, a2, a3, a4⟩ := qTL (d := max d T.length) (by omega) hl2 h0 hok
   generalize hW : qcD vs N (i + 1) l (goS (toS σ T jt) T i go) (max d T.length) = W at a1 a2 a3 a4 hok ⊢
   have hki : W.2.1[i]? = some s := by
    rw [a3 i (by omega), q2N (by omega), q2O, g1]
    intro e
    have := (g6 i e).1; omega
   have hjt : ∀ q, jt = some q -> qZg W.2.1 q = T := by
    rintro q rfl
    obtain ⟨q1, q2⟩ := g6 q rfl
    obtain ⟨s1, b1, b2, b3⟩ := qQW (σ := σ) (q := q) (T := T) (by omega)
    obtain ⟨s2, c1, c2, c3, c4⟩ := q1B (T := T) (i := i) (go := go) (σ := qeX σ q T) b1 b2
    obtain ⟨s3, d1, d2, d3, d4⟩ := a1 q s2 c1 c2
    obtain ⟨s4, e1, e2, e3⟩ := qWc.1 (a2 q (by omega) q2)
    rw [d1] at e1; cases e1
    have hb : s1.bad = false := by
     cases hb : s1.bad
     ·rfl
     ·rw [d4 (c4 hb)] at e3; cases e3
    unfold qZg
    rw [d1]
    simp only
    rw [d3, c3, b3 hb]
   have hgo : go = true -> qZg W.2.1 (i + 1) = T := by
    rintro rfl
    obtain ⟨s1, b1, b2, b3⟩ := qQW (σ := toS σ T jt) (q := i + 1) (T := T) (by rw [qTC]; omega)
    obtain ⟨s3, d1, d2, d3, d4⟩ := a1 (i + 1) s1 b1 b2
    obtain ⟨s4, e1, e2, e3⟩ := qWc.1 (a2 (i + 1) (by omega) (by omega))
    rw [d1] at e1; cases e1
    have hb : s1.bad = false := by
     cases hb : s1.bad
     ·rfl
     ·rw [d4 hb] at e3; cases e3
    unfold qZg
    rw [d1]
    simp only
    rw [d3, b3 hb]
   refine ⟨fun j s' h hk => ?_, fun j q1 q2 => ?_, fun j hj => ?_, fun n hn => ?_⟩
   ·obtain ⟨s1, b1, b2, b3, b4⟩ := q6F (T := T) (jt := jt) h hk
    obtain ⟨s2, c1, c2, c3, c4⟩ := q1B (T := T) (i := i) (go := go) b1 b2
    obtain ⟨s3, d1, d2, d3, d4⟩ := a1 j s2 c1 c2
    exact ⟨s3, d1, d2, by rw [d3, c3, b3], fun hb => d4 (c4 (b4 hb))⟩
   ·by_cases c : j = i
    ·subst c
     exact qWc.2 ⟨s, hki, g2, g3⟩
    ·exact a2 j (by omega) q2
   ·rw [a3 j (by omega), q2N (by omega), q2O]
    intro e
    have := (g6 j e).1; omega
   ·cases n with
    | zero =>
     refine ⟨T, jt, go, ?_, hT, hjt, fun h => by rw [Nat.add_zero]; exact hgo h⟩
     rw [Nat.add_zero]
     have : qZg W.2.1 i = s.ts := by unfold qZg; rw [hki]
     rw [this]
     exact g4
    | succ n =>
     obtain ⟨T', jt', go', b1, b2, b3, b4⟩ := a4 n (by simpa using hn)
     refine ⟨T', jt', go', ?_, b2, b3, fun h => ?_⟩
     ·rw [show i + (n + 1) = i + 1 + n by omega]; exact b1
     ·rw [show i + (n + 1) + 1 = i + 1 + n + 1 by omega]; exact b4 h
  ·rw [h1] at h0; simp only [cond_true] at h0; rw [h0] at h1; simp at h1
structure FlowC (c : Cd) (Z : Nat -> List Int) : Prop where
 zero : Z 0 = []
 last : Z c.ins.length = [c.ty]
 step : ∀ (n : Nat) (hn : n < c.ins.length), ∃ T jt go, qcC c.vars c.ins.length n c.ins[n] (Z n) = some (T, jt, go) /\ T.length <= 16 /\ (∀ q, jt = some q -> Z q = T) /\ (go = true -> Z (n + 1) = T)
theorem qAB {c : Cd} (h : (qtl c).2 = 0) : c.ins.length <= 128 /\ qdv c.vars = 0 /\ ∃ Z, FlowC c Z := by
 unfold qtl at h
 split at h
 ·cases h
 ·rename_i hN
  cases h1 : (qdv c.vars != 0)
  ·rw [h1] at h
   simp only [cond_false] at h
   cases h2 : ((qdZ c).1 != 0)
   ·rw [h2] at h
    simp only [cond_false] at h
    cases h3 : Tk.endB c (qdZ c).2.1
    ·rw [h3] at h; cases h
    ·have hend : okD (qdZ c).2.1 c.ins.length = true /\ qZg (qdZ c).2.1 c.ins.length = [c.ty] := by
      unfold Tk.endB at h3
      unfold okD qZg
      cases hq : (qdZ c).2.1[c.ins.length]? with
      | none => rw [hq] at h3; cases h3
      | some s =>
       rw [hq] at h3
       simp only [Bool.and_eq_true, beq_iff_eq] at h3 ⊢
       exact ⟨h3.1, h3.2⟩
     obtain ⟨a1, a2, a3, a4⟩ := qTL (vs := c.vars) (l := c.ins) (i := 0) (σ := sk0 c.ins.length) (d := 0) (N := c.ins.length) (by omega) (qNr _) (by simpa [qdZ] using h2) hend.1
     refine ⟨by omega, by simpa using h1, qZg (qdZ c).2.1, ?_, hend.2, fun n hn => ?_⟩
     ·obtain ⟨s', b1, _, b3, _⟩ := a1 0 ⟨true, false, []⟩ rfl rfl
      unfold qZg
      show (match (qdZ c).2.1[0]? with | some s => s.ts | none => []) = []
      have b1' : (qdZ c).2.1[0]? = some s' := b1
      rw [b1']
      exact b3
     ·have := a4 n hn
      simp only [Nat.zero_add] at this
      exact this
   ·rw [h2] at h; simp only [cond_true] at h; rw [h] at h2; simp at h2
  ·rw [h1] at h; simp only [cond_true] at h; rw [h] at h1; simp at h1
section
variable {env : List Vl} {ins : List In} {k p : Nat} {st : List Vl} {fuel : Int}
theorem qw5 {x : In} (h : ins[p]? = some x) (ho : x.op = 1) (hf : 0 < fuel) : qgN env ins (k + 1) p st fuel = qgN env ins k (p + 1) (st ++ [⟨x.a, x.n⟩]) (fuel - 1) := by
 simp only [qgN, h]
 rw [if_neg (by omega), if_pos ho]
theorem run_load {x : In} (h : ins[p]? = some x) (ho : x.op = 2) (hf : 0 < fuel) : qgN env ins (k + 1) p st fuel = qgN env ins k (p + 1) (st ++ [(env[x.a.toNat]?).getD ⟨0, 0⟩]) (fuel - 1) := by
 simp only [qgN, h]
 rw [if_neg (by omega), if_neg (by omega), if_pos ho]
theorem qsW {x : In} (h : ins[p]? = some x) (ho : x.op = 3) (hf : 0 < fuel) : qgN env ins (k + 1) p st fuel = if (qbc x.a (st.drop (st.length - arS x.a))).2 = 0 then qgN env ins k (p + 1) (st.take (st.length - arS x.a) ++ [(qbc x.a (st.drop (st.length - arS x.a))).1]) (fuel - 1)
    else (⟨0, 0⟩, 0, (qbc x.a (st.drop (st.length - arS x.a))).2) := by
 simp only [qgN, h]
 rw [if_neg (by omega), if_neg (by omega), if_neg (by omega), if_pos ho]
theorem qw4 {x : In} (h : ins[p]? = some x) (ho : x.op = 4) (hf : 0 < fuel) : qgN env ins (k + 1) p st fuel = qgN env ins k x.a.toNat st (fuel - 1) := by
 simp only [qgN, h]
 rw [if_neg (by omega), if_neg (by omega), if_neg (by omega), if_neg (by omega), if_pos ho]
theorem run_end (h : ins[p]? = none) : qgN env ins (k + 1) p st fuel = ((st[0]?).getD ⟨0, 0⟩, fuel, 0) := by
 simp only [qgN, h]
end
def Gives (env : List Vl) (ins : List In) (p n : Nat) (r : Vl × Int) : Prop :=
 ∃ s, 1 <= s /\ s <= n /\ ∀ (k : Nat) (st : List Vl) (fuel : Int), (n : Int) <= fuel -> qgN env ins (k + s) p st fuel = if r.2 = 0 then qgN env ins k (p + n) (st ++ [r.1]) (fuel - s) else (⟨0, 0⟩, 0, r.2)
theorem qDx {o : Int} (h : o = 9 \/ o = 16) : arS o = 1 := by simp [arS, h]
theorem qDy {o : Int} (h9 : o ≠ 9) (h16 : o ≠ 16) : arS o = 2 := by simp [arS, h9, h16]
theorem qrP {t w : Int} (h : (qrc t w).2 ≠ 0) : (qrc t w).1 = ⟨0, 0⟩ := by
 unfold qrc at h ⊢
 cases hb : (qa6 w && qbb ⟨t, w⟩)
 ·rfl
 ·rw [hb] at h; simp at h
theorem q8u {op t : Int} {a b : Vl} (h : (qmY op t a b).2 ≠ 0) : (qmY op t a b).1 = ⟨0, 0⟩ := by
 unfold qmY at h ⊢
 split at h
 ·rw [if_pos (by assumption)]; exact qrP h
 ·rw [if_neg (by assumption)]
  split at h
  ·rw [if_pos (by assumption)]; exact qrP h
  ·rw [if_neg (by assumption)]
   split at h
   ·rw [if_pos (by assumption)]
    unfold qM4 at h ⊢
    split at h
    ·rw [if_pos (by assumption)]; exact qrP h
    ·rw [if_neg (by assumption)]; exact qrP h
   ·rw [if_neg (by assumption)]
    split at h
    ·rw [if_pos (by assumption)]
     unfold qTN at h ⊢
     split at h
     ·rw [if_pos (by assumption)]
     ·rw [if_neg (by assumption)]
      split at h
      ·rw [if_pos (by assumption)]; exact qrP h
      ·rw [if_neg (by assumption)]
       split at h
       ·exact absurd rfl h
       ·rw [if_neg (by assumption)]
        split at h
        ·rw [if_pos (by assumption)]; exact qrP h
        ·rw [if_neg (by assumption)]; exact qrP h
    ·repeat (split at h; exact absurd rfl h)
     exact absurd rfl h
theorem zaT {op t : Int} {l : List Vl} (h : (opV op t l).2 ≠ 0) : (opV op t l).1 = ⟨0, 0⟩ := by
 match l, h with
 | [], _ => rfl
 | [a], h =>
  simp only [opV] at h ⊢
  split at h
  ·rw [if_pos (by assumption)]; exact qrP h
  ·exact absurd rfl h
 | [a, b], h => exact q8u h
 | [a, b, c], h => exact absurd rfl h
 | _ :: _ :: _ :: _ :: _, _ => rfl
theorem q58 {op : Int} {l : List Vl} (h : (qbc op l).2 ≠ 0) : (qbc op l).1 = ⟨0, 0⟩ := by
 unfold qbc at h ⊢
 cases hr : (qa0 op (l.map (·.ty))).2
 ·rfl
 ·cases hv : l.all qbb
  ·rfl
  ·rw [hr, hv] at h
   exact zaT h
mutual
theorem qW0 (vs : List Va) (env : List Vl) : ∀ e : Ex, (qa4 vs env e).2 ≠ 0 -> (qa4 vs env e).1 = ⟨0, 0⟩
 | .mk o n s l, h => by
  have hi := q4N vs env l
  simp only [qa4] at h ⊢
  split at h
  ·exact absurd rfl h
  ·rw [if_neg (by assumption)]
   split at h
   ·exact absurd rfl h
   ·rw [if_neg (by assumption)]
    split at h
    ·exact absurd rfl h
    ·rw [if_neg (by assumption)]
     split at h
     ·exact absurd rfl h
     ·rw [if_neg (by assumption)]
      split at h
      ·rw [if_pos (by assumption)]; exact hi h
      ·rw [if_neg (by assumption)]
       cases hq : ((qe1 vs env l).2 != 0)
       ·rw [hq] at h; exact q58 h
       ·rfl
theorem q4N (vs : List Va) (env : List Vl) : ∀ l : List Ex, (qK7 vs env l).2 ≠ 0 -> (qK7 vs env l).1 = ⟨0, 0⟩
 | [c, a, b], h => by
  have ha := qW0 vs env a
  have hb := qW0 vs env b
  simp only [qK7] at h ⊢
  cases hq : ((qa4 vs env c).2 != 0)
  ·rw [hq] at h
   simp only [cond_false] at h ⊢
   split at h
   ·rw [if_pos (by assumption)]; exact ha h
   ·rw [if_neg (by assumption)]; exact hb h
  ·rfl
 | [], _ => rfl
 | [_], _ => rfl
 | [_, _], _ => rfl
 | _ :: _ :: _ :: _ :: _, _ => rfl
end
theorem qrQ {c : Cd} {Z : Nat -> List Int} (hF : FlowC c Z) {p : Nat} (hp : p < c.ins.length) : ∃ T jt go, qcC c.vars c.ins.length p c.ins[p] (Z p) = some (T, jt, go) /\ T.length <= 16 /\ (∀ q, jt = some q -> Z q = T /\ p < q /\ q <= c.ins.length) /\ (go = true -> Z (p + 1) = T) := by
 obtain ⟨T, jt, go, h1, h2, h3, h4⟩ := hF.step p hp
 exact ⟨T, jt, go, h1, h2, fun q hq => ⟨h3 q hq, ((qzQ h1).1 q hq).1, ((qzQ h1).1 q hq).2⟩, h4⟩
theorem qw9 {c : Cd} {Z : Nat -> List Int} (hF : FlowC c Z) {p : Nat} (hp : p < c.ins.length) (ho : c.ins[p].op = 1) {st : List Vl} (hst : st.map (·.ty) = Z p) : (st ++ [(⟨c.ins[p].a, c.ins[p].n⟩ : Vl)]).map (·.ty) = Z (p + 1) /\ st.length < 16 := by
 obtain ⟨T, jt, go, h1, h2, h3, h4⟩ := qrQ hF hp
 unfold qcC at h1
 rw [if_pos ho] at h1
 cases hb : pushB c.ins[p] <;> rw [hb] at h1
 ·cases h1
 ·cases h1
  have := congrArg List.length hst
  simp only [List.length_map, List.length_append, List.length_singleton] at this h2
  rw [h4 rfl, <- hst]
  exact ⟨by simp, by omega⟩
theorem qw7 {c : Cd} {Z : Nat -> List Int} (hF : FlowC c Z) {env : List Vl} (he : qhE c.vars env = true) {p : Nat} (hp : p < c.ins.length) (ho : c.ins[p].op = 2) {st : List Vl} (hst : st.map (·.ty) = Z p) :
  0 <= c.ins[p].a /\ ∃ h : c.ins[p].a.toNat < env.length, (st ++ [env[c.ins[p].a.toNat]]).map (·.ty) = Z (p + 1) /\ st.length < 16 := by
 obtain ⟨T, jt, go, h1, h2, h3, h4⟩ := qrQ hF hp
 unfold qcC at h1
 rw [if_neg (by omega)] at h1
 split at h1
 ·cases h1
 ·try rw [if_pos ho] at h1
  split at h1
  ·rename_i h0
   split at h1
   ·rename_i v hv
    cases h1
    obtain ⟨x, hx, q1, _⟩ := q4Z he hv
    have hlt := (List.getElem?_eq_some_iff.1 hx).1
    have hxe : env[c.ins[p].a.toNat] = x := by
     rw [List.getElem?_eq_getElem hlt] at hx; exact Option.some.inj hx
    have := congrArg List.length hst
    simp only [List.length_map, List.length_append, List.length_singleton] at this h2
    refine ⟨h0, hlt, ?_, by omega⟩
    rw [h4 rfl, <- hst, hxe]
    simp [q1]
   ·cases h1
  ·cases h1
theorem qw8 {c : Cd} {Z : Nat -> List Int} (hF : FlowC c Z) {p : Nat} (hp : p < c.ins.length) (ho : c.ins[p].op = 3) {st : List Vl} (hst : st.map (·.ty) = Z p) :
  5 <= c.ins[p].a /\ c.ins[p].a <= 18 /\ arS c.ins[p].a <= st.length /\ st.length <= 18 /\ ∀ v, qbc c.ins[p].a (st.drop (st.length - arS c.ins[p].a)) = (v, 0) -> (st.take (st.length - arS c.ins[p].a) ++ [v]).map (·.ty) = Z (p + 1) := by
 obtain ⟨T, jt, go, h1, h2, h3, h4⟩ := qrQ hF hp
 unfold qcC at h1
 rw [if_neg (by omega)] at h1
 split at h1
 ·cases h1
 ·try rw [if_neg (show ¬ c.ins[p].op = 2 by omega)] at h1
  try rw [if_pos ho] at h1
  have hlen := congrArg List.length hst
  simp only [List.length_map] at hlen
  cases hq : qfn c.ins[p].a (Z p) with
  | none => rw [hq] at h1; cases h1
  | some r =>
   rw [hq] at h1
   cases h1
   unfold qfn at hq
   split at hq
   ·rename_i hc
    cases hr : (qa0 c.ins[p].a ((Z p).drop ((Z p).length - arS c.ins[p].a))).2
    ·rw [hr] at hq; cases hq
    ·rw [hr] at hq
     simp only [cond_true, Option.some.injEq] at hq
     have ha : arS c.ins[p].a <= 2 := by unfold arS; split <;> omega
     refine ⟨hc.1, hc.2.1, by omega, ?_, fun v hv => ?_⟩
     ·have := congrArg List.length hq
      simp only [List.length_append, List.length_take, List.length_singleton] at this
      omega
     ·obtain ⟨_, k2, _⟩ := qMw hv
      rw [h4 rfl, <- hq, List.map_append, List.map_take, hst, hlen]
      simp only [List.map_cons, List.map_nil]
      rw [k2, List.map_drop, hst, hlen]
   ·cases hq
theorem qw6 {c : Cd} {Z : Nat -> List Int} (hF : FlowC c Z) {p : Nat} (hp : p < c.ins.length) (ho : c.ins[p].op = 4) {st : List Vl} (hst : st.map (·.ty) = Z p) : 0 <= c.ins[p].a /\ p < c.ins[p].a.toNat /\ c.ins[p].a.toNat <= c.ins.length /\ st.map (·.ty) = Z c.ins[p].a.toNat := by
 obtain ⟨T, jt, go, h1, h2, h3, h4⟩ := qrQ hF hp
 unfold qcC at h1
 rw [if_neg (by omega)] at h1
 split at h1
 ·cases h1
 ·try rw [if_neg (show ¬ c.ins[p].op = 2 by omega)] at h1
  try rw [if_neg (show ¬ c.ins[p].op = 3 by omega)] at h1
  try rw [if_pos ho] at h1
  split at h1
  ·cases h1
   obtain ⟨q1, q2, q3⟩ := h3 _ rfl
   exact ⟨by omega, q2, q3, by rw [hst, q1]⟩
  ·cases h1
theorem qsX {c : Cd} {Z : Nat -> List Int} (hF : FlowC c Z) {p : Nat} (hp : p < c.ins.length) (h1' : c.ins[p].op ≠ 1) (h2' : c.ins[p].op ≠ 2) (h3' : c.ins[p].op ≠ 3) (h4' : c.ins[p].op ≠ 4) {st : List Vl} (hst : st.map (·.ty) = Z p) :
  c.ins[p].op = 5 /\ 0 <= c.ins[p].a /\ p < c.ins[p].a.toNat /\ c.ins[p].a.toNat <= c.ins.length /\ st ≠ [] /\ st.length <= 18 /\ st.dropLast.map (·.ty) = Z c.ins[p].a.toNat /\ st.dropLast.map (·.ty) = Z (p + 1) := by
 obtain ⟨T, jt, go, h1, h2, h3, h4⟩ := qrQ hF hp
 unfold qcC at h1
 rw [if_neg h1'] at h1
 split at h1
 ·cases h1
 ·try rw [if_neg (show ¬ c.ins[p].op = 2 by omega)] at h1
  try rw [if_neg (show ¬ c.ins[p].op = 3 by omega)] at h1
  try rw [if_neg (show ¬ c.ins[p].op = 4 by omega)] at h1
  split at h1
  ·rename_i ho
   split at h1
   ·rename_i hc
    cases h1
    obtain ⟨q1, q2, q3⟩ := h3 _ rfl
    have hne : st ≠ [] := by
     rintro rfl
     rw [<- hst] at hc
     have := hc.1
     simp at this
    have hlen := congrArg List.length hst
    simp only [List.length_map, List.length_dropLast] at hlen h2
    refine ⟨ho, by omega, q2, q3, hne, by omega, ?_, ?_⟩
    ·rw [q1, <- hst, List.map_dropLast]
    ·rw [h4 rfl, <- hst, List.map_dropLast]
   ·cases h1
  ·cases h1
end Go.Tk

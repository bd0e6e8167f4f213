/- Running code over plain data; compiled code gives the value of its expression. -/
import Derived.Test.YtigchhcddgibhaaGreatDoorEvB
import Derived.Test.YtigchhcddgibhaaGreatDoorCdB
set_option linter.unusedVariables false
set_option linter.unusedSimpArgs false
set_option linter.unnecessarySimpa false
namespace Go.Tk
open Go Go.Eng
set_option maxRecDepth 20000
def qff (env : List Vl) (ins : List In) : Nat → Nat → List Vl → Int → Vl × Int × Int
 | 0, _, _, _ => (⟨0, 0⟩, 0, 0)
 | k + 1, p, st, fuel => match ins[p]? with
  | none => ((st[0]?).getD ⟨0, 0⟩, fuel, 0)
  | some x => if fuel ≤ 0 then (⟨0, 0⟩, 0, 8)
   else if x.op = 1 then qff env ins k (p + 1) (st ++ [⟨x.a, x.n⟩]) (fuel - 1)
   else if x.op = 2 then qff env ins k (p + 1) (st ++ [(env[x.a.toNat]?).getD ⟨0, 0⟩]) (fuel - 1)
   else if x.op = 3 then (if (qa8 x.a (st.drop (st.length - arS x.a))).2 = 0 then qff env ins k (p + 1) (st.take (st.length - arS x.a) ++ [(qa8 x.a (st.drop (st.length - arS x.a))).1]) (fuel - 1)
    else (⟨0, 0⟩, 0, (qa8 x.a (st.drop (st.length - arS x.a))).2))
   else if x.op = 4 then qff env ins k x.a.toNat st (fuel - 1)
   else qff env ins k (if ((st.getLast?).getD ⟨0, 0⟩).n = 0 then x.a.toNat else p + 1) st.dropLast (fuel - 1)
def qlG (c : Cd) (env : List Vl) (fuel : Int) : Vl × Int × Int := bif (qp6 c).2 != 0 then (⟨0, 0⟩, 0, 9) else bif !qhp c.vars env then (⟨0, 0⟩, 0, 1) else qff env c.ins (c.ins.length + 1) 0 [] fuel
def qFz (σ : List Sk) (i : Nat) : List Int := match σ[i]? with
 | some s => s.ts
 | none => []
theorem qw6 {σ : List Sk} {q j : Nat} {T : List Int} {s : Sk} (h : σ[j]? = some s) (hk : s.kn = true) : ∃ s', (qdh σ q T)[j]? = some s' ∧ s'.kn = true ∧ s'.ts = s.ts ∧ (s.bad = true → s'.bad = true) := by
 rw [qbw]
 by_cases c : j = q
 ·rw [if_pos c, h]
  refine ⟨qbP s T, rfl, ?_⟩
  have hm : qbP s T = ⟨true, s.bad || s.ts != T, s.ts⟩ := by unfold qbP; rw [hk]; rfl
  rw [hm]
  exact ⟨rfl, rfl, fun hb => by simp [hb]⟩
 ·rw [if_neg c]
  exact ⟨s, h, hk, rfl, id⟩
theorem qw5 {σ : List Sk} {q : Nat} {T : List Int} (h : q < σ.length) : ∃ s', (qdh σ q T)[q]? = some s' ∧ s'.kn = true ∧ (s'.bad = false → s'.ts = T) := by
 rw [qbw, if_pos rfl, List.getElem?_eq_getElem h]
 refine ⟨qbP σ[q] T, rfl, ?_⟩
 cases hk : σ[q].kn
 ·have hm : qbP σ[q] T = ⟨true, σ[q].bad, T⟩ := by unfold qbP; rw [hk]; rfl
  rw [hm]
  exact ⟨rfl, fun _ => rfl⟩
 ·have hm : qbP σ[q] T = ⟨true, σ[q].bad || σ[q].ts != T, σ[q].ts⟩ := by unfold qbP; rw [hk]; rfl
  rw [hm]
  refine ⟨rfl, fun hb => ?_⟩
  simp only [Bool.or_eq_false_iff, bne_eq_false_iff_eq] at hb
  exact hb.2
theorem qAa {σ : List Sk} {i : Nat} : okD σ i = true ↔ ∃ s, σ[i]? = some s ∧ s.kn = true ∧ s.bad = false := by
 unfold okD
 cases h : σ[i]? with
 | none => simp
 | some s => simp
theorem q0w {σ : List Sk} {T : List Int} {jt : Option Nat} {j : Nat} {s : Sk} (h : σ[j]? = some s) (hk : s.kn = true) : ∃ s', (toS σ T jt)[j]? = some s' ∧ s'.kn = true ∧ s'.ts = s.ts ∧ (s.bad = true → s'.bad = true) := by
 cases jt with
 | none => exact ⟨s, h, hk, rfl, id⟩
 | some q => exact qw6 h hk
theorem qKW {σ : List Sk} {T : List Int} {i : Nat} {go : Bool} {j : Nat} {s : Sk} (h : σ[j]? = some s) (hk : s.kn = true) : ∃ s', (goS σ T i go)[j]? = some s' ∧ s'.kn = true ∧ s'.ts = s.ts ∧ (s.bad = true → s'.bad = true) := by
 cases go with
 | false => exact ⟨s, h, hk, rfl, id⟩
 | true => exact qw6 h hk
theorem qPl {σ : List Sk} {T : List Int} {jt : Option Nat} {j : Nat} (h : jt ≠ some j) : (toS σ T jt)[j]? = σ[j]? := by
 cases jt with
 | none => rfl
 | some q => show (qdh σ q T)[j]? = _; rw [qbw, if_neg (fun e => h (by rw [e]))]
theorem qPk {σ : List Sk} {T : List Int} {i : Nat} {go : Bool} {j : Nat} (h : j ≠ i + 1) : (goS σ T i go)[j]? = σ[j]? := by
 cases go with
 | false => rfl
 | true => show (qdh σ (i + 1) T)[j]? = _; rw [qbw, if_neg h]
theorem qxZ {vs : List Va} {N : Nat} : ∀ {l : List In} {i : Nat} {σ : List Sk} {d : Nat}, i + l.length = N → σ.length = N + 1 → (qbg vs N i l σ d).1 = 0 → okD (qbg vs N i l σ d).2.1 N = true →
  (∀ (j : Nat) (s : Sk), σ[j]? = some s → s.kn = true → ∃ s', (qbg vs N i l σ d).2.1[j]? = some s' ∧ s'.kn = true ∧ s'.ts = s.ts ∧ (s.bad = true → s'.bad = true)) ∧
  (∀ j, i ≤ j → j ≤ N → okD (qbg vs N i l σ d).2.1 j = true) ∧
  (∀ j, j < i → (qbg vs N i l σ d).2.1[j]? = σ[j]?) ∧
  (∀ (n : Nat) (hn : n < l.length), ∃ T jt go, qbA vs N (i + n) l[n] (qFz (qbg vs N i l σ d).2.1 (i + n)) = some (T, jt, go) ∧ T.length ≤ 16 ∧ (∀ q, jt = some q → qFz (qbg vs N i l σ d).2.1 q = T) ∧ (go = true → qFz (qbg vs N i l σ d).2.1 (i + n + 1) = T))
 | [], i, σ, d, hi, hl, h0, hok => by
  simp only [List.length_nil, Nat.add_zero] at hi
  subst hi
  simp only [qbg] at hok ⊢
  refine ⟨fun j s h hk => ⟨s, h, hk, rfl, id⟩, fun j h1 h2 => ?_, fun _ _ => trivial, fun n hn => ?_⟩
  ·have : j = i := by omega
   subst this; exact hok
  ·simp at hn
 | x :: l, i, σ, d, hi, hl, h0, hok => by
  simp only [List.length_cons] at hi
  simp only [qbg] at h0 hok ⊢
  cases h1 : ((qkb vs N i x σ).1 != 0)
  ·rw [h1] at h0 hok
   simp only [cond_false] at h0 hok ⊢
   obtain ⟨s, T, jt, go, g1, g2, g3, g4, g5⟩ := qLO (by simpa using h1)
   obtain ⟨g6, g7⟩ := qqK g4
   have hT : T.length ≤ 16 := by
    have h1' : (qkb vs N i x σ).1 = 0 := by simpa using h1
    unfold qkb at h1'
    rw [g1] at h1'
    simp only [g2, g3, g4, Bool.not_true, Bool.or_self, cond_false] at h1'
    split at h1'
    ·simp at h1'
    ·omega
   rw [g5] at h0 hok ⊢
   simp only at h0 hok ⊢
   have hl2 : (goS (toS σ T jt) T i go).length = N + 1 := by rw [qKw, qxU, hl]
   obtain ⟨a1, a2, a3, a4⟩ := qxZ (d := max d T.length) (by omega) hl2 h0 hok
   generalize hW : qbg vs N (i + 1) l (goS (toS σ T jt) T i go) (max d T.length) = W at a1 a2 a3 a4 hok ⊢
   have hki : W.2.1[i]? = some s := by
    rw [a3 i (by omega), qPk (by omega), qPl, g1]
    intro e
    have := (g6 i e).1; omega
   have hjt : ∀ q, jt = some q → qFz W.2.1 q = T := by
    rintro q rfl
    obtain ⟨q1, q2⟩ := g6 q rfl
    obtain ⟨s1, b1, b2, b3⟩ := qw5 (σ := σ) (q := q) (T := T) (by omega)
    obtain ⟨s2, c1, c2, c3, c4⟩ := qKW (T := T) (i := i) (go := go) (σ := qdh σ q T) b1 b2
    obtain ⟨s3, d1, d2, d3, d4⟩ := a1 q s2 c1 c2
    obtain ⟨s4, e1, e2, e3⟩ := qAa.1 (a2 q (by omega) q2)
    rw [d1] at e1; cases e1
    have hb : s1.bad = false := by
     cases hb : s1.bad
     ·rfl
     ·rw [d4 (c4 hb)] at e3; cases e3
    unfold qFz
    rw [d1]
    simp only
    rw [d3, c3, b3 hb]
   have hgo : go = true → qFz W.2.1 (i + 1) = T := by
    rintro rfl
    obtain ⟨s1, b1, b2, b3⟩ := qw5 (σ := toS σ T jt) (q := i + 1) (T := T) (by rw [qxU]; omega)
    obtain ⟨s3, d1, d2, d3, d4⟩ := a1 (i + 1) s1 b1 b2
    obtain ⟨s4, e1, e2, e3⟩ := qAa.1 (a2 (i + 1) (by omega) (by omega))
    rw [d1] at e1; cases e1
    have hb : s1.bad = false := by
     cases hb : s1.bad
     ·rfl
     ·rw [d4 hb] at e3; cases e3
    unfold qFz
    rw [d1]
    simp only
    rw [d3, b3 hb]
   refine ⟨fun j s' h hk => ?_, fun j q1 q2 => ?_, fun j hj => ?_, fun n hn => ?_⟩
   ·obtain ⟨s1, b1, b2, b3, b4⟩ := q0w (T := T) (jt := jt) h hk
    obtain ⟨s2, c1, c2, c3, c4⟩ := qKW (T := T) (i := i) (go := go) b1 b2
    obtain ⟨s3, d1, d2, d3, d4⟩ := a1 j s2 c1 c2
    exact ⟨s3, d1, d2, by rw [d3, c3, b3], fun hb => d4 (c4 (b4 hb))⟩
   ·by_cases c : j = i
    ·subst c
     exact qAa.2 ⟨s, hki, g2, g3⟩
    ·exact a2 j (by omega) q2
   ·rw [a3 j (by omega), qPk (by omega), qPl]
    intro e
    have := (g6 j e).1; omega
   ·cases n with
    | zero =>
     refine ⟨T, jt, go, ?_, hT, hjt, fun h => by rw [Nat.add_zero]; exact hgo h⟩
     rw [Nat.add_zero]
     have : qFz W.2.1 i = s.ts := by unfold qFz; rw [hki]
     rw [this]
     exact g4
    | succ n =>
     obtain ⟨T', jt', go', b1, b2, b3, b4⟩ := a4 n (by simpa using hn)
     refine ⟨T', jt', go', ?_, b2, b3, fun h => ?_⟩
     ·rw [show i + (n + 1) = i + 1 + n by omega]; exact b1
     ·rw [show i + (n + 1) + 1 = i + 1 + n + 1 by omega]; exact b4 h
  ·rw [h1] at h0; simp only [cond_true] at h0; rw [h0] at h1; simp at h1
structure FlowC (c : Cd) (Z : Nat → List Int) : Prop where
 zero : Z 0 = []
 last : Z c.ins.length = [c.ty]
 step : ∀ (n : Nat) (hn : n < c.ins.length), ∃ T jt go, qbA c.vars c.ins.length n c.ins[n] (Z n) = some (T, jt, go) ∧ T.length ≤ 16 ∧ (∀ q, jt = some q → Z q = T) ∧ (go = true → Z (n + 1) = T)
theorem qCw {c : Cd} (h : (qp6 c).2 = 0) : c.ins.length ≤ 128 ∧ qb8 c.vars = 0 ∧ ∃ Z, FlowC c Z := by
 unfold qp6 at h
 split at h
 ·cases h
 ·rename_i hN
  cases h1 : (qb8 c.vars != 0)
  ·rw [h1] at h
   simp only [cond_false] at h
   cases h2 : ((qb1 c).1 != 0)
   ·rw [h2] at h
    simp only [cond_false] at h
    cases h3 : Tk.endB c (qb1 c).2.1
    ·rw [h3] at h; cases h
    ·have hend : okD (qb1 c).2.1 c.ins.length = true ∧ qFz (qb1 c).2.1 c.ins.length = [c.ty] := by
      unfold Tk.endB at h3
      unfold okD qFz
      cases hq : (qb1 c).2.1[c.ins.length]? with
      | none => rw [hq] at h3; cases h3
      | some s =>
       rw [hq] at h3
       simp only [Bool.and_eq_true, beq_iff_eq] at h3 ⊢
       exact ⟨h3.1, h3.2⟩
     obtain ⟨a1, a2, a3, a4⟩ := qxZ (vs := c.vars) (l := c.ins) (i := 0) (σ := sk0 c.ins.length) (d := 0) (N := c.ins.length) (by omega) (qup _) (by simpa [qb1] using h2) hend.1
     refine ⟨by omega, by simpa using h1, qFz (qb1 c).2.1, ?_, hend.2, fun n hn => ?_⟩
     ·obtain ⟨s', b1, _, b3, _⟩ := a1 0 ⟨true, false, []⟩ rfl rfl
      unfold qFz
      show (match (qb1 c).2.1[0]? with | some s => s.ts | none => []) = []
      have b1' : (qb1 c).2.1[0]? = some s' := b1
      rw [b1']
      exact b3
     ·have := a4 n hn
      simp only [Nat.zero_add] at this
      exact this
   ·rw [h2] at h; simp only [cond_true] at h; rw [h] at h2; simp at h2
  ·rw [h1] at h; simp only [cond_true] at h; rw [h] at h1; simp at h1
def Seg (ins : List In) (p : Nat) (l : List In) : Prop := ∀ (i : Nat) (x : In), l[i]? = some x → ins[p + i]? = some x
theorem qp9 {ins : List In} {p : Nat} {a b : List In} (h : Seg ins p (a ++ b)) : Seg ins p a ∧ Seg ins (p + a.length) b := by
 refine ⟨fun i x hx => h i x ?_, fun i x hx => ?_⟩
 ·have hi := (List.getElem?_eq_some_iff.1 hx).1
  rw [List.getElem?_append_left hi]; exact hx
 ·rw [Nat.add_assoc]
  refine h _ x ?_
  rw [List.getElem?_append_right (by omega)]
  simpa using hx
theorem qhK {ins : List In} {p : Nat} {x : In} {l : List In} (h : Seg ins p (x :: l)) : ins[p]? = some x ∧ Seg ins (p + 1) l := by
 refine ⟨h 0 x rfl, fun i y hy => ?_⟩
 rw [show p + 1 + i = p + (i + 1) by omega]
 exact h (i + 1) y (by simpa using hy)
section
variable {env : List Vl} {ins : List In} {k p : Nat} {st : List Vl} {fuel : Int}
theorem qun {x : In} (h : ins[p]? = some x) (ho : x.op = 1) (hf : 0 < fuel) : qff env ins (k + 1) p st fuel = qff env ins k (p + 1) (st ++ [⟨x.a, x.n⟩]) (fuel - 1) := by
 simp only [qff, h]
 rw [if_neg (by omega), if_pos ho]
theorem run_load {x : In} (h : ins[p]? = some x) (ho : x.op = 2) (hf : 0 < fuel) : qff env ins (k + 1) p st fuel = qff env ins k (p + 1) (st ++ [(env[x.a.toNat]?).getD ⟨0, 0⟩]) (fuel - 1) := by
 simp only [qff, h]
 rw [if_neg (by omega), if_neg (by omega), if_pos ho]
theorem ql6 {x : In} (h : ins[p]? = some x) (ho : x.op = 3) (hf : 0 < fuel) : qff env ins (k + 1) p st fuel = if (qa8 x.a (st.drop (st.length - arS x.a))).2 = 0 then qff env ins k (p + 1) (st.take (st.length - arS x.a) ++ [(qa8 x.a (st.drop (st.length - arS x.a))).1]) (fuel - 1)
    else (⟨0, 0⟩, 0, (qa8 x.a (st.drop (st.length - arS x.a))).2) := by
 simp only [qff, h]
 rw [if_neg (by omega), if_neg (by omega), if_neg (by omega), if_pos ho]
theorem qum {x : In} (h : ins[p]? = some x) (ho : x.op = 4) (hf : 0 < fuel) : qff env ins (k + 1) p st fuel = qff env ins k x.a.toNat st (fuel - 1) := by
 simp only [qff, h]
 rw [if_neg (by omega), if_neg (by omega), if_neg (by omega), if_neg (by omega), if_pos ho]
theorem qp7 {x : In} (h : ins[p]? = some x) (ho : x.op = 5) (hf : 0 < fuel) {v : Vl} : qff env ins (k + 1) p (st ++ [v]) fuel = qff env ins k (if v.n = 0 then x.a.toNat else p + 1) st (fuel - 1) := by
 simp only [qff, h]
 rw [if_neg (by omega), if_neg (by omega), if_neg (by omega), if_neg (by omega), if_neg (by omega)]
 simp
theorem run_end (h : ins[p]? = none) : qff env ins (k + 1) p st fuel = ((st[0]?).getD ⟨0, 0⟩, fuel, 0) := by
 simp only [qff, h]
end
def Gives (env : List Vl) (ins : List In) (p n : Nat) (r : Vl × Int) : Prop :=
 ∃ s, 1 ≤ s ∧ s ≤ n ∧ ∀ (k : Nat) (st : List Vl) (fuel : Int), (n : Int) ≤ fuel → qff env ins (k + s) p st fuel = if r.2 = 0 then qff env ins k (p + n) (st ++ [r.1]) (fuel - s) else (⟨0, 0⟩, 0, r.2)
theorem qyK {o : Int} (h : o = 9 ∨ o = 16) : arS o = 1 := by simp [arS, h]
theorem qyL {o : Int} (h9 : o ≠ 9) (h16 : o ≠ 16) : arS o = 2 := by simp [arS, h9, h16]
theorem qRP {vs : List Va} {env : List Vl} (he : qhp vs env = true) {ins : List In} : ∀ (e : Ex), e.allX qas = true → ∀ t, Ex.ty vs e = (t, 0) → ∀ p, Seg ins p (emE vs p e) → Gives env ins p (emE vs p e).length (qaZ vs env e) := by
 intro e
 induction e using Ex.ind with
 | h o n s l ih =>
  intro hf t ht p hseg
  have hf0 := hf
  rw [Ex.allX_eq, Bool.and_eq_true, List.all_eq_true] at hf
  obtain ⟨h1, h2⟩ := hf
  simp only [Ex.args] at h2
  rcases qbC h1 with ⟨ho, rfl, rfl, hn0, hn1⟩ | ⟨rfl, rfl, rfl⟩ | ⟨ho, hl, rfl, rfl⟩ | ⟨rfl, hl, rfl, rfl⟩ | ⟨ho, h9, h16, hl, rfl, rfl⟩
  ·rw [qip ho] at hseg ⊢
   obtain ⟨hx, _⟩ := qhK hseg
   have hv : qaZ vs env (.mk o n [] []) = (⟨o, n⟩, 0) := by rcases ho with rfl | rfl | rfl <;> simp [qaZ]
   rw [hv]
   refine ⟨1, by simp, by simp, fun k st fuel hfu => ?_⟩
   simp only [List.length_singleton] at hfu
   rw [qun hx rfl (by omega), if_pos rfl]
   rfl
  ·rw [qiq] at hseg ⊢
   obtain ⟨hx, _⟩ := qhK hseg
   obtain ⟨v, q1, q2, q3, q4⟩ := qPB ht
   have hv : qaZ vs env (.mk 4 0 s []) = ((env[vs.findIdx (fun v => v.name == s)]?).getD ⟨0, 0⟩, 0) := by simp [qaZ]
   rw [hv]
   refine ⟨1, by simp, by simp, fun k st fuel hfu => ?_⟩
   simp only [List.length_singleton] at hfu
   rw [run_load hx rfl (by omega), if_pos rfl]
   simp only [q4, Int.toNat_natCast]
   rfl
  ·obtain ⟨x, rfl⟩ := q0y hl
   have ko : 5 ≤ o ∧ o ≤ 18 := by omega
   rw [qeQ ko, qf7] at hseg ⊢
   obtain ⟨hs1, hs2⟩ := qp9 hseg
   obtain ⟨hx, _⟩ := qhK hs2
   obtain ⟨hr, hall⟩ := qls (by omega) (by omega) (by omega) (by omega) ht
   obtain ⟨s1, a1, a2, a3⟩ := ih x (by simp) (h2 x (by simp)) _ (by rw [← hall x (by simp)]) p hs1
   have hv : qaZ vs env (.mk o 0 [] [x]) = bif (qaZ vs env x).2 != 0 then (⟨0, 0⟩, (qaZ vs env x).2) else qa8 o [(qaZ vs env x).1] := by
    have : qaZ vs env (.mk o 0 [] [x]) = bif (qdJ vs env [x]).2 != 0 then (⟨0, 0⟩, (qdJ vs env [x]).2) else qa8 o (qdJ vs env [x]).1 := by
     simp [qaZ, show o ≠ 1 by omega, show o ≠ 2 by omega, show o ≠ 3 by omega, show o ≠ 4 by omega, show o ≠ 19 by omega]
    rw [this]
    simp only [qdJ]
    cases hq : ((qaZ vs env x).2 != 0) <;> simp [hq]
   generalize hL : (emE vs p x).length = L at *
   have hlen : (emE vs p x ++ [(⟨3, o, 0⟩ : In)]).length = L + 1 := by simp only [List.length_append, List.length_singleton, hL]
   rw [hlen]
   cases hq : ((qaZ vs env x).2 != 0)
   ·have hq' : (qaZ vs env x).2 = 0 := by simpa using hq
    rw [hq, cond_false] at hv
    refine ⟨s1 + 1, by omega, by omega, fun k st fuel hfu => ?_⟩
    rw [show k + (s1 + 1) = k + 1 + s1 by omega, a3 (k + 1) st fuel (by omega), if_pos hq', ql6 hx rfl (by omega)]
    have ha : arS o = 1 := qyK ho
    simp only [ha, List.length_append, List.length_singleton, Nat.add_sub_cancel, List.drop_left, List.take_left]
    rw [hv, show p + (L + 1) = p + L + 1 by omega]
    split
    ·congr 1; omega
    ·rfl
   ·have hq' : (qaZ vs env x).2 ≠ 0 := by simpa using hq
    rw [hq, cond_true] at hv
    refine ⟨s1, a1, by omega, fun k st fuel hfu => ?_⟩
    rw [a3 k st fuel (by omega), if_neg hq', hv, if_neg hq']
  ·obtain ⟨c, a, b, rfl⟩ := q0A hl
   rw [qnV] at hseg ⊢
   have hv : qaZ vs env (.mk 19 0 [] [c, a, b]) = qvR vs env [c, a, b] := by simp [qaZ]
   obtain ⟨hr, hall⟩ := qls (by decide) (by decide) (by decide) (by decide) ht
   simp only [List.map_cons, List.map_nil] at hr
   obtain ⟨_, _, r1, _, _⟩ := qdH hr
   simp only [emI] at hseg ⊢
   generalize hC : emE vs p c = C at hseg ⊢
   generalize hA : emE vs (p + C.length + 1) a = A at hseg ⊢
   generalize hB : emE vs (p + C.length + 1 + A.length + 1) b = B at hseg ⊢
   obtain ⟨hs1, hs2⟩ := qp9 hseg
   obtain ⟨hx1, hs3⟩ := qhK hs2
   obtain ⟨hs4, hs5⟩ := qp9 hs3
   obtain ⟨hx2, hs6⟩ := qhK hs5
   have hc := ih c (by simp) (h2 c (by simp)) _ (by rw [← hall c (by simp)]) p (by rw [hC]; exact hs1)
   rw [hC] at hc
   have ha := ih a (by simp) (h2 a (by simp)) _ (by rw [← hall a (by simp)]) (p + C.length + 1) (by rw [hA]; exact hs4)
   rw [hA] at ha
   have hb := ih b (by simp) (h2 b (by simp)) _ (by rw [← hall b (by simp)]) (p + C.length + 1 + A.length + 1) (by rw [hB]; exact hs6)
   rw [hB] at hb
   obtain ⟨s1, c1, c2, c3⟩ := hc
   obtain ⟨s2, a1, a2, a3⟩ := ha
   obtain ⟨s3, b1, b2, b3⟩ := hb
   have hlen : (C ++ (⟨5, ((p + C.length + 1 + A.length + 1 : Nat) : Int), 0⟩ : In) :: (A ++ (⟨4, ((p + C.length + 1 + A.length + 1 + B.length : Nat) : Int), 0⟩ : In) :: B)).length = C.length + 1 + A.length + 1 + B.length := by
    simp only [List.length_append, List.length_cons]; omega
   rw [hlen, hv]
   simp only [qvR]
   cases hq : ((qaZ vs env c).2 != 0)
   ·have hq' : (qaZ vs env c).2 = 0 := by simpa using hq
    simp only [cond_false]
    have hk := qns he c (h2 c (by simp)) _ (by rw [← hall c (by simp)]) hq'
    rw [r1] at hk
    have hn := (qbs hk.1).1 hk.2
    by_cases hone : (qaZ vs env c).1.n = 1
    ·rw [if_pos hone]
     by_cases ho : (qaZ vs env a).2 = 0
     ·refine ⟨s1 + (1 + (s2 + 1)), by omega, by omega, fun k st fuel hfu => ?_⟩
      rw [show k + (s1 + (1 + (s2 + 1))) = k + (s2 + 1) + 1 + s1 by omega, c3 _ st fuel (by omega), if_pos hq', qp7 hx1 rfl (by omega), if_neg (by omega),
       show k + (s2 + 1) = k + 1 + s2 by omega, a3 _ st _ (by omega), if_pos ho, qum hx2 rfl (by omega), if_pos ho]
      simp only [Int.toNat_natCast]
      congr 1
      ·omega
      ·omega
     ·refine ⟨s1 + (1 + s2), by omega, by omega, fun k st fuel hfu => ?_⟩
      rw [show k + (s1 + (1 + s2)) = k + s2 + 1 + s1 by omega, c3 _ st fuel (by omega), if_pos hq', qp7 hx1 rfl (by omega), if_neg (by omega), a3 _ st _ (by omega), if_neg ho, if_neg ho]
    ·rw [if_neg hone]
     refine ⟨s1 + (1 + s3), by omega, by omega, fun k st fuel hfu => ?_⟩
     rw [show k + (s1 + (1 + s3)) = k + s3 + 1 + s1 by omega, c3 _ st fuel (by omega), if_pos hq', qp7 hx1 rfl (by omega), if_pos (by omega)]
     simp only [Int.toNat_natCast]
     rw [b3 _ st _ (by omega)]
     split
     ·congr 1
      ·omega
      ·omega
     ·rfl
   ·have hq' : (qaZ vs env c).2 ≠ 0 := by simpa using hq
    simp only [cond_true]
    refine ⟨s1, c1, by omega, fun k st fuel hfu => ?_⟩
    rw [c3 k st fuel (by omega), if_neg hq', if_neg hq']
  ·obtain ⟨x, y, rfl⟩ := q0z hl
   rw [qeQ ho, qf8] at hseg ⊢
   obtain ⟨hs12, hs3⟩ := qp9 hseg
   obtain ⟨hs1, hs2⟩ := qp9 hs12
   obtain ⟨hx, _⟩ := qhK hs3
   obtain ⟨hr, hall⟩ := qls (by omega) (by omega) (by omega) (by omega) ht
   obtain ⟨s1, a1, a2, a3⟩ := ih x (by simp) (h2 x (by simp)) _ (by rw [← hall x (by simp)]) p hs1
   obtain ⟨s2, b1, b2, b3⟩ := ih y (by simp) (h2 y (by simp)) _ (by rw [← hall y (by simp)]) (p + (emE vs p x).length) hs2
   have hv : qaZ vs env (.mk o 0 [] [x, y]) = bif (qaZ vs env x).2 != 0 then (⟨0, 0⟩, (qaZ vs env x).2) else bif (qaZ vs env y).2 != 0 then (⟨0, 0⟩, (qaZ vs env y).2) else qa8 o [(qaZ vs env x).1, (qaZ vs env y).1] := by
    have : qaZ vs env (.mk o 0 [] [x, y]) = bif (qdJ vs env [x, y]).2 != 0 then (⟨0, 0⟩, (qdJ vs env [x, y]).2) else qa8 o (qdJ vs env [x, y]).1 := by
     simp [qaZ, show o ≠ 1 by omega, show o ≠ 2 by omega, show o ≠ 3 by omega, show o ≠ 4 by omega, show o ≠ 19 by omega]
    rw [this]
    simp only [qdJ]
    cases hq : ((qaZ vs env x).2 != 0) <;> cases hq2 : ((qaZ vs env y).2 != 0) <;> simp [hq, hq2]
   generalize hX : emE vs p x = X at *
   generalize hY : emE vs (p + X.length) y = Y at *
   have hlen : (X ++ Y ++ [(⟨3, o, 0⟩ : In)]).length = X.length + Y.length + 1 := by simp only [List.length_append, List.length_singleton]
   rw [hlen]
   rw [List.length_append] at hx
   cases hq : ((qaZ vs env x).2 != 0)
   ·have hq' : (qaZ vs env x).2 = 0 := by simpa using hq
    rw [hq, cond_false] at hv
    cases hq2 : ((qaZ vs env y).2 != 0)
    ·have hq2' : (qaZ vs env y).2 = 0 := by simpa using hq2
     rw [hq2, cond_false] at hv
     refine ⟨s1 + (s2 + 1), by omega, by omega, fun k st fuel hfu => ?_⟩
     rw [show k + (s1 + (s2 + 1)) = k + 1 + s2 + s1 by omega, a3 _ st fuel (by omega), if_pos hq', b3 _ _ _ (by omega), if_pos hq2', ql6 (by rw [Nat.add_assoc]; exact hx) rfl (by omega)]
     have ha : arS o = 2 := qyL h9 h16
     have e1 : (st ++ [(qaZ vs env x).1] ++ [(qaZ vs env y).1]).length - 2 = st.length := by simp only [List.length_append, List.length_singleton]; omega
     have e2 : st ++ [(qaZ vs env x).1] ++ [(qaZ vs env y).1] = st ++ [(qaZ vs env x).1, (qaZ vs env y).1] := by simp
     simp only [ha, e1]
     rw [e2, List.drop_left, List.take_left, hv, show p + (X.length + Y.length + 1) = p + X.length + Y.length + 1 by omega]
     split
     ·congr 1; omega
     ·rfl
    ·have hq2' : (qaZ vs env y).2 ≠ 0 := by simpa using hq2
     rw [hq2, cond_true] at hv
     refine ⟨s1 + s2, by omega, by omega, fun k st fuel hfu => ?_⟩
     rw [show k + (s1 + s2) = k + s2 + s1 by omega, a3 _ st fuel (by omega), if_pos hq', b3 _ _ _ (by omega), if_neg hq2', hv, if_neg hq2']
   ·have hq' : (qaZ vs env x).2 ≠ 0 := by simpa using hq
    rw [hq, cond_true] at hv
    refine ⟨s1, a1, by omega, fun k st fuel hfu => ?_⟩
    rw [a3 k st fuel (by omega), if_neg hq', hv, if_neg hq']
theorem qg4 {t w : Int} (h : (qka t w).2 ≠ 0) : (qka t w).1 = ⟨0, 0⟩ := by
 unfold qka at h ⊢
 cases hb : (qbd w && qa6 ⟨t, w⟩)
 ·rfl
 ·rw [hb] at h; simp at h
theorem q1D {op t : Int} {a b : Vl} (h : (qhm op t a b).2 ≠ 0) : (qhm op t a b).1 = ⟨0, 0⟩ := by
 unfold qhm at h ⊢
 split at h
 ·rw [if_pos (by assumption)]; exact qg4 h
 ·rw [if_neg (by assumption)]
  split at h
  ·rw [if_pos (by assumption)]; exact qg4 h
  ·rw [if_neg (by assumption)]
   split at h
   ·rw [if_pos (by assumption)]
    unfold qCf at h ⊢
    split at h
    ·rw [if_pos (by assumption)]; exact qg4 h
    ·rw [if_neg (by assumption)]; exact qg4 h
   ·rw [if_neg (by assumption)]
    split at h
    ·rw [if_pos (by assumption)]
     unfold qI8 at h ⊢
     split at h
     ·rw [if_pos (by assumption)]
     ·rw [if_neg (by assumption)]
      split at h
      ·rw [if_pos (by assumption)]; exact qg4 h
      ·rw [if_neg (by assumption)]
       split at h
       ·exact absurd rfl h
       ·rw [if_neg (by assumption)]
        split at h
        ·rw [if_pos (by assumption)]; exact qg4 h
        ·rw [if_neg (by assumption)]; exact qg4 h
    ·repeat (split at h; exact absurd rfl h)
     exact absurd rfl h
theorem q5t {op t : Int} {l : List Vl} (h : (opV op t l).2 ≠ 0) : (opV op t l).1 = ⟨0, 0⟩ := by
 match l, h with
 | [], _ => rfl
 | [a], h =>
  simp only [opV] at h ⊢
  split at h
  ·rw [if_pos (by assumption)]; exact qg4 h
  ·exact absurd rfl h
 | [a, b], h => exact q1D h
 | [a, b, c], h => exact absurd rfl h
 | _ :: _ :: _ :: _ :: _, _ => rfl
theorem qYo {op : Int} {l : List Vl} (h : (qa8 op l).2 ≠ 0) : (qa8 op l).1 = ⟨0, 0⟩ := by
 unfold qa8 at h ⊢
 cases hr : (qa3 op (l.map (·.ty))).2
 ·rfl
 ·cases hv : l.all qa6
  ·rfl
  ·rw [hr, hv] at h
   exact q5t h
mutual
theorem qAq (vs : List Va) (env : List Vl) : ∀ e : Ex, (qaZ vs env e).2 ≠ 0 → (qaZ vs env e).1 = ⟨0, 0⟩
 | .mk o n s l, h => by
  have hi := qSy vs env l
  simp only [qaZ] at h ⊢
  split at h
  ·exact absurd rfl h
  ·rw [if_neg (by assumption)]
   split at h
   ·exact absurd rfl h
   ·rw [if_neg (by assumption)]
    split at h
    ·exact absurd rfl h
    ·rw [if_neg (by assumption)]
     split at h
     ·exact absurd rfl h
     ·rw [if_neg (by assumption)]
      split at h
      ·rw [if_pos (by assumption)]; exact hi h
      ·rw [if_neg (by assumption)]
       cases hq : ((qdJ vs env l).2 != 0)
       ·rw [hq] at h; exact qYo h
       ·rfl
theorem qSy (vs : List Va) (env : List Vl) : ∀ l : List Ex, (qvR vs env l).2 ≠ 0 → (qvR vs env l).1 = ⟨0, 0⟩
 | [c, a, b], h => by
  have ha := qAq vs env a
  have hb := qAq vs env b
  simp only [qvR] at h ⊢
  cases hq : ((qaZ vs env c).2 != 0)
  ·rw [hq] at h
   simp only [cond_false] at h ⊢
   split at h
   ·rw [if_pos (by assumption)]; exact ha h
   ·rw [if_neg (by assumption)]; exact hb h
  ·rfl
 | [], _ => rfl
 | [_], _ => rfl
 | [_, _], _ => rfl
 | _ :: _ :: _ :: _ :: _, _ => rfl
end
theorem qIO {e : Ex} {vs : List Va} {env : List Vl} (h : (qca e vs).2 = 0) : ∃ s : Nat, 1 ≤ s ∧ s ≤ (qca e vs).1.ins.length ∧ ∀ fuel : Int, ((qca e vs).1.ins.length : Int) ≤ fuel →
  qlG (qca e vs).1 env fuel = if (qcC e vs env).2 = 0 then ((qcC e vs env).1, fuel - s, 0) else (⟨0, 0⟩, 0, (qcC e vs env).2) := by
 obtain ⟨h1, h2, h3, h4, h5, d, h6, _⟩ := qtq h
 have hof : e.allX qas = true ∧ Ex.ty vs e = ((ofS e vs).1, 0) := by
  have h2' := h2
  unfold ofS at h2' ⊢
  cases hv : (qbr e != 0)
  ·rw [hv] at h2'
   simp only [cond_false] at h2' ⊢
   refine ⟨?_, by rw [← h2']⟩
   have hv' : qbr e = 0 := by simpa using hv
   unfold qbr at hv'
   cases q1 : (decide (e.nodes > 64) || decide (e.dep > 8))
   ·rw [q1] at hv'
    cases q2 : e.allX qas
    ·rw [q2] at hv'; cases hv'
    ·rfl
   ·rw [q1] at hv'; cases hv'
  ·rw [hv] at h2'
   simp only [cond_true] at h2'
   rw [h2'] at hv; simp at hv
 have ht : qcC e vs env = bif !qhp vs env then (⟨0, 0⟩, 1) else qaZ vs env e := by
  unfold qcC; rw [h1, h2]; rfl
 rw [h3]
 unfold qlG
 have hr : (qp6 ⟨(ofS e vs).1, vs, emE vs 0 e⟩).2 = 0 := by rw [← h3, h6]
 rw [hr, ht]
 simp only [bne_self_eq_false, cond_false]
 have hpos := Ex.nodes_pos e
 cases he : qhp vs env
 ·refine ⟨1, by omega, by omega, fun fuel _ => ?_⟩
  simp
 ·simp only [Bool.not_true, cond_false]
  obtain ⟨s, s1, s2, s3⟩ := qRP he e hof.1 _ hof.2 0 (ins := emE vs 0 e) (fun i x hx => by rw [Nat.zero_add]; exact hx)
  refine ⟨s, s1, s2, fun fuel hfu => ?_⟩
  have := s3 ((emE vs 0 e).length + 1 - s) [] fuel hfu
  rw [show (emE vs 0 e).length + 1 - s + s = (emE vs 0 e).length + 1 by omega] at this
  rw [this]
  split
  ·rw [show (emE vs 0 e).length + 1 - s = (emE vs 0 e).length - s + 1 by omega, run_end (by simp)]
   rfl
  ·rfl
theorem qg5 {c : Cd} {Z : Nat → List Int} (hF : FlowC c Z) {p : Nat} (hp : p < c.ins.length) : ∃ T jt go, qbA c.vars c.ins.length p c.ins[p] (Z p) = some (T, jt, go) ∧ T.length ≤ 16 ∧ (∀ q, jt = some q → Z q = T ∧ p < q ∧ q ≤ c.ins.length) ∧ (go = true → Z (p + 1) = T) := by
 obtain ⟨T, jt, go, h1, h2, h3, h4⟩ := hF.step p hp
 exact ⟨T, jt, go, h1, h2, fun q hq => ⟨h3 q hq, ((qqK h1).1 q hq).1, ((qqK h1).1 q hq).2⟩, h4⟩
theorem qxE {c : Cd} {Z : Nat → List Int} (hF : FlowC c Z) {p : Nat} (hp : p < c.ins.length) (ho : c.ins[p].op = 1) {st : List Vl} (hst : st.map (·.ty) = Z p) : (st ++ [(⟨c.ins[p].a, c.ins[p].n⟩ : Vl)]).map (·.ty) = Z (p + 1) ∧ st.length < 16 := by
 obtain ⟨T, jt, go, h1, h2, h3, h4⟩ := qg5 hF hp
 unfold qbA at h1
 rw [if_pos ho] at h1
 cases hb : pushB c.ins[p] <;> rw [hb] at h1
 ·cases h1
 ·cases h1
  have := congrArg List.length hst
  simp only [List.length_map, List.length_append, List.length_singleton] at this h2
  rw [h4 rfl, ← hst]
  exact ⟨by simp, by omega⟩
theorem qxC {c : Cd} {Z : Nat → List Int} (hF : FlowC c Z) {env : List Vl} (he : qhp c.vars env = true) {p : Nat} (hp : p < c.ins.length) (ho : c.ins[p].op = 2) {st : List Vl} (hst : st.map (·.ty) = Z p) :
  0 ≤ c.ins[p].a ∧ ∃ h : c.ins[p].a.toNat < env.length, (st ++ [env[c.ins[p].a.toNat]]).map (·.ty) = Z (p + 1) ∧ st.length < 16 := by
 obtain ⟨T, jt, go, h1, h2, h3, h4⟩ := qg5 hF hp
 unfold qbA at h1
 rw [if_neg (by omega)] at h1
 split at h1
 ·cases h1
 ·try rw [if_pos ho] at h1
  split at h1
  ·rename_i h0
   split at h1
   ·rename_i v hv
    cases h1
    obtain ⟨x, hx, q1, _⟩ := qVE he hv
    have hlt := (List.getElem?_eq_some_iff.1 hx).1
    have hxe : env[c.ins[p].a.toNat] = x := by
     rw [List.getElem?_eq_getElem hlt] at hx; exact Option.some.inj hx
    have := congrArg List.length hst
    simp only [List.length_map, List.length_append, List.length_singleton] at this h2
    refine ⟨h0, hlt, ?_, by omega⟩
    rw [h4 rfl, ← hst, hxe]
    simp [q1]
   ·cases h1
  ·cases h1
theorem qxD {c : Cd} {Z : Nat → List Int} (hF : FlowC c Z) {p : Nat} (hp : p < c.ins.length) (ho : c.ins[p].op = 3) {st : List Vl} (hst : st.map (·.ty) = Z p) :
  5 ≤ c.ins[p].a ∧ c.ins[p].a ≤ 18 ∧ arS c.ins[p].a ≤ st.length ∧ st.length ≤ 18 ∧ ∀ v, qa8 c.ins[p].a (st.drop (st.length - arS c.ins[p].a)) = (v, 0) → (st.take (st.length - arS c.ins[p].a) ++ [v]).map (·.ty) = Z (p + 1) := by
 obtain ⟨T, jt, go, h1, h2, h3, h4⟩ := qg5 hF hp
 unfold qbA at h1
 rw [if_neg (by omega)] at h1
 split at h1
 ·cases h1
 ·try rw [if_neg (show ¬ c.ins[p].op = 2 by omega)] at h1
  try rw [if_pos ho] at h1
  have hlen := congrArg List.length hst
  simp only [List.length_map] at hlen
  cases hq : qex c.ins[p].a (Z p) with
  | none => rw [hq] at h1; cases h1
  | some r =>
   rw [hq] at h1
   cases h1
   unfold qex at hq
   split at hq
   ·rename_i hc
    cases hr : (qa3 c.ins[p].a ((Z p).drop ((Z p).length - arS c.ins[p].a))).2
    ·rw [hr] at hq; cases hq
    ·rw [hr] at hq
     simp only [cond_true, Option.some.injEq] at hq
     have ha : arS c.ins[p].a ≤ 2 := by unfold arS; split <;> omega
     refine ⟨hc.1, hc.2.1, by omega, ?_, fun v hv => ?_⟩
     ·have := congrArg List.length hq
      simp only [List.length_append, List.length_take, List.length_singleton] at this
      omega
     ·obtain ⟨_, k2, _⟩ := qtk hv
      rw [h4 rfl, ← hq, List.map_append, List.map_take, hst, hlen]
      simp only [List.map_cons, List.map_nil]
      rw [k2, List.map_drop, hst, hlen]
   ·cases hq
theorem qxB {c : Cd} {Z : Nat → List Int} (hF : FlowC c Z) {p : Nat} (hp : p < c.ins.length) (ho : c.ins[p].op = 4) {st : List Vl} (hst : st.map (·.ty) = Z p) : 0 ≤ c.ins[p].a ∧ p < c.ins[p].a.toNat ∧ c.ins[p].a.toNat ≤ c.ins.length ∧ st.map (·.ty) = Z c.ins[p].a.toNat := by
 obtain ⟨T, jt, go, h1, h2, h3, h4⟩ := qg5 hF hp
 unfold qbA at h1
 rw [if_neg (by omega)] at h1
 split at h1
 ·cases h1
 ·try rw [if_neg (show ¬ c.ins[p].op = 2 by omega)] at h1
  try rw [if_neg (show ¬ c.ins[p].op = 3 by omega)] at h1
  try rw [if_pos ho] at h1
  split at h1
  ·cases h1
   obtain ⟨q1, q2, q3⟩ := h3 _ rfl
   exact ⟨by omega, q2, q3, by rw [hst, q1]⟩
  ·cases h1
theorem qsJ {c : Cd} {Z : Nat → List Int} (hF : FlowC c Z) {p : Nat} (hp : p < c.ins.length) (h1' : c.ins[p].op ≠ 1) (h2' : c.ins[p].op ≠ 2) (h3' : c.ins[p].op ≠ 3) (h4' : c.ins[p].op ≠ 4) {st : List Vl} (hst : st.map (·.ty) = Z p) :
  c.ins[p].op = 5 ∧ 0 ≤ c.ins[p].a ∧ p < c.ins[p].a.toNat ∧ c.ins[p].a.toNat ≤ c.ins.length ∧ st ≠ [] ∧ st.length ≤ 18 ∧ st.dropLast.map (·.ty) = Z c.ins[p].a.toNat ∧ st.dropLast.map (·.ty) = Z (p + 1) := by
 obtain ⟨T, jt, go, h1, h2, h3, h4⟩ := qg5 hF hp
 unfold qbA at h1
 rw [if_neg h1'] at h1
 split at h1
 ·cases h1
 ·try rw [if_neg (show ¬ c.ins[p].op = 2 by omega)] at h1
  try rw [if_neg (show ¬ c.ins[p].op = 3 by omega)] at h1
  try rw [if_neg (show ¬ c.ins[p].op = 4 by omega)] at h1
  split at h1
  ·rename_i ho
   split at h1
   ·rename_i hc
    cases h1
    obtain ⟨q1, q2, q3⟩ := h3 _ rfl
    have hne : st ≠ [] := by
     rintro rfl
     rw [← hst] at hc
     have := hc.1
     simp at this
    have hlen := congrArg List.length hst
    simp only [List.length_map, List.length_dropLast] at hlen h2
    refine ⟨ho, by omega, q2, q3, hne, by omega, ?_, ?_⟩
    ·rw [q1, ← hst, List.map_dropLast]
    ·rw [h4 rfl, ← hst, List.map_dropLast]
   ·cases h1
  ·cases h1
end Go.Tk

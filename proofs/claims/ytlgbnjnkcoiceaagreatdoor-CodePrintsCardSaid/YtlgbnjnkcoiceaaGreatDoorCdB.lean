/- Laws of code over plain data: compiled code is valid; equal code comes from equal expressions; jumps that are not right. -/
import Derived.Test.YtlgbnjnkcoiceaaGreatDoorCdA
set_option linter.unusedVariables false
set_option linter.unusedSimpArgs false
set_option linter.unnecessarySimpa false
namespace Go.Tk
open Go Go.Eng
set_option maxRecDepth 20000
theorem emE_lit {vs : List Va} {k : Nat} {o n : Int} {s : Bs} {l : List Ex} (h : o = 1 ∨ o = 2 ∨ o = 3) : emE vs k (.mk o n s l) = [⟨1, o, n⟩] := by
  rw [emE, if_pos h]
theorem emE_var {vs : List Va} {k : Nat} {n : Int} {s : Bs} {l : List Ex} : emE vs k (.mk 4 n s l) = [⟨2, idxS vs s, 0⟩] := by
  rw [emE, if_neg (by decide), if_pos rfl]
theorem emE_if {vs : List Va} {k : Nat} {n : Int} {s : Bs} {l : List Ex} : emE vs k (.mk 19 n s l) = emI vs k l := by
  rw [emE, if_neg (by decide), if_neg (by decide), if_pos rfl]
theorem emE_op {vs : List Va} {k : Nat} {o n : Int} {s : Bs} {l : List Ex} (h : 5 ≤ o ∧ o ≤ 18) : emE vs k (.mk o n s l) = emL vs k l ++ [⟨3, o, 0⟩] := by
  rw [emE, if_neg (by omega), if_neg (by omega), if_neg (by omega)]
theorem formed_cases {o n : Int} {s : Bs} {l : List Ex} (h : formedB (.mk o n s l) = true) :
    ((o = 1 ∨ o = 2 ∨ o = 3) ∧ l = [] ∧ s = [] ∧ 0 ≤ n ∧ n ≤ mostS o) ∨ (o = 4 ∧ l = [] ∧ n = 0) ∨ ((o = 9 ∨ o = 16) ∧ l.length = 1 ∧ n = 0 ∧ s = []) ∨ (o = 19 ∧ l.length = 3 ∧ n = 0 ∧ s = []) ∨ ((5 ≤ o ∧ o ≤ 18) ∧ o ≠ 9 ∧ o ≠ 16 ∧ l.length = 2 ∧ n = 0 ∧ s = []) := by
  replace h : (operandsS o == (l.length : Int) && (decide (n ≥ 0) && (decide (n ≤ mostS o) && (s == [] || o == 4)))) = true := h
  simp only [Bool.and_eq_true, beq_iff_eq, decide_eq_true_eq, Bool.or_eq_true] at h
  obtain ⟨h1, h2, h3, h4⟩ := h
  by_cases c1 : o = 1 ∨ o = 2 ∨ o = 3
  · left
    rw [operandsS, if_pos (by omega)] at h1
    refine ⟨c1, List.length_eq_zero_iff.1 (by omega), ?_, by omega, h3⟩
    rcases h4 with h | h
    · exact h
    · omega
  by_cases c2 : o = 4
  · right; left
    rw [operandsS, if_pos (by omega)] at h1
    rw [mostS, if_neg (by omega), if_neg (by omega), if_neg (by omega)] at h3
    exact ⟨c2, List.length_eq_zero_iff.1 (by omega), by omega⟩
  have hs : s = [] := by
    rcases h4 with h | h
    · exact h
    · exact absurd h c2
  have hn : n = 0 := by
    rw [mostS, if_neg (by omega), if_neg (by omega), if_neg (by omega)] at h3
    omega
  right; right
  rw [operandsS, if_neg (by omega)] at h1
  split at h1
  · left; exact ⟨by assumption, by omega, hn, hs⟩
  · split at h1
    · right; left; exact ⟨by assumption, by omega, hn, hs⟩
    · split at h1
      · right; right
        rename_i k1 k2 k3
        exact ⟨by omega, by omega, by omega, by omega, hn, hs⟩
      · omega
theorem emL_len1 {vs : List Va} {k : Nat} {x : Ex} : emL vs k [x] = emE vs k x := by simp [emL]
theorem emL_len2 {vs : List Va} {k : Nat} {x y : Ex} : emL vs k [x, y] = emE vs k x ++ emE vs (k + (emE vs k x).length) y := by simp [emL]
theorem len1 {l : List Ex} (h : l.length = 1) : ∃ x, l = [x] := by
  match l, h with
  | [x], _ => exact ⟨x, rfl⟩
theorem len2 {l : List Ex} (h : l.length = 2) : ∃ x y, l = [x, y] := by
  match l, h with
  | [x, y], _ => exact ⟨x, y, rfl⟩
theorem len3 {l : List Ex} (h : l.length = 3) : ∃ x y z, l = [x, y, z] := by
  match l, h with
  | [x, y, z], _ => exact ⟨x, y, z, rfl⟩
theorem em_len (vs : List Va) : ∀ e : Ex, e.allX formedB = true → ∀ k, e.nodes ≤ (emE vs k e).length ∧ (emE vs k e).length ≤ 2 * e.nodes := by
  intro e
  induction e using Ex.ind with
  | h o n s l ih =>
    intro hf k
    rw [Ex.allX_eq, Bool.and_eq_true, List.all_eq_true] at hf
    obtain ⟨h1, h2⟩ := hf
    simp only [Ex.args] at h2
    rcases formed_cases h1 with ⟨h, rfl, _⟩ | ⟨rfl, rfl, _⟩ | ⟨h, hl, _⟩ | ⟨rfl, hl, _⟩ | ⟨h, _, _, hl, _⟩
    · rw [emE_lit h]; simp [Ex.nodes, Ex.nodesL]
    · rw [emE_var]; simp [Ex.nodes, Ex.nodesL]
    · obtain ⟨x, rfl⟩ := len1 hl
      rw [emE_op (by omega), emL_len1]
      have := ih x (by simp) (h2 x (by simp)) k
      simp only [Ex.nodes, Ex.nodesL, List.length_append, List.length_singleton]; omega
    · obtain ⟨x, y, z, rfl⟩ := len3 hl
      rw [emE_if]
      have a := ih x (by simp) (h2 x (by simp))
      have b := ih y (by simp) (h2 y (by simp))
      have c := ih z (by simp) (h2 z (by simp))
      simp only [emI, Ex.nodes, Ex.nodesL, List.length_append, List.length_cons]
      generalize k + (emE vs k x).length + 1 = k1
      have a := a k
      have b := b k1
      generalize k1 + (emE vs k1 y).length + 1 = k2
      have c := c k2
      omega
    · obtain ⟨x, y, rfl⟩ := len2 hl
      rw [emE_op (by omega), emL_len2]
      have a := ih x (by simp) (h2 x (by simp)) k
      have b := ih y (by simp) (h2 y (by simp)) (k + (emE vs k x).length)
      simp only [Ex.nodes, Ex.nodesL, List.length_append, List.length_singleton]; omega
abbrev un : Sk := ⟨false, false, []⟩
abbrev ks (T : List Int) : Sk := ⟨true, false, T⟩
theorem sk0_len (N : Nat) : (sk0 N).length = N + 1 := by simp [sk0]
theorem walk_ok {vs : List Va} {N : Nat} : ∀ {l : List In} {i : Nat} {σ : List Sk} {d : Nat}, (walkS vs N i l σ d).1 = 0 → ∀ (j : Nat) (h : j < l.length), ∃ T r, stepS vs N (i + j) l[j] T = some r
  | [], i, σ, d, _, j, h => by simp at h
  | x :: l, i, σ, d, h0, j, h => by
    simp only [walkS] at h0
    cases h1 : ((oneI vs N i x σ).1 != 0)
    · rw [h1] at h0
      cases j with
      | zero =>
        have h1' : (oneI vs N i x σ).1 = 0 := by simpa using h1
        unfold oneI at h1'
        cases hs : σ[i]? with
        | none => rw [hs] at h1'; simp at h1'
        | some s =>
          rw [hs] at h1'
          simp only at h1'
          cases hb : (!s.kn || s.bad) with
          | true => rw [hb] at h1'; simp at h1'
          | false =>
            rw [hb] at h1'
            simp only [cond_false] at h1'
            cases hq : stepS vs N i x s.ts with
            | none => rw [hq] at h1'; simp at h1'
            | some r => exact ⟨s.ts, r, hq⟩
      | succ j =>
        obtain ⟨T, r, hr⟩ := walk_ok h0 j (by simpa using h)
        exact ⟨T, r, by rw [show i + (j + 1) = i + 1 + j by omega]; exact hr⟩
    · rw [h1] at h0; simp only [cond_true] at h0; rw [h0] at h1; simp at h1
def atD (σ : List Sk) (i : Nat) : Nat := match σ[i]? with
  | some s => s.ts.length
  | none => 0
def okD (σ : List Sk) (i : Nat) : Bool := match σ[i]? with
  | some s => s.kn && !s.bad
  | none => false
def walkR (vs : List Va) (N : Nat) : Nat → List In → List Sk → Nat → Int × List Sk × Nat
  | i, [], σ, d => bif okD σ i then (0, σ, max d (atD σ i)) else (9, σ, d)
  | i, x :: l, σ, d => bif (oneI vs N i x σ).1 != 0 then ((oneI vs N i x σ).1, σ, d) else walkR vs N (i + 1) l (oneI vs N i x σ).2.1 (max d (atD σ i))
def tsB (c : Cd) (σ : List Sk) : Bool := match σ[c.ins.length]? with
  | some s => s.ts == [c.ty]
  | none => false
def runR (c : Cd) : Int × Int := if c.ins.length > 128 then (0, 5) else bif varsS c.vars != 0 then (0, varsS c.vars) else
  bif (walkR c.vars c.ins.length 0 c.ins (sk0 c.ins.length) 0).1 != 0 then (0, (walkR c.vars c.ins.length 0 c.ins (sk0 c.ins.length) 0).1) else bif tsB c (walkR c.vars c.ins.length 0 c.ins (sk0 c.ins.length) 0).2.1 then (((walkR c.vars c.ins.length 0 c.ins (sk0 c.ins.length) 0).2.2 : Int), 0) else (0, 9)
theorem oneI_ok {vs : List Va} {N i : Nat} {x : In} {σ : List Sk} (h : (oneI vs N i x σ).1 = 0) : ∃ s T jt go, σ[i]? = some s ∧ s.kn = true ∧ s.bad = false ∧ stepS vs N i x s.ts = some (T, jt, go) ∧ oneI vs N i x σ = (0, goS (toS σ T jt) T i go, T.length) := by
  unfold oneI at h
  cases hs : σ[i]? with
  | none => rw [hs] at h; simp at h
  | some s =>
    rw [hs] at h
    simp only at h
    cases hb : (!s.kn || s.bad) with
    | true => rw [hb] at h; simp at h
    | false =>
      rw [hb] at h
      simp only [cond_false] at h
      simp only [Bool.or_eq_false_iff, Bool.not_eq_false'] at hb
      cases hq : stepS vs N i x s.ts with
      | none => rw [hq] at h; simp at h
      | some r =>
        obtain ⟨T, jt, go⟩ := r
        rw [hq] at h
        simp only at h
        split at h
        · simp at h
        · rename_i hT
          refine ⟨s, T, jt, go, rfl, hb.1, hb.2, hq, ?_⟩
          simp only [oneI, hs, hb.1, hb.2, hq, if_neg hT]
          rfl
theorem step_to {vs : List Va} {N i : Nat} {x : In} {T T' : List Int} {jt : Option Nat} {go : Bool} (h : stepS vs N i x T = some (T', jt, go)) : (∀ j, jt = some j → i < j ∧ j ≤ N) ∧ (go = true ∨ ∃ j, jt = some j) := by
  unfold stepS at h
  split at h
  · cases hp : pushB x <;> rw [hp] at h
    · cases h
    · cases h; exact ⟨fun j hj => (by cases hj), .inl rfl⟩
  · split at h
    · cases h
    · split at h
      · split at h
        · split at h
          · cases h; exact ⟨fun j hj => (by cases hj), .inl rfl⟩
          · cases h
        · cases h
      · split at h
        · cases ho : operS x.a T with
          | none => rw [ho] at h; cases h
          | some r => rw [ho] at h; cases h; exact ⟨fun j hj => (by cases hj), .inl rfl⟩
        · split at h
          · split at h
            · cases h; exact ⟨fun j hj => (by cases hj; omega), .inr ⟨_, rfl⟩⟩
            · cases h
          · split at h
            · split at h
              · rename_i hq
                cases h; exact ⟨fun j hj => (by cases hj; omega), .inl rfl⟩
              · cases h
            · cases h
def emptyD (σ : List Sk) : Prop := ∀ (j : Nat) (s : Sk), σ[j]? = some s → s.kn = false → s.ts = []
def soundD (σ : List Sk) (i : Nat) : Prop := ∀ (j : Nat) (s : Sk), i ≤ j → σ[j]? = some s → s.bad = false
theorem lead_empty {σ : List Sk} {jt : Nat} {T : List Int} (h : emptyD σ) : emptyD (leadS σ jt T) := by
  intro j s hs hk
  rw [lead_get] at hs
  split at hs
  · cases hq : σ[j]? with
    | none => rw [hq] at hs; cases hs
    | some s0 =>
      rw [hq] at hs
      simp only [Option.map_some, Option.some.injEq] at hs
      subst hs
      unfold meetS at hk
      cases hk0 : s0.kn <;> rw [hk0] at hk <;> cases hk
  · exact h j s hs hk
theorem lead_bad {σ : List Sk} {jt i : Nat} {T : List Int} (h : soundD (leadS σ jt T) i) : soundD σ i := by
  intro j s hj hs
  by_cases c : j = jt
  · have := h j (meetS s T) hj (by rw [lead_get, if_pos c, hs]; rfl)
    unfold meetS at this
    cases hk : s.kn <;> rw [hk] at this
    · exact this
    · simp only [cond_true, Bool.or_eq_false_iff] at this; exact this.1
  · exact h j s hj (by rw [lead_get, if_neg c]; exact hs)
def belowD (σ : List Sk) (i m : Nat) : Prop := ∀ (j : Nat) (s : Sk), i ≤ j → σ[j]? = some s → s.ts.length ≤ m
theorem lead_below {σ : List Sk} {jt i m : Nat} {T : List Int} (he : emptyD σ) (hs : soundD (leadS σ jt T) i) (hi : i ≤ jt) (hl : jt < σ.length) : belowD (leadS σ jt T) i m ↔ belowD σ i m ∧ T.length ≤ m := by
  have hq : σ[jt]? = some σ[jt] := List.getElem?_eq_getElem hl
  have hto : (leadS σ jt T)[jt]? = some (meetS σ[jt] T) := by rw [lead_get, if_pos rfl, hq]; rfl
  have hmeet : (meetS σ[jt] T).ts = T := by
    have hb := hs jt _ hi hto
    unfold meetS at hb ⊢
    cases hk : σ[jt].kn
    · rfl
    · rw [hk] at hb
      simp only [cond_true, Bool.or_eq_false_iff, bne_eq_false_iff_eq] at hb
      exact hb.2
  constructor
  · intro h
    refine ⟨fun j s hj hs' => ?_, by have := h jt _ hi hto; rwa [hmeet] at this⟩
    by_cases c : j = jt
    · subst c
      rw [hq] at hs'; cases hs'
      cases hk : σ[j].kn
      · rw [he j _ hq hk]; simp
      · have := h j _ hi hto
        unfold meetS at this
        rw [hk] at this; exact this
    · exact h j s hj (by rw [lead_get, if_neg c]; exact hs')
  · rintro ⟨h, hT⟩ j s hj hs'
    by_cases c : j = jt
    · subst c
      rw [hto] at hs'; cases hs'
      rw [hmeet]; exact hT
    · rw [lead_get, if_neg c] at hs'
      exact h j s hj hs'
theorem walk_both {vs : List Va} {N : Nat} : ∀ {l : List In} {i : Nat} {σ : List Sk} {d d2 : Nat}, i + l.length = N → σ.length = N + 1 →
    ((walkS vs N i l σ d).1 ≠ 0 → (walkR vs N i l σ d2).1 = (walkS vs N i l σ d).1) ∧ ((walkS vs N i l σ d).1 = 0 → (walkR vs N i l σ d2).1 = (bif okD (walkS vs N i l σ d).2.1 N then 0 else 9) ∧ (walkR vs N i l σ d2).2.1 = (walkS vs N i l σ d).2.1)
  | [], i, σ, d, d2, hi, hl => by
    simp only [List.length_nil, Nat.add_zero] at hi
    subst hi
    simp only [walkS, walkR]
    refine ⟨fun h => absurd rfl h, fun _ => ?_⟩
    cases okD σ i <;> exact ⟨rfl, rfl⟩
  | x :: l, i, σ, d, d2, hi, hl => by
    simp only [List.length_cons] at hi
    simp only [walkS, walkR]
    cases h1 : ((oneI vs N i x σ).1 != 0)
    · simp only [cond_false]
      exact walk_both (by omega) (by rw [oneI_len, hl])
    · simp only [cond_true]
      exact ⟨fun _ => trivial, fun h => by rw [h] at h1; simp at h1⟩
theorem walk_depth {vs : List Va} {N : Nat} : ∀ {l : List In} {i : Nat} {σ : List Sk} {d d2 : Nat}, i + l.length = N → σ.length = N + 1 → emptyD σ → (walkS vs N i l σ d).1 = 0 → okD (walkS vs N i l σ d).2.1 N = true →
    soundD σ i ∧ ((∀ m, d ≤ m ↔ d2 ≤ m ∧ belowD σ i m) → (walkR vs N i l σ d2).2.2 = (walkS vs N i l σ d).2.2)
  | [], i, σ, d, d2, hi, hl, he, h0, hok => by
    simp only [List.length_nil, Nat.add_zero] at hi
    subst hi
    simp only [walkS] at hok
    have hq : σ[i]? = some σ[i] := List.getElem?_eq_getElem (by omega)
    have hok' := hok
    rw [okD, hq] at hok'
    simp only [Bool.and_eq_true, Bool.not_eq_true'] at hok'
    refine ⟨fun j s hj hs => ?_, fun hm => ?_⟩
    · have : j = i := by
        have := (List.getElem?_eq_some_iff.1 hs).1
        omega
      subst this
      rw [hq] at hs; cases hs
      exact hok'.2
    · simp only [walkR, walkS, hok, cond_true]
      have hat : atD σ i = σ[i].ts.length := by rw [atD, hq]
      have hb : ∀ m, belowD σ i m ↔ σ[i].ts.length ≤ m := by
        intro m
        constructor
        · intro h; exact h i _ (Nat.le_refl _) hq
        · intro h j s hj hs
          have : j = i := by
            have := (List.getElem?_eq_some_iff.1 hs).1
            omega
          subst this
          rw [hq] at hs; cases hs; exact h
      have h1 := (hm d).1 (Nat.le_refl _)
      have h2 := (hm (max d2 (atD σ i))).2 ⟨by omega, (hb _).2 (by rw [← hat]; omega)⟩
      have h3 := (hb d).1 h1.2
      omega
  | x :: l, i, σ, d, d2, hi, hl, he, h0, hok => by
    simp only [List.length_cons] at hi
    simp only [walkS] at h0 hok
    simp only [walkS, walkR]
    cases h1 : ((oneI vs N i x σ).1 != 0)
    · rw [h1] at h0 hok
      simp only [cond_false] at h0 hok ⊢
      obtain ⟨s, T, jt, go, g1, g2, g3, g4, g5⟩ := oneI_ok (by simpa using h1)
      obtain ⟨g6, g7⟩ := step_to g4
      rw [g5] at h0 hok ⊢
      simp only at h0 hok ⊢
      have hq : σ[i]? = some s := g1
      have he1 : emptyD (toS σ T jt) := by cases jt with | none => exact he | some j => exact lead_empty he
      have he2 : emptyD (goS (toS σ T jt) T i go) := by cases go with | false => exact he1 | true => exact lead_empty he1
      have ih := walk_depth (d := max d T.length) (d2 := max d2 (atD σ i)) (by omega) (by rw [go_len, to_len, hl]) he2 h0 hok
      obtain ⟨ih1, ih2⟩ := ih
      have hs1 : soundD (toS σ T jt) (i + 1) := by cases go with | false => exact ih1 | true => exact lead_bad ih1
      have hs2 : soundD σ (i + 1) := by cases jt with | none => exact hs1 | some j => exact lead_bad hs1
      have hs3 : soundD σ i := by
        intro j s' hj hs'
        by_cases c : j = i
        · subst c; rw [hq] at hs'; cases hs'; exact g3
        · exact hs2 j s' (by omega) hs'
      refine ⟨hs3, fun hm => ih2 fun m => ?_⟩
      have hat : atD σ i = s.ts.length := by rw [atD, hq]
      have hsplit : belowD σ i m ↔ atD σ i ≤ m ∧ belowD σ (i + 1) m := by
        rw [hat]
        constructor
        · intro h; exact ⟨h i s (Nat.le_refl _) hq, fun j s' hj hs' => h j s' (by omega) hs'⟩
        · rintro ⟨h3, h4⟩ j s' hj hs'
          by_cases c : j = i
          · subst c; rw [hq] at hs'; cases hs'; exact h3
          · exact h4 j s' (by omega) hs'
      have hlead : belowD (goS (toS σ T jt) T i go) (i + 1) m ↔ belowD σ (i + 1) m ∧ T.length ≤ m := by
        have hto : ∀ j, jt = some j → (belowD (toS σ T jt) (i + 1) m ↔ belowD σ (i + 1) m ∧ T.length ≤ m) := by
          rintro j rfl
          have := g6 j rfl
          exact lead_below he hs1 (by omega) (by omega)
        have hgo : go = true → (belowD (goS (toS σ T jt) T i go) (i + 1) m ↔ belowD (toS σ T jt) (i + 1) m ∧ T.length ≤ m) := by
          rintro rfl
          exact lead_below he1 ih1 (Nat.le_refl _) (by rw [to_len]; omega)
        cases go with
        | false =>
          rcases g7 with h | ⟨j, h⟩
          · cases h
          · exact hto j h
        | true =>
          rw [hgo rfl]
          cases jt with
          | none => exact Iff.rfl
          | some j => rw [hto j rfl]; exact ⟨fun h => h.1, fun h => ⟨h, h.2⟩⟩
      have := hm m
      rw [hsplit] at this
      rw [hlead, Nat.max_le, Nat.max_le, this]
      constructor
      · rintro ⟨⟨a, b, c⟩, e⟩; exact ⟨⟨a, b⟩, c, e⟩
      · rintro ⟨⟨a, b⟩, c, e⟩; exact ⟨⟨a, b, c⟩, e⟩
    · rw [h1] at h0; simp only [cond_true] at h0; rw [h0] at h1; simp at h1
theorem sk0_empty (N : Nat) : emptyD (sk0 N) := by
  intro j s hs hk
  cases j with
  | zero => simp [sk0] at hs; subst hs; rfl
  | succ j =>
    simp only [sk0, List.getElem?_cons_succ, List.getElem?_replicate] at hs
    split at hs
    · cases hs; rfl
    · cases hs
theorem runR_eq (c : Cd) : runR c = runS c := by
  unfold runR runS
  split
  · rfl
  · cases h1 : (varsS c.vars != 0)
    · simp only [cond_false]
      have hW : walkS c.vars c.ins.length 0 c.ins (sk0 c.ins.length) 0 = walkC c := rfl
      obtain ⟨b1, b2⟩ := walk_both (vs := c.vars) (l := c.ins) (i := 0) (σ := sk0 c.ins.length) (d := 0) (d2 := 0) (by omega) (sk0_len _)
      have b5 := walk_depth (vs := c.vars) (l := c.ins) (i := 0) (σ := sk0 c.ins.length) (d := 0) (d2 := 0) (by omega) (sk0_len _) (sk0_empty _)
      rw [hW] at b1 b2 b5
      cases h2 : ((walkC c).1 != 0)
      · have h2' : (walkC c).1 = 0 := by simpa using h2
        obtain ⟨b3, b4⟩ := b2 h2'
        have hend : endB c (walkC c).2.1 = (okD (walkC c).2.1 c.ins.length && tsB c (walkC c).2.1) := by
          unfold endB okD tsB
          cases (walkC c).2.1[c.ins.length]? <;> rfl
        rw [b3, b4, hend]
        cases h3 : okD (walkC c).2.1 c.ins.length
        · simp
        · cases h4 : tsB c (walkC c).2.1
          · rfl
          · have := (b5 h2' h3).2 (fun m => by
              refine ⟨fun _ => ⟨Nat.zero_le _, fun j s _ hs => ?_⟩, fun _ => Nat.zero_le _⟩
              cases j with
              | zero => simp [sk0] at hs; subst hs; simp
              | succ j =>
                simp only [sk0, List.getElem?_cons_succ, List.getElem?_replicate] at hs
                split at hs
                · cases hs; simp
                · cases hs)
            rw [this]; rfl
      · rw [b1 (by simpa using h2), h2]
        rfl
    · rfl
end Go.Tk

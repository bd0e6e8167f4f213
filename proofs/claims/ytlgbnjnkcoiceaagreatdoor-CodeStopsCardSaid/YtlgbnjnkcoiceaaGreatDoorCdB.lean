/- Laws of code over plain data: compiled code is valid; equal code comes from equal expressions; jumps that are not right. -/
import Derived.Test.YtlgbnjnkcoiceaaGreatDoorCdA
set_option linter.unusedVariables false
set_option linter.unusedSimpArgs false
set_option linter.unnecessarySimpa false
namespace Go.Tk
open Go Go.Eng
set_option maxRecDepth 20000
theorem emE_lit {vs : List Va} {k : Nat} {o n : Int} {s : Bs} {l : List Ex} (h : o = 1 ∨ o = 2 ∨ o = 3) : emE vs k (.mk o n s l) = [⟨1, o, n⟩] := by
  rw [emE, if_pos h]
theorem emE_var {vs : List Va} {k : Nat} {n : Int} {s : Bs} {l : List Ex} : emE vs k (.mk 4 n s l) = [⟨2, idxS vs s, 0⟩] := by
  rw [emE, if_neg (by decide), if_pos rfl]
theorem emE_if {vs : List Va} {k : Nat} {n : Int} {s : Bs} {l : List Ex} : emE vs k (.mk 19 n s l) = emI vs k l := by
  rw [emE, if_neg (by decide), if_neg (by decide), if_pos rfl]
theorem emE_op {vs : List Va} {k : Nat} {o n : Int} {s : Bs} {l : List Ex} (h : 5 ≤ o ∧ o ≤ 18) : emE vs k (.mk o n s l) = emL vs k l ++ [⟨3, o, 0⟩] := by
  rw [emE, if_neg (by omega), if_neg (by omega), if_neg (by omega)]
theorem formed_cases {o n : Int} {s : Bs} {l : List Ex} (h : formedB (.mk o n s l) = true) :
    ((o = 1 ∨ o = 2 ∨ o = 3) ∧ l = [] ∧ s = [] ∧ 0 ≤ n ∧ n ≤ mostS o) ∨ (o = 4 ∧ l = [] ∧ n = 0) ∨ ((o = 9 ∨ o = 16) ∧ l.length = 1 ∧ n = 0 ∧ s = []) ∨ (o = 19 ∧ l.length = 3 ∧ n = 0 ∧ s = []) ∨ ((5 ≤ o ∧ o ≤ 18) ∧ o ≠ 9 ∧ o ≠ 16 ∧ l.length = 2 ∧ n = 0 ∧ s = []) := by
  replace h : (operandsS o == (l.length : Int) && (decide (n ≥ 0) && (decide (n ≤ mostS o) && (s == [] || o == 4)))) = true := h
  simp only [Bool.and_eq_true, beq_iff_eq, decide_eq_true_eq, Bool.or_eq_true] at h
  obtain ⟨h1, h2, h3, h4⟩ := h
  by_cases c1 : o = 1 ∨ o = 2 ∨ o = 3
  · left
    rw [operandsS, if_pos (by omega)] at h1
    refine ⟨c1, List.length_eq_zero_iff.1 (by omega), ?_, by omega, h3⟩
    rcases h4 with h | h
    · exact h
    · omega
  by_cases c2 : o = 4
  · right; left
    rw [operandsS, if_pos (by omega)] at h1
    rw [mostS, if_neg (by omega), if_neg (by omega), if_neg (by omega)] at h3
    exact ⟨c2, List.length_eq_zero_iff.1 (by omega), by omega⟩
  have hs : s = [] := by
    rcases h4 with h | h
    · exact h
    · exact absurd h c2
  have hn : n = 0 := by
    rw [mostS, if_neg (by omega), if_neg (by omega), if_neg (by omega)] at h3
    omega
  right; right
  rw [operandsS, if_neg (by omega)] at h1
  split at h1
  · left; exact ⟨by assumption, by omega, hn, hs⟩
  · split at h1
    · right; left; exact ⟨by assumption, by omega, hn, hs⟩
    · split at h1
      · right; right
        rename_i k1 k2 k3
        exact ⟨by omega, by omega, by omega, by omega, hn, hs⟩
      · omega
theorem emL_len1 {vs : List Va} {k : Nat} {x : Ex} : emL vs k [x] = emE vs k x := by simp [emL]
theorem emL_len2 {vs : List Va} {k : Nat} {x y : Ex} : emL vs k [x, y] = emE vs k x ++ emE vs (k + (emE vs k x).length) y := by simp [emL]
theorem len1 {l : List Ex} (h : l.length = 1) : ∃ x, l = [x] := by
  match l, h with
  | [x], _ => exact ⟨x, rfl⟩
theorem len2 {l : List Ex} (h : l.length = 2) : ∃ x y, l = [x, y] := by
  match l, h with
  | [x, y], _ => exact ⟨x, y, rfl⟩
theorem len3 {l : List Ex} (h : l.length = 3) : ∃ x y z, l = [x, y, z] := by
  match l, h with
  | [x, y, z], _ => exact ⟨x, y, z, rfl⟩
theorem em_len (vs : List Va) : ∀ e : Ex, e.allX formedB = true → ∀ k, e.nodes ≤ (emE vs k e).length ∧ (emE vs k e).length ≤ 2 * e.nodes := by
  intro e
  induction e using Ex.ind with
  | h o n s l ih =>
    intro hf k
    rw [Ex.allX_eq, Bool.and_eq_true, List.all_eq_true] at hf
    obtain ⟨h1, h2⟩ := hf
    simp only [Ex.args] at h2
    rcases formed_cases h1 with ⟨h, rfl, _⟩ | ⟨rfl, rfl, _⟩ | ⟨h, hl, _⟩ | ⟨rfl, hl, _⟩ | ⟨h, _, _, hl, _⟩
    · rw [emE_lit h]; simp [Ex.nodes, Ex.nodesL]
    · rw [emE_var]; simp [Ex.nodes, Ex.nodesL]
    · obtain ⟨x, rfl⟩ := len1 hl
      rw [emE_op (by omega), emL_len1]
      have := ih x (by simp) (h2 x (by simp)) k
      simp only [Ex.nodes, Ex.nodesL, List.length_append, List.length_singleton]; omega
    · obtain ⟨x, y, z, rfl⟩ := len3 hl
      rw [emE_if]
      have a := ih x (by simp) (h2 x (by simp))
      have b := ih y (by simp) (h2 y (by simp))
      have c := ih z (by simp) (h2 z (by simp))
      simp only [emI, Ex.nodes, Ex.nodesL, List.length_append, List.length_cons]
      generalize k + (emE vs k x).length + 1 = k1
      have a := a k
      have b := b k1
      generalize k1 + (emE vs k1 y).length + 1 = k2
      have c := c k2
      omega
    · obtain ⟨x, y, rfl⟩ := len2 hl
      rw [emE_op (by omega), emL_len2]
      have a := ih x (by simp) (h2 x (by simp)) k
      have b := ih y (by simp) (h2 y (by simp)) (k + (emE vs k x).length)
      simp only [Ex.nodes, Ex.nodesL, List.length_append, List.length_singleton]; omega
abbrev un : Sk := ⟨false, false, []⟩
abbrev ks (T : List Int) : Sk := ⟨true, false, T⟩
theorem walk_ok {vs : List Va} {N : Nat} : ∀ {l : List In} {i : Nat} {σ : List Sk} {d : Nat}, (walkS vs N i l σ d).1 = 0 → ∀ (j : Nat) (h : j < l.length), ∃ T r, stepS vs N (i + j) l[j] T = some r
  | [], i, σ, d, _, j, h => by simp at h
  | x :: l, i, σ, d, h0, j, h => by
    simp only [walkS] at h0
    cases h1 : ((oneI vs N i x σ).1 != 0)
    · rw [h1] at h0
      cases j with
      | zero =>
        have h1' : (oneI vs N i x σ).1 = 0 := by simpa using h1
        unfold oneI at h1'
        cases hs : σ[i]? with
        | none => rw [hs] at h1'; simp at h1'
        | some s =>
          rw [hs] at h1'
          simp only at h1'
          cases hb : (!s.kn || s.bad) with
          | true => rw [hb] at h1'; simp at h1'
          | false =>
            rw [hb] at h1'
            simp only [cond_false] at h1'
            cases hq : stepS vs N i x s.ts with
            | none => rw [hq] at h1'; simp at h1'
            | some r => exact ⟨s.ts, r, hq⟩
      | succ j =>
        obtain ⟨T, r, hr⟩ := walk_ok h0 j (by simpa using h)
        exact ⟨T, r, by rw [show i + (j + 1) = i + 1 + j by omega]; exact hr⟩
    · rw [h1] at h0; simp only [cond_true] at h0; rw [h0] at h1; simp at h1
theorem run_stop {c : Cd} {n : Nat} (hn : n < c.ins.length) (h4 : c.ins[n].op = 4) (ha : ¬ ((n : Int) < c.ins[n].a ∧ c.ins[n].a ≤ (c.ins.length : Int))) : (runS c).1 = 0 ∧ (runS c).2 ≠ 0 := by
  unfold runS
  split
  · simp
  · cases h1 : (varsS c.vars != 0)
    · cases h2 : ((walkC c).1 != 0)
      · exfalso
        have h2' : (walkC c).1 = 0 := by simpa using h2
        obtain ⟨T, r, hr⟩ := walk_ok (l := c.ins) h2' n hn
        simp [stepS, h4, ha] at hr
      · simpa using h2
    · simpa using h1
theorem step_to {vs : List Va} {N i : Nat} {x : In} {T T' : List Int} {jt : Option Nat} {go : Bool} (h : stepS vs N i x T = some (T', jt, go)) : (∀ j, jt = some j → i < j ∧ j ≤ N) ∧ (go = true ∨ ∃ j, jt = some j) := by
  unfold stepS at h
  split at h
  · cases hp : pushB x <;> rw [hp] at h
    · cases h
    · cases h; exact ⟨fun j hj => (by cases hj), .inl rfl⟩
  · split at h
    · cases h
    · split at h
      · split at h
        · split at h
          · cases h; exact ⟨fun j hj => (by cases hj), .inl rfl⟩
          · cases h
        · cases h
      · split at h
        · cases ho : operS x.a T with
          | none => rw [ho] at h; cases h
          | some r => rw [ho] at h; cases h; exact ⟨fun j hj => (by cases hj), .inl rfl⟩
        · split at h
          · split at h
            · cases h; exact ⟨fun j hj => (by cases hj; omega), .inr ⟨_, rfl⟩⟩
            · cases h
          · split at h
            · split at h
              · rename_i hq
                cases h; exact ⟨fun j hj => (by cases hj; omega), .inl rfl⟩
              · cases h
            · cases h
end Go.Tk

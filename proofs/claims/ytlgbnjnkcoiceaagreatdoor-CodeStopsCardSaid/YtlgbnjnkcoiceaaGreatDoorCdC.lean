/- Code over plain data: its text. Which expressions are small. -/
import Derived.Test.YtlgbnjnkcoiceaaGreatDoorCdB
import Derived.Lib.ItoaLen
set_option linter.unusedVariables false
set_option linter.unusedSimpArgs false
set_option linter.unnecessarySimpa false
namespace Go.Tk
open Go Go.Eng
set_option maxRecDepth 20000
def opNames : List Bs := [[97, 100, 100], [115, 117, 98], [109, 117, 108], [100, 105, 118], [110, 101, 103], [101, 113], [110, 101], [108, 116], [108, 101], [97, 110, 100], [111, 114], [110, 111, 116], [109, 105, 110], [109, 97, 120]]
def tyNames : List Bs := [[], [110, 117, 109, 98, 101, 114], [97, 109, 111, 117, 110, 116], [114, 97, 116, 101]]
def lineS (vs : List Va) (x : In) : Bs :=
  if x.op = 1 then [112, 117, 115, 104, 32] ++ (tyNames[x.a.toNat]?).getD [] ++ [32] ++ Lib.itoa x.n
  else if x.op = 2 then [108, 111, 97, 100, 32] ++ ((vs[x.a.toNat]?).map (·.name)).getD []
  else if x.op = 4 then [106, 117, 109, 112, 32] ++ Lib.itoa x.a
  else if x.op = 5 then [102, 97, 108, 115, 101, 32] ++ Lib.itoa x.a
  else (opNames[(x.a - 5).toNat]?).getD []
def printS (c : Cd) : Bs := bif (runS c).2 != 0 then [] else c.ins.foldl (fun s x => s ++ (lineS c.vars x ++ [10])) []
def goodI (vs : List Va) (N : Nat) (x : In) : Prop := (x.op = 1 ∧ (x.a = 1 ∨ x.a = 2 ∨ x.a = 3) ∧ 0 ≤ x.n) ∨ (x.op = 2 ∧ 0 ≤ x.a ∧ x.a.toNat < vs.length) ∨ (x.op = 3 ∧ 5 ≤ x.a ∧ x.a ≤ 18) ∨ ((x.op = 4 ∨ x.op = 5) ∧ 0 ≤ x.a ∧ x.a ≤ (N : Int))
theorem good_of {vs : List Va} {N i : Nat} {x : In} {T : List Int} {r : List Int × Option Nat × Bool} (h : stepS vs N i x T = some r) : goodI vs N x := by
  unfold stepS at h
  split at h
  · rename_i c
    left
    cases hp : pushB x <;> rw [hp] at h
    · cases h
    · unfold pushB at hp
      split at hp
      · exact ⟨c, by omega, by simpa using hp⟩
      · split at hp
        · simp at hp; exact ⟨c, by omega, by omega⟩
        · split at hp
          · simp at hp; exact ⟨c, by omega, by omega⟩
          · cases hp
  · split at h
    · cases h
    · split at h
      · rename_i c
        split at h
        · rename_i h0
          split at h
          · rename_i v hv
            exact .inr (.inl ⟨c, h0, (List.getElem?_eq_some_iff.1 hv).1⟩)
          · cases h
        · cases h
      · split at h
        · rename_i c
          refine .inr (.inr (.inl ⟨c, ?_⟩))
          cases ho : operS x.a T with
          | none => rw [ho] at h; cases h
          | some r =>
            unfold operS at ho
            split at ho
            · rename_i hc; exact ⟨hc.1, hc.2.1⟩
            · cases ho
        · split at h
          · rename_i c
            split at h
            · exact .inr (.inr (.inr ⟨.inl c, by omega, by omega⟩))
            · cases h
          · split at h
            · rename_i c
              split at h
              · exact .inr (.inr (.inr ⟨.inr c, by omega, by omega⟩))
              · cases h
            · cases h
theorem run_good {c : Cd} (h : (runS c).2 = 0) : c.ins.length ≤ 128 ∧ varsS c.vars = 0 ∧ ∀ x ∈ c.ins, goodI c.vars c.ins.length x := by
  unfold runS at h
  split at h
  · cases h
  · cases h1 : (varsS c.vars != 0)
    · rw [h1] at h
      simp only [cond_false] at h
      cases h2 : ((walkC c).1 != 0)
      · have h2' : (walkC c).1 = 0 := by simpa using h2
        refine ⟨by omega, by simpa using h1, fun x hx => ?_⟩
        obtain ⟨j, hj, rfl⟩ := List.mem_iff_getElem.1 hx
        obtain ⟨T, r, hr⟩ := walk_ok (l := c.ins) h2' j hj
        exact good_of hr
      · rw [h2] at h
        simp only [cond_true] at h
        rw [h] at h2; simp at h2
    · rw [h1] at h
      simp only [cond_true] at h
      rw [h] at h1; simp at h1
theorem vars_names {vs : List Va} (h : varsS vs = 0) : ∀ v ∈ vs, v.name.length ≤ 2048 := by
  unfold varsS at h
  split at h
  · cases h
  · rename_i hl
    have he : eV vs = 3 ∨ ¬ eV vs = 0 := by
      by_cases c : eV vs = 0
      · rw [c] at h; cases h
      · exact .inr c
    intro v hv
    obtain ⟨n, hn, rfl⟩ := List.mem_iff_getElem.1 hv
    have hw : (List.range vs.length).any (fun n => wrongV vs n != 9) = false := by
      rw [Bool.eq_false_iff]
      intro ha
      unfold eV seek at h
      rw [List.any_eq_true] at ha
      obtain ⟨m, hm, hp⟩ := ha
      cases hf : (List.range vs.length).find? (fun n => wrongV vs n != 9) with
      | none => exact absurd hp (by simpa using List.find?_eq_none.1 hf m hm)
      | some k =>
        rw [hf] at h
        have hk := List.find?_some hf
        simp only at h
        rcases wrongV_cases vs k with q | q | q | q
        · rw [q] at h; cases h
        · rw [q] at h; cases h
        · rw [q] at h; cases h
        · rw [q] at hk; cases hk
    have h9 : wrongV vs n = 9 := by
      have := List.any_eq_false.1 hw n (by simpa using hn)
      simpa using this
    unfold wrongV at h9
    rw [List.getElem?_eq_getElem hn] at h9
    simp only at h9
    cases hq : varS vs[n].name
    · rw [hq] at h9; cases h9
    · unfold varS toksS at hq
      by_cases hg : vs[n].name.length ≤ 2048
      · exact hg
      · have : decide ((vs[n].name.length : Int) > 2048) = true := by simp; omega
        rw [this] at hq
        cases hq
theorem name_le {vs : List Va} (h : varsS vs = 0) (n : Nat) : (((vs[n]?).map (·.name)).getD []).length ≤ 2048 := by
  cases hv : vs[n]? with
  | none => simp
  | some v => exact vars_names h v (List.mem_of_getElem? hv)
theorem itoa_le {n : Int} (h0 : 0 ≤ n) (h1 : n ≤ 9223372036854775807) : (Lib.itoa n).length ≤ 21 := Lib.itoa_length_le n (by omega) h1
theorem opn_le (n : Nat) : ((opNames[n]?).getD []).length ≤ 3 := by
  by_cases h : n < 14
  · have : ∀ k : Fin 14, ((opNames[k.1]?).getD []).length ≤ 3 := by decide
    exact this ⟨n, h⟩
  · rw [List.getElem?_eq_none (by simp [opNames]; omega)]; simp
theorem tyn_le (n : Nat) : ((tyNames[n]?).getD []).length ≤ 6 := by
  by_cases h : n < 4
  · have : ∀ k : Fin 4, ((tyNames[k.1]?).getD []).length ≤ 6 := by decide
    exact this ⟨n, h⟩
  · rw [List.getElem?_eq_none (by simp [tyNames]; omega)]; simp
theorem line_le {vs : List Va} {N : Nat} {x : In} (hv : varsS vs = 0) (hN : N ≤ 1000) (hx : goodI vs N x) (hn : x.n ≤ 9223372036854775807) : (lineS vs x).length ≤ 3000 := by
  unfold lineS
  rcases hx with ⟨h1, h2, h3⟩ | ⟨h1, h2, h3⟩ | ⟨h1, h2, h3⟩ | ⟨h1, h2, h3⟩
  · rw [if_pos h1]
    have := itoa_le h3 hn
    have := tyn_le x.a.toNat
    simp only [List.length_append, List.length_cons, List.length_nil]; omega
  · rw [if_neg (by omega), if_pos h1]
    have := name_le hv x.a.toNat
    simp only [List.length_append, List.length_cons, List.length_nil]; omega
  · rw [if_neg (by omega), if_neg (by omega), if_neg (by omega), if_neg (by omega)]
    have := opn_le (x.a - 5).toNat
    omega
  · have hi := itoa_le h2 (by omega)
    rw [if_neg (by omega), if_neg (by omega)]
    split
    · simp only [List.length_append, List.length_cons, List.length_nil]; omega
    · rw [if_pos (by omega)]
      simp only [List.length_append, List.length_cons, List.length_nil]; omega
theorem same_refl (c : Cd) : sameS c c = true := by simp [sameS]
end Go.Tk

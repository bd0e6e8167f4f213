/- Names: loops over bytes. -/
import Derived.Test.YtninmnbkbhfnmaaG1
set_option linter.unusedVariables false
set_option linter.unusedSimpArgs false
set_option linter.unnecessarySimpa false
namespace Go.Proofs.H23
open Go Go.Eng
set_option maxRecDepth 20000

abbrev cK0 (R : Type) : CallK R := cKS noS R
theorem cK0_ok {R : Type} : CallS (R := R) (callO IP) (cK0 R) := cKS_ok noS_ok

theorem all_range {n : Nat} {p : Nat → Bool} (h : (List.range n).all p = true) {i : Nat} (hi : i < n) : p i = true := List.all_eq_true.1 h i (List.mem_range.2 hi)
/-- The first place of a kind below n. -/
def fst (p : Nat → Bool) (n : Nat) : Nat := (List.range n).findIdx p
theorem fst_le (p : Nat → Bool) (n : Nat) : fst p n ≤ n := by
  have := List.findIdx_le_length (p := p) (xs := List.range n)
  simpa [fst] using this
theorem fst_no {p : Nat → Bool} {n i : Nat} (h : i < fst p n) : p i = false := by
  have := List.not_of_lt_findIdx h
  simpa using this
theorem fst_yes {p : Nat → Bool} {n : Nat} (h : fst p n < n) : p (fst p n) = true := by
  have := List.findIdx_getElem (xs := List.range n) (p := p) (w := by simpa [fst] using h)
  simpa [fst] using this

/-- Which exit a round takes at the place i; 9: none. -/
def k26 (s : List UInt8) (i : Int) : Nat :=
  br (decide (byteAt s i ≥ 97)) (br (!decide (byteAt s i ≤ 122)) (br (i == 0) 0 (br (byteAt s i != 95) (br (decide (byteAt s i < 48)) 1 (br (decide (byteAt s i > 57)) 2 9)) 9)) 9)
    (br (i == 0) 3 (br (byteAt s i != 95) (br (decide (byteAt s i < 48)) 4 (br (decide (byteAt s i > 57)) 5 9)) 9))
def b26 (s : List UInt8) (i : Nat) : Bool := k26 s i != 9

def ex26 (s : List UInt8) (n i : Int) (k : Nat) : X × St := match k with
  | 0 => ex_g26_0 s n i
  | 1 => ex_g26_1 s n i
  | 2 => ex_g26_2 s n i
  | 3 => ex_g26_3 s n i
  | 4 => ex_g26_4 s n i
  | 5 => ex_g26_5 s n i
  | _ => (.normal, hd_g26 s n (IntKind.i64.wrap (i + 1)))

theorem tree26 (s : List UInt8) {i : Nat} (h : i < s.length) : rd_g26 s s.length i = some (ex26 s s.length i (k26 s i)) := by
  unfold rd_g26 k26
  simp only [lt_nat, inB_nat, h, decide_true, br_true]
  cases decide (byteAt s i ≥ 97) <;> cases decide (byteAt s i ≤ 122) <;> cases ((i : Int) == 0) <;> cases (byteAt s i != 95) <;> cases decide (byteAt s i < 48) <;> cases decide (byteAt s i > 57) <;> rfl

def end26 (s : List UInt8) : X × St := br (decide (fst (b26 s) s.length < s.length)) (ex26 s s.length (fst (b26 s) s.length : Nat) (k26 s (fst (b26 s) s.length : Nat))) (ex_g26_6 s s.length s.length)

theorem k26_cases (s : List UInt8) (i : Int) : k26 s i = 0 ∨ k26 s i = 1 ∨ k26 s i = 2 ∨ k26 s i = 3 ∨ k26 s i = 4 ∨ k26 s i = 5 ∨ k26 s i = 9 := by
  unfold k26
  cases decide (byteAt s i ≥ 97) <;> cases decide (byteAt s i ≤ 122) <;> cases (i == 0) <;> cases (byteAt s i != 95) <;> cases decide (byteAt s i < 48) <;> cases decide (byteAt s i > 57) <;> decide

theorem run26 (s : List UInt8) (hl : s.length ≤ big) : loopO IP [1002600, 0, 7, 8] (loopAt F26 0).2 (hd_g26 s s.length 0) = some (end26 s) := by
  refine loop_run (lK := loopN noL) cK0_ok (loopS_none (by kernel_rfl)) (fun i => hd_g26 s s.length i) (fst (b26 s) s.length) (fun i => nm_g26 ..) ?_ ?_ ?_
  · intro i hi
    have hlt : i < s.length := Nat.lt_of_lt_of_le hi (fst_le _ _)
    refine (rd_g26_eq s _ i).trans ((tree26 s hlt).trans ?_)
    have hk : k26 s i = 9 := by simpa [b26] using fst_no hi
    rw [hk]
    simp only [ex26, wrap1 hlt hl]
  · unfold end26
    by_cases hf : fst (b26 s) s.length < s.length
    · rw [decide_eq_true hf, br_true]
      have hk : k26 s (fst (b26 s) s.length : Nat) ≠ 9 := by simpa [b26] using fst_yes hf
      rcases k26_cases s (fst (b26 s) s.length : Nat) with h | h | h | h | h | h | h
      · rw [h]; intro h; cases h
      · rw [h]; intro h; cases h
      · rw [h]; intro h; cases h
      · rw [h]; intro h; cases h
      · rw [h]; intro h; cases h
      · rw [h]; intro h; cases h
      · exact absurd h hk
    · rw [decide_eq_false hf, br_false]; intro h; cases h
  · refine (rd_g26_eq s _ _).trans ?_
    unfold end26
    by_cases hf : fst (b26 s) s.length < s.length
    · rw [tree26 s hf, decide_eq_true hf, br_true]
    · have he : fst (b26 s) s.length = s.length := by have := fst_le (b26 s) s.length; omega
      rw [he]
      unfold rd_g26
      simp only [lt_nat, Nat.lt_irrefl, decide_false, br_false]

def j26 (s : List UInt8) : Nat := fst (b26 s) s.length
def L26 (s : St) : List (Bool × X × St) := match s with
  | ⟨[(1002600, .junk), (0, .str s), (7, .int .i64 n), (8, .int .i64 0)], [], 0, 0⟩ =>
    let c := decide (n = (s.length : Int)) && decide (s.length ≤ big)
    let f := decide (j26 s < s.length)
    [(c && !f, ex_g26_6 s n s.length), (c && f && k26 s (j26 s) == 0, ex_g26_0 s n (j26 s)), (c && f && k26 s (j26 s) == 1, ex_g26_1 s n (j26 s)), (c && f && k26 s (j26 s) == 2, ex_g26_2 s n (j26 s)),
     (c && f && k26 s (j26 s) == 3, ex_g26_3 s n (j26 s)), (c && f && k26 s (j26 s) == 4, ex_g26_4 s n (j26 s)), (c && f && k26 s (j26 s) == 5, ex_g26_5 s n (j26 s))]
  | _ => []
theorem L26_ok : ∀ p ∈ loops F26.body, LoopOf (loopO IP) (oneL 1002600 L26) p.1 p.2 := by
  refine loops_one (ks := [0, 7, 8]) (c := (loopAt F26 0).2) (by kernel_rfl) ?_ ?_
  · intro s x s' hn hm
    unfold L26 at hm
    split at hm
    · rename_i s n
      simp only [List.mem_cons, Prod.mk.injEq, List.not_mem_nil, or_false] at hm
      have hc : n = (s.length : Int) ∧ s.length ≤ big := by
        rcases hm with ⟨hb, -⟩ | ⟨hb, -⟩ | ⟨hb, -⟩ | ⟨hb, -⟩ | ⟨hb, -⟩ | ⟨hb, -⟩ | ⟨hb, -⟩ <;> simp only [eq_comm (a := true), Bool.and_eq_true, decide_eq_true_eq] at hb
        · exact hb.1
        all_goals exact hb.1.1
      obtain ⟨rfl, hl⟩ := hc
      have h4 := run26 s hl
      rw [h4]
      unfold end26
      change some (br (decide (j26 s < s.length)) (ex26 s s.length (j26 s : Nat) (k26 s (j26 s : Nat))) (ex_g26_6 s s.length s.length)) = _
      rcases hm with ⟨hb, hq⟩ | ⟨hb, hq⟩ | ⟨hb, hq⟩ | ⟨hb, hq⟩ | ⟨hb, hq⟩ | ⟨hb, hq⟩ | ⟨hb, hq⟩ <;> simp only [eq_comm (a := true), Bool.and_eq_true, Bool.not_eq_true', beq_iff_eq] at hb <;> rw [hq]
      · rw [hb.2, br_false]
      all_goals rw [hb.1.2, br_true, hb.2]; rfl
    · cases hm
  · intro s s1 hn hne
    unfold L26 at hne
    split at hne
    · exact nm_g26 ..
    · exact absurd rfl hne

def k28 (s : List UInt8) (i : Int) : Nat :=
  br (decide (byteAt s i < 97)) (br (decide (byteAt s i < 48)) (br (byteAt s i != 95) 0 9) (br (decide (byteAt s i > 57)) (br (byteAt s i != 95) 1 9) 9))
    (br (decide (byteAt s i > 122)) (br (decide (byteAt s i < 48)) (br (byteAt s i != 95) 2 9) (br (decide (byteAt s i > 57)) (br (byteAt s i != 95) 3 9) 9)) 9)
def b28 (s : List UInt8) (i : Nat) : Bool := k28 s i != 9
def ex28 (s : List UInt8) (i : Int) (k : Nat) : X × St := match k with
  | 0 => ex_g28_0 s i
  | 1 => ex_g28_1 s i
  | 2 => ex_g28_2 s i
  | 3 => ex_g28_3 s i
  | _ => (.normal, hd_g28 s (IntKind.i64.wrap (i + 1)))
theorem tree28 (s : List UInt8) {i : Nat} (h : i < s.length) : rd_g28 s i = some (ex28 s i (k28 s i)) := by
  unfold rd_g28 k28
  simp only [lt_nat, inB_nat, h, decide_true, br_true]
  cases decide (byteAt s i < 97) <;> cases decide (byteAt s i > 122) <;> cases (byteAt s i != 95) <;> cases decide (byteAt s i < 48) <;> cases decide (byteAt s i > 57) <;> rfl
theorem k28_cases (s : List UInt8) (i : Int) : k28 s i = 0 ∨ k28 s i = 1 ∨ k28 s i = 2 ∨ k28 s i = 3 ∨ k28 s i = 9 := by
  unfold k28
  cases decide (byteAt s i < 97) <;> cases decide (byteAt s i > 122) <;> cases (byteAt s i != 95) <;> cases decide (byteAt s i < 48) <;> cases decide (byteAt s i > 57) <;> decide
def j28 (s : List UInt8) : Nat := fst (b28 s) s.length
def end28 (s : List UInt8) : X × St := br (decide (j28 s < s.length)) (ex28 s (j28 s : Nat) (k28 s (j28 s : Nat))) (ex_g28_4 s s.length)
theorem run28 (s : List UInt8) (hl : s.length ≤ big) : loopO IP [1002800, 0, 3] (loopAt F28 0).2 (hd_g28 s 0) = some (end28 s) := by
  refine loop_run (lK := loopN noL) cK0_ok (loopS_none (by kernel_rfl)) (fun i => hd_g28 s i) (j28 s) (fun i => nm_g28 ..) ?_ ?_ ?_
  · intro i hi
    have hlt : i < s.length := Nat.lt_of_lt_of_le hi (fst_le _ _)
    refine (rd_g28_eq s i).trans ((tree28 s hlt).trans ?_)
    have hk : k28 s i = 9 := by simpa [b28] using fst_no hi
    rw [hk]
    simp only [ex28, wrap1 hlt hl]
  · unfold end28
    by_cases hf : j28 s < s.length
    · rw [decide_eq_true hf, br_true]
      have hk : k28 s (j28 s : Nat) ≠ 9 := by
        have := fst_yes hf
        simp only [b28, bne_iff_ne] at this
        exact this
      rcases k28_cases s (j28 s : Nat) with h | h | h | h | h
      · rw [h]; intro h; cases h
      · rw [h]; intro h; cases h
      · rw [h]; intro h; cases h
      · rw [h]; intro h; cases h
      · exact absurd h hk
    · rw [decide_eq_false hf, br_false]; intro h; cases h
  · refine (rd_g28_eq s _).trans ?_
    unfold end28
    by_cases hf : j28 s < s.length
    · rw [tree28 s hf, decide_eq_true hf, br_true]
    · have he : j28 s = s.length := by have := fst_le (b28 s) s.length; unfold j28 at hf ⊢; omega
      rw [he]
      unfold rd_g28
      simp only [lt_nat, Nat.lt_irrefl, decide_false, br_false]
def L28 (s : St) : List (Bool × X × St) := match s with
  | ⟨[(1002800, .junk), (0, .str s), (3, .int .i64 0)], [], 0, 0⟩ =>
    let c := decide (s.length ≤ big)
    let f := decide (j28 s < s.length)
    [(c && !f, ex_g28_4 s s.length), (c && f && k28 s (j28 s) == 0, ex_g28_0 s (j28 s)), (c && f && k28 s (j28 s) == 1, ex_g28_1 s (j28 s)), (c && f && k28 s (j28 s) == 2, ex_g28_2 s (j28 s)), (c && f && k28 s (j28 s) == 3, ex_g28_3 s (j28 s))]
  | _ => []
theorem L28_ok : ∀ p ∈ loops F28.body, LoopOf (loopO IP) (oneL 1002800 L28) p.1 p.2 := by
  refine loops_one (ks := [0, 3]) (c := (loopAt F28 0).2) (by kernel_rfl) ?_ ?_
  · intro s x s' hn hm
    unfold L28 at hm
    split at hm
    · rename_i s
      simp only [List.mem_cons, Prod.mk.injEq, List.not_mem_nil, or_false] at hm
      have hl : s.length ≤ big := by
        rcases hm with ⟨hb, -⟩ | ⟨hb, -⟩ | ⟨hb, -⟩ | ⟨hb, -⟩ | ⟨hb, -⟩ <;> simp only [eq_comm (a := true), Bool.and_eq_true, decide_eq_true_eq] at hb
        · exact hb.1
        all_goals exact hb.1.1
      rw [run28 s hl]
      unfold end28
      rcases hm with ⟨hb, hq⟩ | ⟨hb, hq⟩ | ⟨hb, hq⟩ | ⟨hb, hq⟩ | ⟨hb, hq⟩ <;> simp only [eq_comm (a := true), Bool.and_eq_true, Bool.not_eq_true', beq_iff_eq] at hb <;> rw [hq]
      · rw [hb.2, br_false]
      all_goals rw [hb.1.2, br_true, hb.2]; rfl
    · cases hm
  · intro s s1 hn hne
    unfold L28 at hne
    split at hne
    · exact nm_g28 ..
    · exact absurd rfl hne

end Go.Proofs.H23

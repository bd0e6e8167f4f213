/- Loops over the bytes of a key, and over two lists; sums. -/
import Derived.Test.YtggaijkihehlmaaL22a
set_option linter.unusedVariables false
set_option linter.unusedSimpArgs false
set_option linter.unnecessarySimpa false
namespace Go.Proofs.H22
open Go Go.Eng
set_option maxRecDepth 20000

def badB (t : Int) (b : UInt8) : Bool := decide ((b.toNat : Int) < t) || decide ((b.toNat : Int) > 126)

theorem bytes_no {p : UInt8 → Bool} {l : List UInt8} {i : Nat} (h : i < l.findIdx p) : p (l[i]?.getD 0) = false := by
  have h2 := List.findIdx_le_length (p := p) (xs := l)
  have := List.not_of_lt_findIdx h
  have hi : i < l.length := by omega
  simpa [hi] using this

theorem bytes_yes {p : UInt8 → Bool} {l : List UInt8} (h : l.findIdx p < l.length) : p (l[l.findIdx p]?.getD 0) = true := by
  have := List.findIdx_getElem (xs := l) (p := p) (w := h)
  simpa [h] using this

abbrev hd27 (s : List UInt8) (n i : Int) : St := ⟨[(1002700, .junk), (0, .str s), (5, .int .i64 n), (6, .int .i64 i)], [], 0, 0⟩
theorem nm27 (s : List UInt8) (n i : Int) : norm [1002700, 0, 5, 6] (hd27 s n i) = some (hd27 s n i) := by kernel_rfl
theorem run27 (s : List UInt8) (hl : s.length ≤ big) : loopO IP [1002700, 0, 5, 6] (loopAt F27 0).2 (hd27 s s.length 0) =
    some (if s.findIdx (badB 33) < s.length then (if ((s[s.findIdx (badB 33)]?.getD 0).toNat : Int) < 33 then ex_g27_0 s s.length (s.findIdx (badB 33) : Nat) else ex_g27_1 s s.length (s.findIdx (badB 33) : Nat)) else ex_g27_2 s s.length s.length) := by
  have hn := fun i : Nat => nm27 s s.length i
  have hr : ∀ i : Nat, i < s.findIdx (badB 33) → execK IP (cK0 _) (loopN noL) (loopAt F27 0).2 (hd27 s s.length i) (roundEnd [1002700, 0, 5, 6]) = some (.normal, hd27 s s.length ((i + 1 : Nat) : Int)) := by
    intro i hi
    have hlt : i < s.length := by have := List.findIdx_le_length (p := badB 33) (xs := s); omega
    have hp := bytes_no hi
    simp only [badB, Bool.or_eq_false_iff] at hp
    refine (rd_g27_eq s _ i).trans ?_
    simp only [rd_g27, lt_nat, inB_nat, byteAt_nat, hlt, decide_true, br_true, hp.1, hp.2, br_false, wrap1 hlt hl]
  by_cases hf : s.findIdx (badB 33) < s.length
  · have hp := bytes_yes hf
    simp only [badB, Bool.or_eq_true] at hp
    rw [if_pos hf]
    split
    · rename_i hq
      refine loop_run cK0_ok (loopS_none (by kernel_rfl)) (fun i => hd27 s s.length i) _ hn hr (by intro h; cases h) ?_
      refine (rd_g27_eq s _ _).trans ?_
      simp only [rd_g27, lt_nat, inB_nat, byteAt_nat, hf, decide_true, br_true, decide_eq_true hq]
    · rename_i hq
      have hp2 : decide (((s[s.findIdx (badB 33)]?.getD 0).toNat : Int) > 126) = true := by
        rcases hp with hp | hp
        · exact absurd (of_decide_eq_true hp) hq
        · exact hp
      refine loop_run cK0_ok (loopS_none (by kernel_rfl)) (fun i => hd27 s s.length i) _ hn hr (by intro h; cases h) ?_
      refine (rd_g27_eq s _ _).trans ?_
      simp only [rd_g27, lt_nat, inB_nat, byteAt_nat, hf, decide_true, br_true, decide_eq_false hq, hp2, br_false]
  · have he : s.findIdx (badB 33) = s.length := by have := List.findIdx_le_length (p := badB 33) (xs := s); omega
    rw [if_neg hf]
    rw [he] at hr
    refine loop_run cK0_ok (loopS_none (by kernel_rfl)) (fun i => hd27 s s.length i) _ hn hr (by intro h; cases h) ?_
    refine (rd_g27_eq s _ _).trans ?_
    simp only [rd_g27, lt_nat, Nat.lt_irrefl, decide_false, br_false]

abbrev hd47 (s : List UInt8) (t i : Int) : St := ⟨[(1004700, .junk), (0, .str s), (2, .int .u8 t), (7, .int .i64 i)], [], 0, 0⟩
theorem nm47 (s : List UInt8) (t i : Int) : norm [1004700, 0, 2, 7] (hd47 s t i) = some (hd47 s t i) := by kernel_rfl
theorem run47 (s : List UInt8) (t : Int) (hl : s.length ≤ big) : loopO IP [1004700, 0, 2, 7] (loopAt F47 0).2 (hd47 s t 0) =
    some (if s.findIdx (badB t) < s.length then (if ((s[s.findIdx (badB t)]?.getD 0).toNat : Int) < t then ex_g47_0 s t (s.findIdx (badB t) : Nat) else ex_g47_1 s t (s.findIdx (badB t) : Nat)) else ex_g47_2 s t s.length) := by
  have hn := fun i : Nat => nm47 s t i
  have hr : ∀ i : Nat, i < s.findIdx (badB t) → execK IP (cK0 _) (loopN noL) (loopAt F47 0).2 (hd47 s t i) (roundEnd [1004700, 0, 2, 7]) = some (.normal, hd47 s t ((i + 1 : Nat) : Int)) := by
    intro i hi
    have hlt : i < s.length := by have := List.findIdx_le_length (p := badB t) (xs := s); omega
    have hp := bytes_no hi
    simp only [badB, Bool.or_eq_false_iff] at hp
    refine (rd_g47_eq s t i).trans ?_
    simp only [rd_g47, lt_nat, inB_nat, byteAt_nat, hlt, decide_true, br_true, hp.1, hp.2, br_false, wrap1 hlt hl]
  by_cases hf : s.findIdx (badB t) < s.length
  · have hp := bytes_yes hf
    simp only [badB, Bool.or_eq_true] at hp
    rw [if_pos hf]
    split
    · rename_i hq
      refine loop_run cK0_ok (loopS_none (by kernel_rfl)) (fun i => hd47 s t i) _ hn hr (by intro h; cases h) ?_
      refine (rd_g47_eq s _ _).trans ?_
      simp only [rd_g47, lt_nat, inB_nat, byteAt_nat, hf, decide_true, br_true, decide_eq_true hq]
    · rename_i hq
      have hp2 : decide (((s[s.findIdx (badB t)]?.getD 0).toNat : Int) > 126) = true := by
        rcases hp with hp | hp
        · exact absurd (of_decide_eq_true hp) hq
        · exact hp
      refine loop_run cK0_ok (loopS_none (by kernel_rfl)) (fun i => hd47 s t i) _ hn hr (by intro h; cases h) ?_
      refine (rd_g47_eq s _ _).trans ?_
      simp only [rd_g47, lt_nat, inB_nat, byteAt_nat, hf, decide_true, br_true, decide_eq_false hq, hp2, br_false]
  · have he : s.findIdx (badB t) = s.length := by have := List.findIdx_le_length (p := badB t) (xs := s); omega
    rw [if_neg hf]
    rw [he] at hr
    refine loop_run cK0_ok (loopS_none (by kernel_rfl)) (fun i => hd47 s t i) _ hn hr (by intro h; cases h) ?_
    refine (rd_g47_eq s _ _).trans ?_
    simp only [rd_g47, lt_nat, Nat.lt_irrefl, decide_false, br_false]

/-- The three ends of a search in bytes. -/
def fnd (t : Int) (s : List UInt8) : Bool := decide (s.findIdx (badB t) < s.length)
def low (t : Int) (s : List UInt8) : Bool := decide (((s[s.findIdx (badB t)]?.getD 0).toNat : Int) < t)

def L27 (s : St) : List (Bool × X × St) := match s with
  | ⟨[(1002700, .junk), (0, .str s), (5, .int .i64 n), (6, .int .i64 0)], [], 0, 0⟩ =>
    let c := decide (n = (s.length : Int)) && decide (s.length ≤ big)
    [(c && fnd 33 s && low 33 s, ex_g27_0 s n (s.findIdx (badB 33) : Nat)), (c && fnd 33 s && !low 33 s, ex_g27_1 s n (s.findIdx (badB 33) : Nat)), (c && !fnd 33 s, ex_g27_2 s n s.length)]
  | _ => []
theorem L27_ok : ∀ p ∈ loops F27.body, LoopOf (loopO IP) (oneL 1002700 L27) p.1 p.2 := by
  refine loops_one (ks := [0, 5, 6]) (c := (loopAt F27 0).2) (by kernel_rfl) ?_ ?_
  · intro s x s' hn hm
    unfold L27 at hm
    split at hm
    · rename_i s n
      simp only [List.mem_cons, Prod.mk.injEq, List.not_mem_nil, or_false] at hm
      rcases hm with ⟨hb, hq⟩ | ⟨hb, hq⟩ | ⟨hb, hq⟩ <;> simp only [eq_comm (a := true), Bool.and_eq_true, decide_eq_true_eq, Bool.not_eq_true', decide_eq_false_iff_not, fnd, low] at hb
      · obtain ⟨⟨⟨h0, h1⟩, h2⟩, h3⟩ := hb
        subst h0
        rw [hq, run27 s h1, if_pos h2, if_pos h3]
      · obtain ⟨⟨⟨h0, h1⟩, h2⟩, h3⟩ := hb
        subst h0
        rw [hq, run27 s h1, if_pos h2, if_neg h3]
      · obtain ⟨⟨h0, h1⟩, h2⟩ := hb
        subst h0
        rw [hq, run27 s h1, if_neg h2]
    · cases hm
  · intro s s1 hn hne
    unfold L27 at hne
    split at hne
    · exact nm27 _ _ _
    · exact absurd rfl hne

def L47 (s : St) : List (Bool × X × St) := match s with
  | ⟨[(1004700, .junk), (0, .str s), (2, .int .u8 t), (7, .int .i64 0)], [], 0, 0⟩ =>
    let c := decide (s.length ≤ big)
    [(c && fnd t s && low t s, ex_g47_0 s t (s.findIdx (badB t) : Nat)), (c && fnd t s && !low t s, ex_g47_1 s t (s.findIdx (badB t) : Nat)), (c && !fnd t s, ex_g47_2 s t s.length)]
  | _ => []
theorem L47_ok : ∀ p ∈ loops F47.body, LoopOf (loopO IP) (oneL 1004700 L47) p.1 p.2 := by
  refine loops_one (ks := [0, 2, 7]) (c := (loopAt F47 0).2) (by kernel_rfl) ?_ ?_
  · intro s x s' hn hm
    unfold L47 at hm
    split at hm
    · rename_i s t
      simp only [List.mem_cons, Prod.mk.injEq, List.not_mem_nil, or_false] at hm
      rcases hm with ⟨hb, hq⟩ | ⟨hb, hq⟩ | ⟨hb, hq⟩ <;> simp only [eq_comm (a := true), Bool.and_eq_true, decide_eq_true_eq, Bool.not_eq_true', decide_eq_false_iff_not, fnd, low] at hb
      · obtain ⟨⟨h1, h2⟩, h3⟩ := hb
        rw [hq, run47 s t h1, if_pos h2, if_pos h3]
      · obtain ⟨⟨h1, h2⟩, h3⟩ := hb
        rw [hq, run47 s t h1, if_pos h2, if_neg h3]
      · obtain ⟨h1, h2⟩ := hb
        rw [hq, run47 s t h1, if_neg h2]
    · cases hm
  · intro s s1 hn hne
    unfold L47 at hne
    split at hne
    · exact nm47 _ _ _
    · exact absurd rfl hne

/-- What is held, over the first i holds. -/
def totN (t k : Int) (l : List H) : Nat → Int
  | 0 => 0
  | i + 1 => if (gt l i).acc = t ∧ (gt l i).frm ≤ k ∧ k ≤ (gt l i).to then IntKind.i64.wrap (totN t k l i + (gt l i).amt) else totN t k l i

abbrev hd13 (es : List AV) (t k acc n i : Int) : St := ⟨[(1001300, .junk), (1, .int .i64 t), (2, .int .i64 k), (7, .int .i64 acc), (10, .view 6 es), (11, .int .i64 n), (12, .int .i64 i)], [], 0, 0⟩
theorem nm13 (es : List AV) (t k acc n i : Int) : norm [1001300, 1, 2, 7, 10, 11, 12] (hd13 es t k acc n i) = some (hd13 es t k acc n i) := by kernel_rfl
theorem run13 (l : List H) (t k : Int) (hl : l.length ≤ big) : loopO IP [1001300, 1, 2, 7, 10, 11, 12] (loopAt F13 0).2 (hd13 (l.map H.av) t k 0 l.length 0) = some (ex_g13_0 (l.map H.av) t k (totN t k l l.length) l.length l.length) := by
  refine loop_run (lK := loopN noL) cK0_ok (loopS_none (by kernel_rfl)) (fun i => hd13 (l.map H.av) t k (totN t k l i) l.length i) l.length (fun i => nm13 ..) ?_ (by intro h; cases h) ?_
  · intro i hlt
    refine (rd_g13_eq _ _ _ _ _ i).trans ?_
    simp only [rd_g13, List.length_map, lt_nat, ok_at, hlt, decide_true, br_true, c1, c2, c3, c4, wrap1 hlt hl, totN, br_ite, decide_eq_true_eq, beq_iff_eq]
    by_cases h1 : (gt l i).acc = t <;> by_cases h2 : (gt l i).frm ≤ k <;> by_cases h3 : k ≤ (gt l i).to <;> simp only [h1, h2, h3, if_true, if_false, and_true, and_false, true_and, false_and]
  · refine (rd_g13_eq _ _ _ _ _ _).trans ?_
    simp only [rd_g13, List.length_map, lt_nat, Nat.lt_irrefl, decide_false, br_false]

abbrev hd14 (es : List AV) (t k acc i : Int) : St := ⟨[(1001400, .junk), (0, .view 6 es), (1, .int .i64 t), (2, .int .i64 k), (7, .int .i64 acc), (8, .int .i64 i)], [], 0, 0⟩
theorem nm14 (es : List AV) (t k acc i : Int) : norm [1001400, 0, 1, 2, 7, 8] (hd14 es t k acc i) = some (hd14 es t k acc i) := by kernel_rfl
theorem run14 (l : List H) (t k : Int) (hl : l.length ≤ big) : loopO IP [1001400, 0, 1, 2, 7, 8] (loopAt F14 0).2 (hd14 (l.map H.av) t k 0 0) = some (ex_g14_0 (l.map H.av) t k (totN t k l l.length) l.length) := by
  refine loop_run (lK := loopN noL) cK0_ok (loopS_none (by kernel_rfl)) (fun i => hd14 (l.map H.av) t k (totN t k l i) i) l.length (fun i => nm14 ..) ?_ (by intro h; cases h) ?_
  · intro i hlt
    refine (rd_g14_eq _ _ _ _ i).trans ?_
    simp only [rd_g14, List.length_map, lt_nat, ok_at, hlt, decide_true, br_true, c1, c2, c3, c4, wrap1 hlt hl, totN, br_ite, decide_eq_true_eq, beq_iff_eq, ge_iff_le]
    by_cases h1 : (gt l i).acc = t <;> by_cases h2 : (gt l i).frm ≤ k <;> by_cases h3 : k ≤ (gt l i).to <;> simp only [h1, h2, h3, if_true, if_false, and_true, and_false, true_and, false_and]
  · refine (rd_g14_eq _ _ _ _ _).trans ?_
    simp only [rd_g14, List.length_map, lt_nat, Nat.lt_irrefl, decide_false, br_false]

def L13 (s : St) : List (Bool × X × St) := match s with
  | ⟨[(1001300, .junk), (1, .int .i64 t), (2, .int .i64 k), (7, .int .i64 0), (10, .view 6 es), (11, .int .i64 n), (12, .int .i64 0)], [], 0, 0⟩ =>
    [(gd es && decide (n = es.length), ex_g13_0 es t k (totN t k (es.map toH) es.length) n es.length)]
  | _ => []
theorem L13_ok : ∀ p ∈ loops F13.body, LoopOf (loopO IP) (oneL 1001300 L13) p.1 p.2 := by
  refine loops_one (ks := [1, 2, 7, 10, 11, 12]) (c := (loopAt F13 0).2) (by kernel_rfl) ?_ ?_
  · intro s x s' hn hm
    unfold L13 at hm
    split at hm
    · rename_i t k es n
      simp only [List.mem_cons, Prod.mk.injEq, List.not_mem_nil, or_false] at hm
      obtain ⟨hb, hq⟩ := hm
      simp only [gd, eq_comm (a := true), Bool.and_eq_true, decide_eq_true_eq] at hb
      obtain ⟨⟨h1, h2⟩, h3⟩ := hb
      subst h3
      have h4 := run13 (es.map toH) t k (by simpa using h2)
      rw [← es_of h1] at h4
      rw [hq]; simpa only [List.length_map] using h4
    · cases hm
  · intro s s1 hn hne
    unfold L13 at hne
    split at hne
    · exact nm13 ..
    · exact absurd rfl hne

def L14 (s : St) : List (Bool × X × St) := match s with
  | ⟨[(1001400, .junk), (0, .view 6 es), (1, .int .i64 t), (2, .int .i64 k), (7, .int .i64 0), (8, .int .i64 0)], [], 0, 0⟩ =>
    [(gd es, ex_g14_0 es t k (totN t k (es.map toH) es.length) es.length)]
  | _ => []
theorem L14_ok : ∀ p ∈ loops F14.body, LoopOf (loopO IP) (oneL 1001400 L14) p.1 p.2 := by
  refine loops_one (ks := [0, 1, 2, 7, 8]) (c := (loopAt F14 0).2) (by kernel_rfl) ?_ ?_
  · intro s x s' hn hm
    unfold L14 at hm
    split at hm
    · rename_i es t k
      simp only [List.mem_cons, Prod.mk.injEq, List.not_mem_nil, or_false] at hm
      obtain ⟨hb, hq⟩ := hm
      simp only [gd, eq_comm (a := true), Bool.and_eq_true, decide_eq_true_eq] at hb
      obtain ⟨h1, h2⟩ := hb
      have h4 := run14 (es.map toH) t k (by simpa using h2)
      rw [← es_of h1] at h4
      rw [hq]; simpa only [List.length_map] using h4
    · cases hm
  · intro s s1 hn hne
    unfold L14 at hne
    split at hne
    · exact nm14 ..
    · exact absurd rfl hne

end Go.Proofs.H22

/- Clone, Delete, without: their summaries. -/
import Derived.Test.YtggaijkihehlmaaG8
set_option linter.unusedVariables false
set_option linter.unusedSimpArgs false
set_option linter.unnecessarySimpa false
namespace Go.Proofs.H22
open Go Go.Eng
set_option maxRecDepth 20000

abbrev zz : AV := .agg [.int .i64 0, .int .i64 0, .int .i64 0, .int .i64 0, .int .i64 0, .str []]

def sClone (a : List AV) (h : Heap) : List (Bool × Res × Heap) := match a, h with
  | [.view 6 es], [] => [(decide (es.length * 56 ≤ lim), .ret (.own 0 0 es.length), [(0, .arr 6 es false)])]
  | [.nils], [] => [(true, .ret .nils, [])]
  | _, _ => []

theorem s39_ok : ∀ a h r h', (true, r, h') ∈ sClone a h → callO IP 39 a h = some (r, h') := by
  intro a h r h' hm
  unfold sClone at hm
  split at hm
  · rename_i es
    simp only [List.mem_cons, Prod.mk.injEq, List.not_mem_nil, or_false] at hm
    obtain ⟨hb, rfl, rfl⟩ := hm
    have hb : es.length * 56 ≤ lim := of_decide_eq_true hb.symm
    refine callO_by noS_ok (by kernel_rfl) (loops_none (by kernel_rfl)) (n := 4) ((rd_f39_eq es).trans ?_)
    unfold rd_f39
    by_cases h0 : es.length = 0
    · have he : es = [] := List.length_eq_zero_iff.1 h0
      subst he; rfl
    · refine (br_neg (by simp [h0])).trans ((br_neg (by simp [h0])).trans ((br_pos ?_).trans ?_))
      · simp [h0]; omega
      · simp
  · simp only [List.mem_cons, Prod.mk.injEq, List.not_mem_nil, or_false] at hm
    obtain ⟨-, rfl, rfl⟩ := hm
    exact callO_iff.2 ⟨3, by kernel_rfl⟩
  · cases hm

theorem erase_eq {α : Type} (es : List α) (k : Nat) : es.eraseIdx k = es.take k ++ es.drop (k + 1) := List.eraseIdx_eq_take_drop_succ es k

theorem del_last (es : List AV) (k : Nat) (h : k + 1 = es.length) (z : AV) : es.take k ++ List.replicate 1 z ++ es.drop (k + 1) = es.eraseIdx k ++ [z] := by
  rw [erase_eq, List.drop_eq_nil_of_le (by omega)]; simp

theorem del_mid (es : List AV) (k : Nat) (h : k < es.length) (z : AV) : (es.take k ++ es.drop (k + 1) ++ es.drop (es.length - 1)).take (es.length - 1) ++ List.replicate 1 z = es.eraseIdx k ++ [z] := by
  have hl : (es.take k ++ es.drop (k + 1)).length = es.length - 1 := by simp; omega
  rw [List.take_append_of_le_length (by omega), List.take_of_length_le (by omega), erase_eq]; simp

theorem tree40 (es : List AV) (k : Nat) (h : k < es.length) : rd_f40 es es.length (k : Int) ((k + 1 : Nat) : Int) = some (.ret (.own 0 0 (es.length - 1)), [(0, .arr 6 (es.eraseIdx k ++ [zz]) false)]) := by
  have hm : List.take (es.length - (k + 1)) (List.drop (0 + (k + 1)) es) = List.drop (k + 1) es := by
    rw [Nat.zero_add, List.take_of_length_le (by simp)]
  unfold rd_f40
  refine (br_pos ?_).trans ?_
  · simp <;> omega
  refine (br_neg ?_).trans ?_
  · simp <;> omega
  refine (br_pos ?_).trans ?_
  · simp [bndB, leB, highN, lowN] <;> first | omega | (refine ⟨?_, ?_⟩ <;> first | omega | exact decide_eq_true (by omega))
  refine (br_pos ?_).trans ?_
  · simp [bndB, leB, highN, lowN] <;> first | omega | (refine ⟨?_, ?_⟩ <;> first | omega | exact decide_eq_true (by omega))
  simp only [highN, lowN, Int.toNat_natCast, Nat.sub_zero, hm]
  by_cases hk : k + 1 = es.length
  · have e1 : List.drop (k + 1) es = [] := List.drop_eq_nil_of_le (by omega)
    rw [e1]
    refine (br_pos ?_).trans ?_
    · simp <;> omega
    refine (br_pos ?_).trans ?_
    · simp [bndB, leB, highN, lowN] <;> first | omega | (refine ⟨?_, ?_⟩ <;> first | omega | exact decide_eq_true (by omega))
    refine (br_pos ?_).trans ?_
    · simp <;> omega
    have e2 : es.length - k = 1 := by omega
    have e3 : es.length - 1 = k := by omega
    simp only [Nat.zero_add, e2, e3, del_last es k hk]
  · have hl : (List.drop (k + 1) es).length = es.length - (k + 1) := by simp
    refine (br_neg ?_).trans ?_
    · simp <;> omega
    refine (br_pos ?_).trans ?_
    · simp <;> omega
    refine (br_pos ?_).trans ?_
    · simp [bndB, leB, highN, lowN] <;> first | omega | (refine ⟨?_, ?_⟩ <;> first | omega | exact decide_eq_true (by omega))
    refine (br_pos ?_).trans ?_
    · simp <;> omega
    have e2 : k + (es.length - (k + 1)) = es.length - 1 := by omega
    have e3 : es.length - (es.length - 1) = 1 := by omega
    have e4 : es.length - 1 + 1 = es.length := by omega
    simp only [Nat.zero_add, hl, e2, e3, e4, del_mid es k h]
    rw [List.drop_eq_nil_of_le (by simp; omega)]
    simp

def sDel (a : List AV) (h : Heap) : List (Bool × Res × Heap) := match a, h with
  | [.own 0 0 n, .int .i64 i, .int .i64 j], [(0, .arr 6 es false)] =>
    [(decide (n = es.length) && (decide (0 ≤ i) && (decide (i < es.length) && decide (j = i + 1))), .ret (.own 0 0 (es.length - 1)), [(0, .arr 6 (es.eraseIdx i.toNat ++ [zz]) false)])]
  | _, _ => []

theorem s40_ok : ∀ a h r h', (true, r, h') ∈ sDel a h → callO IP 40 a h = some (r, h') := by
  intro a h r h' hm
  unfold sDel at hm
  split at hm
  · rename_i n i j es
    simp only [List.mem_cons, Prod.mk.injEq, List.not_mem_nil, or_false] at hm
    obtain ⟨hb, rfl, rfl⟩ := hm
    simp only [eq_comm (a := true), Bool.and_eq_true, decide_eq_true_eq] at hb
    obtain ⟨rfl, h0, h1, rfl⟩ := hb
    obtain ⟨k, rfl⟩ := Int.eq_ofNat_of_zero_le h0
    have h2 := tree40 es k (by omega)
    exact callO_by noS_ok (by kernel_rfl) (loops_none (by kernel_rfl)) (n := 4) ((rd_f40_eq es es.length k ((k : Int) + 1)).trans h2)
  · cases hm

theorem tree46 (es : List AV) (k : Nat) (h : k < es.length) (hl : es.length ≤ big) (hb : es.length * 56 ≤ lim) : rd_f46 es (k : Int) = some (.ret (br (decide (es.length = 1)) .nils (.view 6 (es.eraseIdx k))), []) := by
  have h0 : List.take (highN es.length (some (.int .i64 (k : Int))) - 0) (List.drop 0 es) = es.take k := take_i ..
  have hm : List.take (highN es.length none - lowN (some (.int .i64 ((k + 1 : Nat) : Int)))) (List.drop (lowN (some (.int .i64 ((k + 1 : Nat) : Int)))) es) = List.drop (k + 1) es := by
    simp only [highN, lowN, Int.toNat_natCast]
    rw [List.take_of_length_le (by simp)]
  have hl1 : (es.take k).length = k := by simp; omega
  have hl2 : (es.drop (k + 1)).length = es.length - (k + 1) := by simp
  unfold rd_f46
  simp only [wrap1 h hl, h0, hm, hl1, hl2]
  refine (br_pos ?_).trans ?_
  · simp [bndB, leB, highN, lowN] <;> first | omega | (refine ⟨?_, ?_⟩ <;> first | omega | exact decide_eq_true (by omega))
  by_cases hk : k = 0
  · subst hk
    refine (br_pos (by simp)).trans ?_
    refine (br_pos ?_).trans ?_
    · simp [bndB, leB, highN, lowN] <;> first | omega | (refine ⟨?_, ?_⟩ <;> first | omega | exact decide_eq_true (by omega))
    by_cases h1 : es.length = 1
    · refine (br_pos (by simp [h1])).trans ?_
      simp [h1]
    · refine (br_neg (by simp; omega)).trans ?_
      refine (br_pos (by simp; omega)).trans ?_
      refine (br_pos (by simp [snapB, purse, hlook])).trans ?_
      simp [h1, erase_eq]
      exact List.take_of_length_le (by simp)
  · refine (br_neg (by simp [hk])).trans ?_
    refine (br_pos ?_).trans ?_
    · simp [hk]; omega
    refine (br_pos ?_).trans ?_
    · simp [bndB, leB, highN, lowN] <;> first | omega | (refine ⟨?_, ?_⟩ <;> first | omega | exact decide_eq_true (by omega))
    have h1 : decide (es.length = 1) = false := decide_eq_false (by omega)
    by_cases h2 : k + 1 = es.length
    · refine (br_pos ?_).trans ?_
      · simp <;> omega
      refine (br_pos (by simp [snapB, purse, hlook] <;> omega)).trans ?_
      have e1 : List.drop (k + 1) es = [] := List.drop_eq_nil_of_le (by omega)
      simp [h1, erase_eq, e1, List.take_take]
    · refine (br_neg ?_).trans ?_
      · simp <;> omega
      refine (br_neg ?_).trans ?_
      · simp <;> omega
      refine (br_pos ?_).trans ?_
      · simp <;> omega
      refine (br_pos (by simp [snapB, purse, hlook] <;> omega)).trans ?_
      have e3 : (es.take k ++ es.drop (k + 1)).length = k + (es.length - (k + 1)) := by simp; omega
      simp only [h1, br_false, erase_eq, List.drop_zero]
      rw [List.take_of_length_le (l := List.take k es) (by simp; omega), List.take_of_length_le (by omega)]

def sWithout (a : List AV) (h : Heap) : List (Bool × Res × Heap) := match a, h with
  | [.view 6 es, .int .i64 i], [] =>
    let c := decide (0 ≤ i) && (decide (i < es.length) && (decide (es.length ≤ big) && decide (es.length * 56 ≤ lim)))
    [(c && decide (es.length = 1), .ret .nils, []), (c && decide (es.length ≠ 1), .ret (.view 6 (es.eraseIdx i.toNat)), [])]
  | _, _ => []

theorem s46_ok : ∀ a h r h', (true, r, h') ∈ sWithout a h → callO IP 46 a h = some (r, h') := by
  intro a h r h' hm
  unfold sWithout at hm
  split at hm
  · rename_i es i
    simp only [List.mem_cons, Prod.mk.injEq, List.not_mem_nil, or_false] at hm
    rcases hm with ⟨hb, rfl, rfl⟩ | ⟨hb, rfl, rfl⟩ <;> simp only [eq_comm (a := true), Bool.and_eq_true, decide_eq_true_eq] at hb <;> obtain ⟨⟨h0, h1, h2, h3⟩, h4⟩ := hb <;> obtain ⟨k, rfl⟩ := Int.eq_ofNat_of_zero_le h0
    · refine callO_by noS_ok (by kernel_rfl) (loops_none (by kernel_rfl)) (n := 4) ((rd_f46_eq es k).trans ((tree46 es k (by omega) h2 h3).trans ?_))
      simp [h4]
    · refine callO_by noS_ok (by kernel_rfl) (loops_none (by kernel_rfl)) (n := 4) ((rd_f46_eq es k).trans ((tree46 es k (by omega) h2 h3).trans ?_))
      simp [h4]
  · cases hm

def sD : Summ := addS 39 sClone (addS 40 sDel (addS 46 sWithout sC))
theorem sD_ok : SummOk IP sD := addS_ok (addS_ok (addS_ok sC_ok s46_ok) s40_ok) s39_ok

end Go.Proofs.H22

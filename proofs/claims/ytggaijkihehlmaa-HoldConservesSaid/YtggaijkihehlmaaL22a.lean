/- Loops that search a list of holds. Printed by a program of mine. -/
import Derived.Test.YtggaijkihehlmaaG1
set_option linter.unusedVariables false
set_option linter.unusedSimpArgs false
set_option linter.unnecessarySimpa false
namespace Go.Proofs.H22
open Go Go.Eng
set_option maxRecDepth 20000

abbrev cK0 (R : Type) : CallK R := callN IP noS (inl0 IP) (loopN noL) 4
theorem cK0_ok {R : Type} : CallS (R := R) (callO IP) (cK0 R) := calls_ok noS_ok _ 4

theorem findIdx_no {p : H → Bool} {l : List H} {i : Nat} (h : i < l.findIdx p) : p (gt l i) = false := by
  have h2 := List.findIdx_le_length (p := p) (xs := l)
  have := List.not_of_lt_findIdx h
  have hi : i < l.length := by omega
  simpa [gt, hi] using this

theorem findIdx_yes {p : H → Bool} {l : List H} (h : l.findIdx p < l.length) : p (gt l (l.findIdx p)) = true := by
  have := List.findIdx_getElem (xs := l) (p := p) (w := h)
  simpa [gt, h] using this

abbrev hd25 (es : List AV) (t : Int) (i : Int) : St := ⟨[(1002500, .junk), (0, .view 6 es), (1, .int .i64 t), (5, .int .i64 i)], [], 0, 0⟩
theorem nm25 (es : List AV) (t : Int) (i : Int) : norm [1002500, 0, 1, 5] (hd25 es t i) = some (hd25 es t i) := by kernel_rfl
theorem run25 (l : List H) (t : Int) (hl : l.length ≤ big) : loopO IP [1002500, 0, 1, 5] (loopAt F25 0).2 (hd25 (l.map H.av) t  0) =
    if l.findIdx (isId t) < l.length then some (ex_g25_0 (l.map H.av) t  (l.findIdx (isId t) : Nat)) else some (ex_g25_1 (l.map H.av) t  l.length) := by
  have hn := fun i : Nat => nm25 (l.map H.av) t  i
  have hr : ∀ i : Nat, i < l.findIdx (isId t) → execK IP (cK0 _) (loopN noL) (loopAt F25 0).2 (hd25 (l.map H.av) t  i) (roundEnd [1002500, 0, 1, 5]) = some (.normal, hd25 (l.map H.av) t  ((i + 1 : Nat) : Int)) := by
    intro i hi
    have hlt : i < l.length := by have := List.findIdx_le_length (p := (isId t)) (xs := l); omega
    have hp := findIdx_no hi
    simp only [isId] at hp
    refine (rd_g25_eq _ _  i).trans ?_
    simp only [rd_g25, List.length_map, lt_nat, ok_at, hlt, decide_true, br_true, c0, c5, hp, br_false, wrap1 hlt hl]
  split
  · rename_i hf
    refine loop_run cK0_ok (loopS_none (by kernel_rfl)) (fun i => hd25 (l.map H.av) t  i) _ hn hr (by intro h; cases h) ?_
    refine (rd_g25_eq _ _  _).trans ?_
    have hp := findIdx_yes hf
    simp only [isId] at hp
    simp only [rd_g25, List.length_map, lt_nat, ok_at, hf, decide_true, br_true, c0, c5, hp]
  · rename_i hf
    have he : l.findIdx (isId t) = l.length := by have := List.findIdx_le_length (p := (isId t)) (xs := l); omega
    rw [he] at hr
    refine loop_run cK0_ok (loopS_none (by kernel_rfl)) (fun i => hd25 (l.map H.av) t  i) _ hn hr (by intro h; cases h) ?_
    refine (rd_g25_eq _ _  _).trans ?_
    simp only [rd_g25, List.length_map, lt_nat, Nat.lt_irrefl, decide_false, br_false]

abbrev hd31 (es : List AV) (t : List UInt8) (i : Int) : St := ⟨[(1003100, .junk), (0, .view 6 es), (1, .str t), (5, .int .i64 i)], [], 0, 0⟩
theorem nm31 (es : List AV) (t : List UInt8) (i : Int) : norm [1003100, 0, 1, 5] (hd31 es t i) = some (hd31 es t i) := by kernel_rfl
theorem run31 (l : List H) (t : List UInt8) (hl : l.length ≤ big) : loopO IP [1003100, 0, 1, 5] (loopAt F31 0).2 (hd31 (l.map H.av) t  0) =
    if l.findIdx (isKey t) < l.length then some (ex_g31_0 (l.map H.av) t  (l.findIdx (isKey t) : Nat)) else some (ex_g31_1 (l.map H.av) t  l.length) := by
  have hn := fun i : Nat => nm31 (l.map H.av) t  i
  have hr : ∀ i : Nat, i < l.findIdx (isKey t) → execK IP (cK0 _) (loopN noL) (loopAt F31 0).2 (hd31 (l.map H.av) t  i) (roundEnd [1003100, 0, 1, 5]) = some (.normal, hd31 (l.map H.av) t  ((i + 1 : Nat) : Int)) := by
    intro i hi
    have hlt : i < l.length := by have := List.findIdx_le_length (p := (isKey t)) (xs := l); omega
    have hp := findIdx_no hi
    simp only [isKey] at hp
    refine (rd_g31_eq _ _  i).trans ?_
    simp only [rd_g31, List.length_map, lt_nat, ok_at, hlt, decide_true, br_true, c0, c5, hp, br_false, wrap1 hlt hl]
  split
  · rename_i hf
    refine loop_run cK0_ok (loopS_none (by kernel_rfl)) (fun i => hd31 (l.map H.av) t  i) _ hn hr (by intro h; cases h) ?_
    refine (rd_g31_eq _ _  _).trans ?_
    have hp := findIdx_yes hf
    simp only [isKey] at hp
    simp only [rd_g31, List.length_map, lt_nat, ok_at, hf, decide_true, br_true, c0, c5, hp]
  · rename_i hf
    have he : l.findIdx (isKey t) = l.length := by have := List.findIdx_le_length (p := (isKey t)) (xs := l); omega
    rw [he] at hr
    refine loop_run cK0_ok (loopS_none (by kernel_rfl)) (fun i => hd31 (l.map H.av) t  i) _ hn hr (by intro h; cases h) ?_
    refine (rd_g31_eq _ _  _).trans ?_
    simp only [rd_g31, List.length_map, lt_nat, Nat.lt_irrefl, decide_false, br_false]

abbrev hd7 (es : List AV)  (i : Int) : St := ⟨[(1000700, .junk), (0, .view 6 es), (3, .int .i64 i)], [], 0, 0⟩
theorem nm7 (es : List AV)  (i : Int) : norm [1000700, 0, 3] (hd7 es  i) = some (hd7 es  i) := by kernel_rfl
theorem run7 (l : List H)  (hl : l.length ≤ big) : loopO IP [1000700, 0, 3] (loopAt F7 0).2 (hd7 (l.map H.av)   0) =
    if l.findIdx (isBig) < l.length then some (ex_g7_0 (l.map H.av)   (l.findIdx (isBig) : Nat)) else some (ex_g7_1 (l.map H.av)   l.length) := by
  have hn := fun i : Nat => nm7 (l.map H.av)   i
  have hr : ∀ i : Nat, i < l.findIdx (isBig) → execK IP (cK0 _) (loopN noL) (loopAt F7 0).2 (hd7 (l.map H.av)   i) (roundEnd [1000700, 0, 3]) = some (.normal, hd7 (l.map H.av)   ((i + 1 : Nat) : Int)) := by
    intro i hi
    have hlt : i < l.length := by have := List.findIdx_le_length (p := (isBig)) (xs := l); omega
    have hp := findIdx_no hi
    simp only [isBig] at hp
    refine (rd_g7_eq _   i).trans ?_
    simp only [rd_g7, List.length_map, lt_nat, ok_at, hlt, decide_true, br_true, c0, c5, hp, br_false, wrap1 hlt hl]
  split
  · rename_i hf
    refine loop_run cK0_ok (loopS_none (by kernel_rfl)) (fun i => hd7 (l.map H.av)   i) _ hn hr (by intro h; cases h) ?_
    refine (rd_g7_eq _   _).trans ?_
    have hp := findIdx_yes hf
    simp only [isBig] at hp
    simp only [rd_g7, List.length_map, lt_nat, ok_at, hf, decide_true, br_true, c0, c5, hp]
  · rename_i hf
    have he : l.findIdx (isBig) = l.length := by have := List.findIdx_le_length (p := (isBig)) (xs := l); omega
    rw [he] at hr
    refine loop_run cK0_ok (loopS_none (by kernel_rfl)) (fun i => hd7 (l.map H.av)   i) _ hn hr (by intro h; cases h) ?_
    refine (rd_g7_eq _   _).trans ?_
    simp only [rd_g7, List.length_map, lt_nat, Nat.lt_irrefl, decide_false, br_false]

abbrev hd41a (es : List AV) (t : Int) (n i : Int) : St := ⟨[(1004100, .junk), (0, .view 6 es), (1, .fn 42 [.ptr [.int .i64 t]]), (7, .int .i64 n), (8, .int .i64 i)], [], 0, 0⟩
theorem nm41a (es : List AV) (t : Int) (n i : Int) : norm [1004100, 0, 1, 7, 8] (hd41a es t n i) = some (hd41a es t n i) := by kernel_rfl
theorem run41a (l : List H) (t : Int) (hl : l.length ≤ big) : loopO IP [1004100, 0, 1, 7, 8] (loopAt F41 0).2 (hd41a (l.map H.av) t (l.length : Int) 0) =
    if l.findIdx (isId t) < l.length then some (ex_g41a_0 (l.map H.av) t (l.length : Int) (l.findIdx (isId t) : Nat)) else some (ex_g41a_1 (l.map H.av) t (l.length : Int) l.length) := by
  have hn := fun i : Nat => nm41a (l.map H.av) t (l.length : Int) i
  have hr : ∀ i : Nat, i < l.findIdx (isId t) → execK IP (cK0 _) (loopN noL) (loopAt F41 0).2 (hd41a (l.map H.av) t (l.length : Int) i) (roundEnd [1004100, 0, 1, 7, 8]) = some (.normal, hd41a (l.map H.av) t (l.length : Int) ((i + 1 : Nat) : Int)) := by
    intro i hi
    have hlt : i < l.length := by have := List.findIdx_le_length (p := (isId t)) (xs := l); omega
    have hp := findIdx_no hi
    simp only [isId] at hp
    refine (rd_g41a_eq _ _ _ i).trans ?_
    simp only [rd_g41a, List.length_map, lt_nat, ok_at, hlt, decide_true, br_true, c0, c5, hp, br_false, wrap1 hlt hl]
  split
  · rename_i hf
    refine loop_run cK0_ok (loopS_none (by kernel_rfl)) (fun i => hd41a (l.map H.av) t (l.length : Int) i) _ hn hr (by intro h; cases h) ?_
    refine (rd_g41a_eq _ _ _ _).trans ?_
    have hp := findIdx_yes hf
    simp only [isId] at hp
    simp only [rd_g41a, List.length_map, lt_nat, ok_at, hf, decide_true, br_true, c0, c5, hp]
  · rename_i hf
    have he : l.findIdx (isId t) = l.length := by have := List.findIdx_le_length (p := (isId t)) (xs := l); omega
    rw [he] at hr
    refine loop_run cK0_ok (loopS_none (by kernel_rfl)) (fun i => hd41a (l.map H.av) t (l.length : Int) i) _ hn hr (by intro h; cases h) ?_
    refine (rd_g41a_eq _ _ _ _).trans ?_
    simp only [rd_g41a, List.length_map, lt_nat, Nat.lt_irrefl, decide_false, br_false]

abbrev hd41b (es : List AV) (a b c d e : Int) (t : List UInt8) (n i : Int) : St := ⟨[(1004100, .junk), (0, .view 6 es), (1, .fn 29 [.ptr [.int .i64 a, .int .i64 b, .int .i64 c, .int .i64 d, .int .i64 e, .str t]]), (7, .int .i64 n), (8, .int .i64 i)], [], 0, 0⟩
theorem nm41b (es : List AV) (a b c d e : Int) (t : List UInt8) (n i : Int) : norm [1004100, 0, 1, 7, 8] (hd41b es a b c d e t n i) = some (hd41b es a b c d e t n i) := by kernel_rfl
theorem run41b (l : List H) (a b c d e : Int) (t : List UInt8) (hl : l.length ≤ big) : loopO IP [1004100, 0, 1, 7, 8] (loopAt F41 0).2 (hd41b (l.map H.av) a b c d e t (l.length : Int) 0) =
    if l.findIdx (isKey t) < l.length then some (ex_g41b_0 (l.map H.av) a b c d e t (l.length : Int) (l.findIdx (isKey t) : Nat)) else some (ex_g41b_1 (l.map H.av) a b c d e t (l.length : Int) l.length) := by
  have hn := fun i : Nat => nm41b (l.map H.av) a b c d e t (l.length : Int) i
  have hr : ∀ i : Nat, i < l.findIdx (isKey t) → execK IP (cK0 _) (loopN noL) (loopAt F41 0).2 (hd41b (l.map H.av) a b c d e t (l.length : Int) i) (roundEnd [1004100, 0, 1, 7, 8]) = some (.normal, hd41b (l.map H.av) a b c d e t (l.length : Int) ((i + 1 : Nat) : Int)) := by
    intro i hi
    have hlt : i < l.length := by have := List.findIdx_le_length (p := (isKey t)) (xs := l); omega
    have hp := findIdx_no hi
    simp only [isKey] at hp
    refine (rd_g41b_eq _ _ _ _ _ _ _ _ i).trans ?_
    simp only [rd_g41b, List.length_map, lt_nat, ok_at, hlt, decide_true, br_true, c0, c5, hp, br_false, wrap1 hlt hl]
  split
  · rename_i hf
    refine loop_run cK0_ok (loopS_none (by kernel_rfl)) (fun i => hd41b (l.map H.av) a b c d e t (l.length : Int) i) _ hn hr (by intro h; cases h) ?_
    refine (rd_g41b_eq _ _ _ _ _ _ _ _ _).trans ?_
    have hp := findIdx_yes hf
    simp only [isKey] at hp
    simp only [rd_g41b, List.length_map, lt_nat, ok_at, hf, decide_true, br_true, c0, c5, hp]
  · rename_i hf
    have he : l.findIdx (isKey t) = l.length := by have := List.findIdx_le_length (p := (isKey t)) (xs := l); omega
    rw [he] at hr
    refine loop_run cK0_ok (loopS_none (by kernel_rfl)) (fun i => hd41b (l.map H.av) a b c d e t (l.length : Int) i) _ hn hr (by intro h; cases h) ?_
    refine (rd_g41b_eq _ _ _ _ _ _ _ _ _).trans ?_
    simp only [rd_g41b, List.length_map, lt_nat, Nat.lt_irrefl, decide_false, br_false]

abbrev hd41c (es : List AV) (a b c d e : Int) (t : List UInt8) (n i : Int) : St := ⟨[(1004100, .junk), (0, .view 6 es), (1, .fn 38 [.ptr [.int .i64 a, .int .i64 b, .int .i64 c, .int .i64 d, .int .i64 e, .str t]]), (7, .int .i64 n), (8, .int .i64 i)], [], 0, 0⟩
theorem nm41c (es : List AV) (a b c d e : Int) (t : List UInt8) (n i : Int) : norm [1004100, 0, 1, 7, 8] (hd41c es a b c d e t n i) = some (hd41c es a b c d e t n i) := by kernel_rfl
theorem run41c (l : List H) (a b c d e : Int) (t : List UInt8) (hl : l.length ≤ big) : loopO IP [1004100, 0, 1, 7, 8] (loopAt F41 0).2 (hd41c (l.map H.av) a b c d e t (l.length : Int) 0) =
    if l.findIdx (isKey t) < l.length then some (ex_g41c_0 (l.map H.av) a b c d e t (l.length : Int) (l.findIdx (isKey t) : Nat)) else some (ex_g41c_1 (l.map H.av) a b c d e t (l.length : Int) l.length) := by
  have hn := fun i : Nat => nm41c (l.map H.av) a b c d e t (l.length : Int) i
  have hr : ∀ i : Nat, i < l.findIdx (isKey t) → execK IP (cK0 _) (loopN noL) (loopAt F41 0).2 (hd41c (l.map H.av) a b c d e t (l.length : Int) i) (roundEnd [1004100, 0, 1, 7, 8]) = some (.normal, hd41c (l.map H.av) a b c d e t (l.length : Int) ((i + 1 : Nat) : Int)) := by
    intro i hi
    have hlt : i < l.length := by have := List.findIdx_le_length (p := (isKey t)) (xs := l); omega
    have hp := findIdx_no hi
    simp only [isKey] at hp
    refine (rd_g41c_eq _ _ _ _ _ _ _ _ i).trans ?_
    simp only [rd_g41c, List.length_map, lt_nat, ok_at, hlt, decide_true, br_true, c0, c5, hp, br_false, wrap1 hlt hl]
  split
  · rename_i hf
    refine loop_run cK0_ok (loopS_none (by kernel_rfl)) (fun i => hd41c (l.map H.av) a b c d e t (l.length : Int) i) _ hn hr (by intro h; cases h) ?_
    refine (rd_g41c_eq _ _ _ _ _ _ _ _ _).trans ?_
    have hp := findIdx_yes hf
    simp only [isKey] at hp
    simp only [rd_g41c, List.length_map, lt_nat, ok_at, hf, decide_true, br_true, c0, c5, hp]
  · rename_i hf
    have he : l.findIdx (isKey t) = l.length := by have := List.findIdx_le_length (p := (isKey t)) (xs := l); omega
    rw [he] at hr
    refine loop_run cK0_ok (loopS_none (by kernel_rfl)) (fun i => hd41c (l.map H.av) a b c d e t (l.length : Int) i) _ hn hr (by intro h; cases h) ?_
    refine (rd_g41c_eq _ _ _ _ _ _ _ _ _).trans ?_
    simp only [rd_g41c, List.length_map, lt_nat, Nat.lt_irrefl, decide_false, br_false]

def L25 (s : St) : List (Bool × X × St) := match s with
  | ⟨[(1002500, .junk), (0, .view 6 es), (1, .int .i64 t), (5, .int .i64 0)], [], 0, 0⟩ =>
    [(gd es && inA (isId t) es, ex_g25_0 es t  (ixA (isId t) es : Nat)), (gd es && !inA (isId t) es, ex_g25_1 es t  es.length)]
  | _ => []
theorem L25_ok : ∀ p ∈ loops F25.body, LoopOf (loopO IP) (oneL 1002500 L25) p.1 p.2 := by
  refine loops_one (ks := [0, 1, 5]) (c := (loopAt F25 0).2) (by kernel_rfl) ?_ ?_
  · intro s x s' hn hm
    unfold L25 at hm
    split at hm
    · simp only [List.mem_cons, Prod.mk.injEq, List.not_mem_nil, or_false] at hm
      rename_i es t
      rcases hm with ⟨hb, hq⟩ | ⟨hb, hq⟩ <;> simp only [gd, inA, ixA, eq_comm (a := true), Bool.and_eq_true, decide_eq_true_eq, Bool.not_eq_true', decide_eq_false_iff_not] at hb
      · obtain ⟨⟨h1, h2⟩, h3⟩ := hb
        skip
        have h4 := run25 (es.map toH) t (by simpa using h2)
        rw [← es_of h1, if_pos (by rw [List.length_map]; exact of_decide_eq_true h3)] at h4
        rw [hq]
        try simp only [List.length_map] at h4
        exact h4
      · obtain ⟨⟨h1, h2⟩, h3⟩ := hb
        skip
        have h4 := run25 (es.map toH) t (by simpa using h2)
        rw [← es_of h1, if_neg (by rw [List.length_map]; exact of_decide_eq_false h3)] at h4
        rw [hq]
        try simp only [List.length_map] at h4
        exact h4
    · cases hm
  · intro s s1 hn hne
    unfold L25 at hne
    split at hne
    · exact nm25 _ _ _
    · exact absurd rfl hne

def L31 (s : St) : List (Bool × X × St) := match s with
  | ⟨[(1003100, .junk), (0, .view 6 es), (1, .str t), (5, .int .i64 0)], [], 0, 0⟩ =>
    [(gd es && inA (isKey t) es, ex_g31_0 es t  (ixA (isKey t) es : Nat)), (gd es && !inA (isKey t) es, ex_g31_1 es t  es.length)]
  | _ => []
theorem L31_ok : ∀ p ∈ loops F31.body, LoopOf (loopO IP) (oneL 1003100 L31) p.1 p.2 := by
  refine loops_one (ks := [0, 1, 5]) (c := (loopAt F31 0).2) (by kernel_rfl) ?_ ?_
  · intro s x s' hn hm
    unfold L31 at hm
    split at hm
    · simp only [List.mem_cons, Prod.mk.injEq, List.not_mem_nil, or_false] at hm
      rename_i es t
      rcases hm with ⟨hb, hq⟩ | ⟨hb, hq⟩ <;> simp only [gd, inA, ixA, eq_comm (a := true), Bool.and_eq_true, decide_eq_true_eq, Bool.not_eq_true', decide_eq_false_iff_not] at hb
      · obtain ⟨⟨h1, h2⟩, h3⟩ := hb
        skip
        have h4 := run31 (es.map toH) t (by simpa using h2)
        rw [← es_of h1, if_pos (by rw [List.length_map]; exact of_decide_eq_true h3)] at h4
        rw [hq]
        try simp only [List.length_map] at h4
        exact h4
      · obtain ⟨⟨h1, h2⟩, h3⟩ := hb
        skip
        have h4 := run31 (es.map toH) t (by simpa using h2)
        rw [← es_of h1, if_neg (by rw [List.length_map]; exact of_decide_eq_false h3)] at h4
        rw [hq]
        try simp only [List.length_map] at h4
        exact h4
    · cases hm
  · intro s s1 hn hne
    unfold L31 at hne
    split at hne
    · exact nm31 _ _ _
    · exact absurd rfl hne

def L7 (s : St) : List (Bool × X × St) := match s with
  | ⟨[(1000700, .junk), (0, .view 6 es), (3, .int .i64 0)], [], 0, 0⟩ =>
    [(gd es && inA (isBig) es, ex_g7_0 es   (ixA (isBig) es : Nat)), (gd es && !inA (isBig) es, ex_g7_1 es   es.length)]
  | _ => []
theorem L7_ok : ∀ p ∈ loops F7.body, LoopOf (loopO IP) (oneL 1000700 L7) p.1 p.2 := by
  refine loops_one (ks := [0, 3]) (c := (loopAt F7 0).2) (by kernel_rfl) ?_ ?_
  · intro s x s' hn hm
    unfold L7 at hm
    split at hm
    · simp only [List.mem_cons, Prod.mk.injEq, List.not_mem_nil, or_false] at hm
      rename_i es 
      rcases hm with ⟨hb, hq⟩ | ⟨hb, hq⟩ <;> simp only [gd, inA, ixA, eq_comm (a := true), Bool.and_eq_true, decide_eq_true_eq, Bool.not_eq_true', decide_eq_false_iff_not] at hb
      · obtain ⟨⟨h1, h2⟩, h3⟩ := hb
        skip
        have h4 := run7 (es.map toH)  (by simpa using h2)
        rw [← es_of h1, if_pos (by rw [List.length_map]; exact of_decide_eq_true h3)] at h4
        rw [hq]
        try simp only [List.length_map] at h4
        exact h4
      · obtain ⟨⟨h1, h2⟩, h3⟩ := hb
        skip
        have h4 := run7 (es.map toH)  (by simpa using h2)
        rw [← es_of h1, if_neg (by rw [List.length_map]; exact of_decide_eq_false h3)] at h4
        rw [hq]
        try simp only [List.length_map] at h4
        exact h4
    · cases hm
  · intro s s1 hn hne
    unfold L7 at hne
    split at hne
    · exact nm7 _  _
    · exact absurd rfl hne

def L41 (s : St) : List (Bool × X × St) := match s with
  | ⟨[(1004100, .junk), (0, .view 6 es), (1, .fn 42 [.ptr [.int .i64 t]]), (7, .int .i64 n), (8, .int .i64 0)], [], 0, 0⟩ =>
    [(gd es && decide (n = (es.length : Int)) && inA (isId t) es, ex_g41a_0 es t n (ixA (isId t) es : Nat)), (gd es && decide (n = (es.length : Int)) && !inA (isId t) es, ex_g41a_1 es t n es.length)]
  | ⟨[(1004100, .junk), (0, .view 6 es), (1, .fn 29 [.ptr [.int .i64 a, .int .i64 b, .int .i64 c, .int .i64 d, .int .i64 e, .str t]]), (7, .int .i64 n), (8, .int .i64 0)], [], 0, 0⟩ =>
    [(gd es && decide (n = (es.length : Int)) && inA (isKey t) es, ex_g41b_0 es a b c d e t n (ixA (isKey t) es : Nat)), (gd es && decide (n = (es.length : Int)) && !inA (isKey t) es, ex_g41b_1 es a b c d e t n es.length)]
  | ⟨[(1004100, .junk), (0, .view 6 es), (1, .fn 38 [.ptr [.int .i64 a, .int .i64 b, .int .i64 c, .int .i64 d, .int .i64 e, .str t]]), (7, .int .i64 n), (8, .int .i64 0)], [], 0, 0⟩ =>
    [(gd es && decide (n = (es.length : Int)) && inA (isKey t) es, ex_g41c_0 es a b c d e t n (ixA (isKey t) es : Nat)), (gd es && decide (n = (es.length : Int)) && !inA (isKey t) es, ex_g41c_1 es a b c d e t n es.length)]
  | _ => []
theorem L41_ok : ∀ p ∈ loops F41.body, LoopOf (loopO IP) (oneL 1004100 L41) p.1 p.2 := by
  refine loops_one (ks := [0, 1, 7, 8]) (c := (loopAt F41 0).2) (by kernel_rfl) ?_ ?_
  · intro s x s' hn hm
    unfold L41 at hm
    split at hm
    · simp only [List.mem_cons, Prod.mk.injEq, List.not_mem_nil, or_false] at hm
      rename_i es t n
      rcases hm with ⟨hb, hq⟩ | ⟨hb, hq⟩ <;> simp only [gd, inA, ixA, eq_comm (a := true), Bool.and_eq_true, decide_eq_true_eq, Bool.not_eq_true', decide_eq_false_iff_not] at hb
      · obtain ⟨⟨⟨h1, h2⟩, hnn⟩, h3⟩ := hb
        subst hnn
        have h4 := run41a (es.map toH) t (by simpa using h2)
        rw [← es_of h1, if_pos (by rw [List.length_map]; exact of_decide_eq_true h3)] at h4
        rw [hq]
        try simp only [List.length_map] at h4
        exact h4
      · obtain ⟨⟨⟨h1, h2⟩, hnn⟩, h3⟩ := hb
        subst hnn
        have h4 := run41a (es.map toH) t (by simpa using h2)
        rw [← es_of h1, if_neg (by rw [List.length_map]; exact of_decide_eq_false h3)] at h4
        rw [hq]
        try simp only [List.length_map] at h4
        exact h4
    · simp only [List.mem_cons, Prod.mk.injEq, List.not_mem_nil, or_false] at hm
      rename_i es a b c d e t n
      rcases hm with ⟨hb, hq⟩ | ⟨hb, hq⟩ <;> simp only [gd, inA, ixA, eq_comm (a := true), Bool.and_eq_true, decide_eq_true_eq, Bool.not_eq_true', decide_eq_false_iff_not] at hb
      · obtain ⟨⟨⟨h1, h2⟩, hnn⟩, h3⟩ := hb
        subst hnn
        have h4 := run41b (es.map toH) a b c d e t (by simpa using h2)
        rw [← es_of h1, if_pos (by rw [List.length_map]; exact of_decide_eq_true h3)] at h4
        rw [hq]
        try simp only [List.length_map] at h4
        exact h4
      · obtain ⟨⟨⟨h1, h2⟩, hnn⟩, h3⟩ := hb
        subst hnn
        have h4 := run41b (es.map toH) a b c d e t (by simpa using h2)
        rw [← es_of h1, if_neg (by rw [List.length_map]; exact of_decide_eq_false h3)] at h4
        rw [hq]
        try simp only [List.length_map] at h4
        exact h4
    · simp only [List.mem_cons, Prod.mk.injEq, List.not_mem_nil, or_false] at hm
      rename_i es a b c d e t n
      rcases hm with ⟨hb, hq⟩ | ⟨hb, hq⟩ <;> simp only [gd, inA, ixA, eq_comm (a := true), Bool.and_eq_true, decide_eq_true_eq, Bool.not_eq_true', decide_eq_false_iff_not] at hb
      · obtain ⟨⟨⟨h1, h2⟩, hnn⟩, h3⟩ := hb
        subst hnn
        have h4 := run41c (es.map toH) a b c d e t (by simpa using h2)
        rw [← es_of h1, if_pos (by rw [List.length_map]; exact of_decide_eq_true h3)] at h4
        rw [hq]
        try simp only [List.length_map] at h4
        exact h4
      · obtain ⟨⟨⟨h1, h2⟩, hnn⟩, h3⟩ := hb
        subst hnn
        have h4 := run41c (es.map toH) a b c d e t (by simpa using h2)
        rw [← es_of h1, if_neg (by rw [List.length_map]; exact of_decide_eq_false h3)] at h4
        rw [hq]
        try simp only [List.length_map] at h4
        exact h4
    · cases hm
  · intro s s1 hn hne
    unfold L41 at hne
    split at hne
    · exact nm41a _ _ _ _
    · exact nm41b _ _ _ _ _ _ _ _ _
    · exact nm41c _ _ _ _ _ _ _ _ _
    · exact absurd rfl hne
end Go.Proofs.H22

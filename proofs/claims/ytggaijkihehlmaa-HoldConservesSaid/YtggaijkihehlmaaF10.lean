/- Expire: the loops, in the specification and in the program. -/
import Derived.Test.YtggaijkihehlmaaG9
set_option linter.unusedVariables false
set_option linter.unusedSimpArgs false
set_option linter.unnecessarySimpa false
namespace Go.Proofs.H22
open Go Go.Eng
set_option maxRecDepth 20000

/-- What is left, and the Ids of what ended, over the first i holds. -/
def gsR (l : List H) (k : Int) : Nat → List AV
  | 0 => []
  | i + 1 => if (gt l i).to < k then gsR l k i else gsR l k i ++ [(gt l i).av]
def fsR (l : List H) (k : Int) : Nat → List AV
  | 0 => []
  | i + 1 => if (gt l i).to < k then fsR l k i ++ [.int .i64 (gt l i).id] else fsR l k i

theorem gsR_len (l : List H) (k : Int) : ∀ i, (gsR l k i).length ≤ i
  | 0 => by simp [gsR]
  | i + 1 => by
    have := gsR_len l k i
    simp only [gsR]; split
    · omega
    · simp; omega
theorem fsR_len (l : List H) (k : Int) : ∀ i, (fsR l k i).length ≤ i
  | 0 => by simp [fsR]
  | i + 1 => by
    have := fsR_len l k i
    simp only [fsR]; split
    · simp; omega
    · omega

theorem no_room (n : Nat) : decide (0 + n + 1 ≤ n) = false := decide_eq_false (by omega)
theorem room_n (n : Nat) : decide (n < 0 + n + 1) = true := decide_eq_true (by omega)
theorem len_n (n : Nat) : decide (0 + n ≤ n) = true := decide_eq_true (by omega)
theorem ne_10 : decide (1 ≠ 0) = true := rfl
theorem le_11 : decide (1 ≤ 1) = true := rfl
theorem take_all (gs : List AV) : List.take gs.length (List.drop 0 gs) = gs := by simp

def hd36 (es : List AV) (k : Int) : List AV → List AV → Int → St
  | [], [], i => ⟨[(1003600, .junk), (0, .view 6 es), (1, .int .i64 k), (6, .nils), (7, .nils), (8, .int .i64 i)], [], 0, 0⟩
  | g :: gs, [], i => ⟨[(1003600, .junk), (0, .view 6 es), (1, .int .i64 k), (6, .own 0 0 (g :: gs).length), (7, .nils), (8, .int .i64 i)], [(0, .arr 6 (g :: gs) false)], 1, 0⟩
  | [], f :: fs, i => ⟨[(1003600, .junk), (0, .view 6 es), (1, .int .i64 k), (6, .nils), (7, .own 0 0 (f :: fs).length), (8, .int .i64 i)], [(0, .arr 1 (f :: fs) false)], 1, 0⟩
  | g :: gs, f :: fs, i => ⟨[(1003600, .junk), (0, .view 6 es), (1, .int .i64 k), (6, .own 0 0 (g :: gs).length), (7, .own 1 0 (f :: fs).length), (8, .int .i64 i)], [(0, .arr 6 (g :: gs) false), (1, .arr 1 (f :: fs) false)], 2, 0⟩

theorem nm36 (es : List AV) (k : Int) (gs fs : List AV) (i : Int) : norm [1003600, 0, 1, 6, 7, 8] (hd36 es k gs fs i) = some (hd36 es k gs fs i) := by
  cases gs <;> cases fs <;> kernel_rfl

theorem step36 {l : List H} (h : okL l) (k : Int) (gs fs : List AV) {i : Nat} (hlt : i < l.length) (hg : (gs.length + 1) * 56 ≤ lim) (hf : (fs.length + 1) * 8 ≤ lim) :
    XK0 F36 0 (hd36 (l.map H.av) k gs fs i) = some (.normal, if (gt l i).to < k then hd36 (l.map H.av) k gs (fs ++ [.int .i64 (gt l i).id]) ((i + 1 : Nat) : Int) else hd36 (l.map H.av) k (gs ++ [(gt l i).av]) fs ((i + 1 : Nat) : Int)) := by
  have hav : AV.agg [AV.int IntKind.i64 (gt l i).id, AV.int IntKind.i64 (gt l i).acc, AV.int IntKind.i64 (gt l i).amt, AV.int IntKind.i64 (gt l i).frm, AV.int IntKind.i64 (gt l i).to, AV.str (gt l i).key] = (gt l i).av := rfl
  cases gs with
  | nil => cases fs with
    | nil =>
      refine (rd_y36nn_eq _ k i).trans ?_
      by_cases ht : (gt l i).to < k <;> simp only [rd_y36nn, List.length_map, lt_nat, ok_at, hlt, decide_true, br_true, c0, c1, c2, c3, c4, c5, wrap1 hlt h.1, ht, decide_false, br_false, if_true, if_false, hav] <;> rfl
    | cons f fs =>
      refine (rd_y36no_eq _ (f :: fs) k i).trans ?_
      by_cases ht : (gt l i).to < k <;> simp only [rd_y36no, List.length_map, lt_nat, ok_at, hlt, decide_true, br_true, c0, c1, c2, c3, c4, c5, wrap1 hlt h.1, ht, decide_false, br_false, if_true, if_false, hav, no_room, room_n, len_n, ne_10, le_11, hf, Bool.and_self, Bool.false_and, Bool.and_false, take_all] <;> simp only [hd36, List.cons_append, List.nil_append, List.length_cons, List.length_append, List.length_nil, Nat.zero_add]
  | cons g gs => cases fs with
    | nil =>
      refine (rd_y36on_eq _ (g :: gs) k i).trans ?_
      by_cases ht : (gt l i).to < k <;> simp only [rd_y36on, List.length_map, lt_nat, ok_at, hlt, decide_true, br_true, c0, c1, c2, c3, c4, c5, wrap1 hlt h.1, ht, decide_false, br_false, if_true, if_false, hav, no_room, room_n, len_n, ne_10, le_11, hg, Bool.and_self, Bool.false_and, Bool.and_false, take_all] <;> simp only [hd36, List.cons_append, List.nil_append, List.length_cons, List.length_append, List.length_nil, Nat.zero_add]
    | cons f fs =>
      refine (rd_y36oo_eq _ (g :: gs) (f :: fs) k i).trans ?_
      by_cases ht : (gt l i).to < k <;> simp only [rd_y36oo, List.length_map, lt_nat, ok_at, hlt, decide_true, br_true, c0, c1, c2, c3, c4, c5, wrap1 hlt h.1, ht, decide_false, br_false, if_true, if_false, hav, no_room, room_n, len_n, ne_10, le_11, hg, hf, Bool.and_self, Bool.false_and, Bool.and_false, take_all] <;> simp only [hd36, List.cons_append, List.nil_append, List.length_cons, List.length_append, List.length_nil, Nat.zero_add]

end Go.Proofs.H22

/- Expire's loops as summaries. -/
import Derived.Test.YtggaijkihehlmaaF10
set_option linter.unusedVariables false
set_option linter.unusedSimpArgs false
set_option linter.unnecessarySimpa false
namespace Go.Proofs.H22
open Go Go.Eng
set_option maxRecDepth 20000

def end36 (es : List AV) (k n : Int) (gs fs : List AV) : X × St := match gs, fs with
  | [], [] => ex_y36nn_0 es k n
  | g :: gs, [] => ex_y36on_0 es (g :: gs) k n
  | [], f :: fs => ex_y36no_0 es (f :: fs) k n
  | g :: gs, f :: fs => ex_y36oo_0 es (g :: gs) (f :: fs) k n

theorem end36_ne (es : List AV) (k n : Int) (gs fs : List AV) : (end36 es k n gs fs).1 ≠ .normal := by
  cases gs <;> cases fs <;> (intro h; cases h)

theorem run36 {l : List H} (h : okL l) (hb : (l.length + 1) * 56 ≤ lim) (k : Int) : loopO IP [1003600, 0, 1, 6, 7, 8] (loopAt F36 0).2 (hd36 (l.map H.av) k [] [] 0) = some (end36 (l.map H.av) k l.length (gsR l k l.length) (fsR l k l.length)) := by
  refine loop_run (lK := loopN noL) cK0_ok (loopS_none (by kernel_rfl)) (fun i => hd36 (l.map H.av) k (gsR l k i) (fsR l k i) i) l.length (fun i => nm36 ..) ?_ (end36_ne _ _ _ _ _) ?_
  · intro i hlt
    have h1 := gsR_len l k i
    have h2 := fsR_len l k i
    refine (step36 h k (gsR l k i) (fsR l k i) hlt (by omega) (by omega)).trans ?_
    simp only [gsR, fsR]
    split <;> rfl
  · generalize gsR l k l.length = gs
    generalize fsR l k l.length = fs
    cases gs with
    | nil => cases fs with
      | nil => refine (rd_y36nn_eq _ _ _).trans ?_; simp only [rd_y36nn, List.length_map, lt_nat, Nat.lt_irrefl, decide_false, br_false, end36]
      | cons f fs => refine (rd_y36no_eq _ (f :: fs) _ _).trans ?_; simp only [rd_y36no, List.length_map, lt_nat, Nat.lt_irrefl, decide_false, br_false, end36]
    | cons g gs => cases fs with
      | nil => refine (rd_y36on_eq _ (g :: gs) _ _).trans ?_; simp only [rd_y36on, List.length_map, lt_nat, Nat.lt_irrefl, decide_false, br_false, end36]
      | cons f fs => refine (rd_y36oo_eq _ (g :: gs) (f :: fs) _ _).trans ?_; simp only [rd_y36oo, List.length_map, lt_nat, Nat.lt_irrefl, decide_false, br_false, end36]

def gsA (es : List AV) (k : Int) : List AV := gsR (es.map toH) k es.length
def fsA (es : List AV) (k : Int) : List AV := fsR (es.map toH) k es.length

def L36 (s : St) : List (Bool × X × St) := match s with
  | ⟨[(1003600, .junk), (0, .view 6 es), (1, .int .i64 k), (6, .nils), (7, .nils), (8, .int .i64 0)], [], 0, 0⟩ =>
    [(cap es && (gsA es k).isEmpty && (fsA es k).isEmpty, ex_y36nn_0 es k es.length), (cap es && !(gsA es k).isEmpty && (fsA es k).isEmpty, ex_y36on_0 es (gsA es k) k es.length),
     (cap es && (gsA es k).isEmpty && !(fsA es k).isEmpty, ex_y36no_0 es (fsA es k) k es.length), (cap es && !(gsA es k).isEmpty && !(fsA es k).isEmpty, ex_y36oo_0 es (gsA es k) (fsA es k) k es.length)]
  | _ => []

theorem L36_ok : ∀ p ∈ loops F36.body, LoopOf (loopO IP) (oneL 1003600 L36) p.1 p.2 := by
  refine loops_one (ks := [0, 1, 6, 7, 8]) (c := (loopAt F36 0).2) (by kernel_rfl) ?_ ?_
  · intro s x s' hn hm
    unfold L36 at hm
    split at hm
    · rename_i es k
      simp only [List.mem_cons, Prod.mk.injEq, List.not_mem_nil, or_false] at hm
      have hc : cap es = true := by
        rcases hm with ⟨hb, -⟩ | ⟨hb, -⟩ | ⟨hb, -⟩ | ⟨hb, -⟩ <;> simp only [eq_comm (a := true), Bool.and_eq_true] at hb <;> exact hb.1.1
      obtain ⟨hg, hl2, hl1, hlb⟩ := cap_of hc
      have h4 := run36 (es_gd hg).2 (by simpa using hl2) k
      rw [← (es_gd hg).1, List.length_map] at h4
      change loopO IP _ _ (hd36 es k [] [] 0) = _
      rw [h4]
      change some (end36 es k es.length (gsA es k) (fsA es k)) = _
      revert hm
      generalize gsA es k = gs
      generalize fsA es k = fs
      intro hm
      rcases hm with ⟨hb, hq⟩ | ⟨hb, hq⟩ | ⟨hb, hq⟩ | ⟨hb, hq⟩ <;> rw [hq] <;> revert hb <;> cases gs <;> cases fs <;> simp [end36]
    · cases hm
  · intro s s1 hn hne
    unfold L36 at hne
    split at hne
    · exact nm36 _ _ [] [] _
    · exact absurd rfl hne

/-! The program's loops. -/
abbrev kI : Key := (false, [EK.i])

def putN (l : List H) : Nat → List (AV × AV)
  | 0 => []
  | i + 1 => mputK kI (putN l i) (.int .i64 i) (gt l i).av
def putB (l : List H) (n : Nat) : Bool := (List.range n).all fun i => mputB kI (putN l i) (.int .i64 i) (gt l i).av

abbrev hx1 (es : List AV) (kvs : List (AV × AV)) (k n i : Int) : St := ⟨[(1002200, .junk), (0, .view 6 es), (1, .int .i64 k), (6, .mref 0), (17, .view 6 es), (18, .int .i64 n), (19, .int .i64 i)], [(0, .mp kvs)], 1, 0⟩
theorem nx1 (es : List AV) (kvs : List (AV × AV)) (k n i : Int) : norm [1002200, 0, 1, 6, 17, 18, 19] (hx1 es kvs k n i) = some (hx1 es kvs k n i) := by kernel_rfl

theorem all_range {n : Nat} {p : Nat → Bool} (h : (List.range n).all p = true) {i : Nat} (hi : i < n) : p i = true := List.all_eq_true.1 h i (List.mem_range.2 hi)

theorem runx1 {l : List H} (h : okL l) (k : Int) (hp : putB l l.length = true) : loopO IP [1002200, 0, 1, 6, 17, 18, 19] (loopAt F22 0).2 (hx1 (l.map H.av) [] k l.length 0) = some (ex_x1_0 (l.map H.av) (putN l l.length) k l.length l.length) := by
  refine loop_run (lK := loopN noL) cK0_ok (loopS_none (by kernel_rfl)) (fun i => hx1 (l.map H.av) (putN l i) k l.length i) l.length (fun i => nx1 ..) ?_ (by intro h; cases h) ?_
  · intro i hlt
    have hav : AV.agg [AV.int IntKind.i64 (gt l i).id, AV.int IntKind.i64 (gt l i).acc, AV.int IntKind.i64 (gt l i).amt, AV.int IntKind.i64 (gt l i).frm, AV.int IntKind.i64 (gt l i).to, AV.str (gt l i).key] = (gt l i).av := rfl
    refine (rd_x1_eq _ _ _ _ i).trans ?_
    simp only [rd_x1, lt_nat, ok_at, hlt, decide_true, br_true, c0, c1, c2, c3, c4, c5, hav, wrap1 hlt h.1, all_range hp hlt, putN]
  · refine (rd_x1_eq _ _ _ _ _).trans ?_
    simp only [rd_x1, lt_nat, Nat.lt_irrefl, decide_false, br_false]

def cutN (kvs : List (AV × AV)) (l : List H) (k : Int) : Nat → List (AV × AV)
  | 0 => kvs
  | i + 1 => if (gt l i).to < k then mcutK kI (cutN kvs l k i) (.int .i64 i) else cutN kvs l k i
def cutB (kvs : List (AV × AV)) (l : List H) (k : Int) (n : Nat) : Bool := (List.range n).all fun i => !decide ((gt l i).to < k) || mcutB kI (cutN kvs l k i) (.int .i64 i)

def hx2 (es : List AV) (kvs : List (AV × AV)) (k n : Int) : List AV → Int → St
  | [], i => ⟨[(1002201, .junk), (0, .view 6 es), (1, .int .i64 k), (6, .mref 0), (9, .nils), (10, .nils), (28, .view 6 es), (29, .int .i64 n), (30, .int .i64 i)], [(0, .mp kvs)], 1, 0⟩
  | f :: fs, i => ⟨[(1002201, .junk), (0, .view 6 es), (1, .int .i64 k), (6, .mref 0), (9, .nils), (10, .own 1 0 (f :: fs).length), (28, .view 6 es), (29, .int .i64 n), (30, .int .i64 i)], [(0, .mp kvs), (1, .arr 1 (f :: fs) false)], 2, 0⟩
theorem nx2 (es : List AV) (kvs : List (AV × AV)) (k n : Int) (fs : List AV) (i : Int) : norm [1002201, 0, 1, 6, 9, 10, 28, 29, 30] (hx2 es kvs k n fs i) = some (hx2 es kvs k n fs i) := by cases fs <;> kernel_rfl

theorem stepx2 {l : List H} (h : okL l) (kvs : List (AV × AV)) (k : Int) (fs : List AV) {i : Nat} (hlt : i < l.length) (hf : (fs.length + 1) * 8 ≤ lim) (hc : (!decide ((gt l i).to < k) || mcutB kI kvs (.int .i64 i)) = true) :
    XK0 F22 1 (hx2 (l.map H.av) kvs k l.length fs i) = some (.normal, if (gt l i).to < k then hx2 (l.map H.av) (mcutK kI kvs (.int .i64 i)) k l.length (fs ++ [.int .i64 (gt l i).id]) ((i + 1 : Nat) : Int) else hx2 (l.map H.av) kvs k l.length fs ((i + 1 : Nat) : Int)) := by
  cases fs with
  | nil =>
    refine (rd_x2n_eq _ _ k _ i).trans ?_
    by_cases ht : (gt l i).to < k
    · simp only [ht, decide_true, Bool.not_true, Bool.false_or] at hc
      simp only [rd_x2n, lt_nat, ok_at, hlt, decide_true, br_true, c0, c1, c2, c3, c4, c5, wrap1 hlt h.1, ht, hc, if_true]
      rfl
    · simp only [rd_x2n, lt_nat, ok_at, hlt, decide_true, br_true, c0, c1, c2, c3, c4, c5, wrap1 hlt h.1, ht, decide_false, br_false, if_false]
      rfl
  | cons f fs =>
    refine (rd_x2o_eq _ (f :: fs) _ k _ i).trans ?_
    by_cases ht : (gt l i).to < k
    · simp only [ht, decide_true, Bool.not_true, Bool.false_or] at hc
      simp only [rd_x2o, lt_nat, ok_at, hlt, decide_true, br_true, c0, c1, c2, c3, c4, c5, wrap1 hlt h.1, ht, hc, if_true, no_room, room_n, len_n, ne_10, le_11, hf, Bool.and_self, Bool.false_and, Bool.and_false, br_false, take_all]
      simp only [hx2, List.cons_append, List.nil_append, List.length_cons, List.length_append, List.length_nil, Nat.zero_add]
    · simp only [rd_x2o, lt_nat, ok_at, hlt, decide_true, br_true, c0, c1, c2, c3, c4, c5, wrap1 hlt h.1, ht, decide_false, br_false, if_false]
      rfl

def end2 (es : List AV) (kvs : List (AV × AV)) (k n : Int) (fs : List AV) : X × St := match fs with
  | [] => ex_x2n_0 es kvs k n n
  | f :: fs => ex_x2o_0 es (f :: fs) kvs k n n

theorem runx2 {l : List H} (h : okL l) (hb : (l.length + 1) * 56 ≤ lim) (kvs : List (AV × AV)) (k : Int) (hp : cutB kvs l k l.length = true) : loopO IP [1002201, 0, 1, 6, 9, 10, 28, 29, 30] (loopAt F22 1).2 (hx2 (l.map H.av) kvs k l.length [] 0) = some (end2 (l.map H.av) (cutN kvs l k l.length) k l.length (fsR l k l.length)) := by
  refine loop_run (lK := loopN noL) cK0_ok (loopS_none (by kernel_rfl)) (fun i => hx2 (l.map H.av) (cutN kvs l k i) k l.length (fsR l k i) i) l.length (fun i => nx2 ..) ?_ (by cases fsR l k l.length <;> (intro h; cases h)) ?_
  · intro i hlt
    have h2 := fsR_len l k i
    refine (stepx2 h (cutN kvs l k i) k (fsR l k i) hlt (by omega) (all_range hp hlt)).trans ?_
    simp only [fsR, cutN]
    split <;> rfl
  · generalize fsR l k l.length = fs
    cases fs with
    | nil => refine (rd_x2n_eq _ _ _ _ _).trans ?_; simp only [rd_x2n, lt_nat, Nat.lt_irrefl, decide_false, br_false, end2]
    | cons f fs => refine (rd_x2o_eq _ (f :: fs) _ _ _ _).trans ?_; simp only [rd_x2o, lt_nat, Nat.lt_irrefl, decide_false, br_false, end2]

def gsK (kvs : List (AV × AV)) : Nat → List AV
  | 0 => []
  | i + 1 => if mhas kI kvs (.int .i64 i) = true then gsK kvs i ++ [(toH (mval kI kvs (.int .i64 i))).av] else gsK kvs i
def hasB (kvs : List (AV × AV)) (n : Nat) : Bool := (List.range n).all fun i => (mhas kI kvs (.int .i64 i) && isH (mval kI kvs (.int .i64 i))) || (!mhas kI kvs (.int .i64 i) && mnot kI kvs (.int .i64 i))
theorem gsK_len (kvs : List (AV × AV)) : ∀ i, (gsK kvs i).length ≤ i
  | 0 => by simp [gsK]
  | i + 1 => by
    have := gsK_len kvs i
    simp only [gsK]; split
    · simp; omega
    · omega

def hx3 (kvs : List (AV × AV)) (n : Int) : List AV → List AV → Int → St
  | [], [], i => ⟨[(1002202, .junk), (6, .mref 0), (9, .nils), (10, .nils), (48, .int .i64 n), (49, .int .i64 i)], [(0, .mp kvs)], 1, 0⟩
  | g :: gs, [], i => ⟨[(1002202, .junk), (6, .mref 0), (9, .own 1 0 (g :: gs).length), (10, .nils), (48, .int .i64 n), (49, .int .i64 i)], [(0, .mp kvs), (1, .arr 6 (g :: gs) false)], 2, 0⟩
  | [], f :: fs, i => ⟨[(1002202, .junk), (6, .mref 0), (9, .nils), (10, .own 1 0 (f :: fs).length), (48, .int .i64 n), (49, .int .i64 i)], [(0, .mp kvs), (1, .arr 1 (f :: fs) false)], 2, 0⟩
  | g :: gs, f :: fs, i => ⟨[(1002202, .junk), (6, .mref 0), (9, .own 1 0 (g :: gs).length), (10, .own 2 0 (f :: fs).length), (48, .int .i64 n), (49, .int .i64 i)], [(0, .mp kvs), (1, .arr 6 (g :: gs) false), (2, .arr 1 (f :: fs) false)], 3, 0⟩
theorem nx3 (kvs : List (AV × AV)) (n : Int) (gs fs : List AV) (i : Int) : norm [1002202, 6, 9, 10, 48, 49] (hx3 kvs n gs fs i) = some (hx3 kvs n gs fs i) := by
  cases gs <;> cases fs <;> kernel_rfl

theorem one_ok {x : AV} (h : isH x = true) : okE true ks6 [x] 0 = true := by
  rw [← av_toH h]; rfl
theorem one_cells (x : AV) : AV.agg [AV.int IntKind.i64 (intOf (cellAt [x] 0 0)), AV.int IntKind.i64 (intOf (cellAt [x] 0 1)), AV.int IntKind.i64 (intOf (cellAt [x] 0 2)), AV.int IntKind.i64 (intOf (cellAt [x] 0 3)), AV.int IntKind.i64 (intOf (cellAt [x] 0 4)), AV.str (strOf (cellAt [x] 0 5))] = (toH x).av := rfl

theorem stepx3 (kvs : List (AV × AV)) {n : Nat} (hn : n ≤ big) (gs fs : List AV) {i : Nat} (hlt : i < n) (hf : (gs.length + 1) * 56 ≤ lim) (hc : ((mhas kI kvs (.int .i64 i) && isH (mval kI kvs (.int .i64 i))) || (!mhas kI kvs (.int .i64 i) && mnot kI kvs (.int .i64 i))) = true) :
    XK0 F22 2 (hx3 kvs n gs fs i) = some (.normal, if mhas kI kvs (.int .i64 i) = true then hx3 kvs n (gs ++ [(toH (mval kI kvs (.int .i64 i))).av]) fs ((i + 1 : Nat) : Int) else hx3 kvs n gs fs ((i + 1 : Nat) : Int)) := by
  cases hh : mhas kI kvs (.int .i64 i) with
  | true =>
    simp only [hh, Bool.true_and, Bool.not_true, Bool.false_and, Bool.or_false] at hc
    cases gs with
    | nil => cases fs with
      | nil =>
        refine (rd_x3nn_eq _ _ i).trans ?_
        simp only [rd_x3nn, lt_nat, hlt, decide_true, br_true, hh, one_ok hc, one_cells, wrap1 hlt hn, if_true]; rfl
      | cons f fs =>
        refine (rd_x3no_eq (f :: fs) _ _ i).trans ?_
        simp only [rd_x3no, lt_nat, hlt, decide_true, br_true, hh, one_ok hc, one_cells, wrap1 hlt hn, if_true]; rfl
    | cons g gs => cases fs with
      | nil =>
        refine (rd_x3on_eq (g :: gs) _ _ i).trans ?_
        simp only [rd_x3on, lt_nat, hlt, decide_true, br_true, hh, one_ok hc, one_cells, wrap1 hlt hn, if_true, no_room, room_n, len_n, ne_10, le_11, hf, Bool.and_self, Bool.false_and, Bool.and_false, br_false, take_all]
        simp only [hx3, List.cons_append, List.nil_append, List.length_cons, List.length_append, List.length_nil, Nat.zero_add]
      | cons f fs =>
        refine (rd_x3oo_eq (g :: gs) (f :: fs) _ _ i).trans ?_
        simp only [rd_x3oo, lt_nat, hlt, decide_true, br_true, hh, one_ok hc, one_cells, wrap1 hlt hn, if_true, no_room, room_n, len_n, ne_10, le_11, hf, Bool.and_self, Bool.false_and, Bool.and_false, br_false, take_all]
        simp only [hx3, List.cons_append, List.nil_append, List.length_cons, List.length_append, List.length_nil, Nat.zero_add]
  | false =>
    simp only [hh, Bool.false_and, Bool.not_false, Bool.true_and, Bool.false_or] at hc
    cases gs with
    | nil => cases fs with
      | nil =>
        refine (rd_x3nn_eq _ _ i).trans ?_
        simp only [rd_x3nn, lt_nat, hlt, decide_true, br_true, br_false, hh, hc, wrap1 hlt hn]; rfl
      | cons f fs =>
        refine (rd_x3no_eq (f :: fs) _ _ i).trans ?_
        simp only [rd_x3no, lt_nat, hlt, decide_true, br_true, br_false, hh, hc, wrap1 hlt hn]; rfl
    | cons g gs => cases fs with
      | nil =>
        refine (rd_x3on_eq (g :: gs) _ _ i).trans ?_
        simp only [rd_x3on, lt_nat, hlt, decide_true, br_true, br_false, hh, hc, wrap1 hlt hn]; rfl
      | cons f fs =>
        refine (rd_x3oo_eq (g :: gs) (f :: fs) _ _ i).trans ?_
        simp only [rd_x3oo, lt_nat, hlt, decide_true, br_true, br_false, hh, hc, wrap1 hlt hn]; rfl

def end3 (kvs : List (AV × AV)) (n : Int) (gs fs : List AV) : X × St := match gs, fs with
  | [], [] => ex_x3nn_0 kvs n n
  | g :: gs, [] => ex_x3on_0 (g :: gs) kvs n n
  | [], f :: fs => ex_x3no_0 (f :: fs) kvs n n
  | g :: gs, f :: fs => ex_x3oo_0 (g :: gs) (f :: fs) kvs n n

theorem runx3 (kvs : List (AV × AV)) (n : Nat) (hn : n ≤ big) (hb : (n + 1) * 56 ≤ lim) (fs : List AV) (hp : hasB kvs n = true) : loopO IP [1002202, 6, 9, 10, 48, 49] (loopAt F22 2).2 (hx3 kvs n [] fs 0) = some (end3 kvs n (gsK kvs n) fs) := by
  refine loop_run (lK := loopN noL) cK0_ok (loopS_none (by kernel_rfl)) (fun i => hx3 kvs n (gsK kvs i) fs i) n (fun i => nx3 ..) ?_ (by cases gsK kvs n <;> cases fs <;> (intro h; cases h)) ?_
  · intro i hlt
    have h2 := gsK_len kvs i
    refine (stepx3 kvs hn (gsK kvs i) fs hlt (by omega) (all_range hp hlt)).trans ?_
    simp only [gsK]
    split <;> rfl
  · generalize gsK kvs n = gs
    cases gs with
    | nil => cases fs with
      | nil => refine (rd_x3nn_eq _ _ _).trans ?_; simp only [rd_x3nn, lt_nat, Nat.lt_irrefl, decide_false, br_false, end3]
      | cons f fs => refine (rd_x3no_eq (f :: fs) _ _ _).trans ?_; simp only [rd_x3no, lt_nat, Nat.lt_irrefl, decide_false, br_false, end3]
    | cons g gs => cases fs with
      | nil => refine (rd_x3on_eq (g :: gs) _ _ _).trans ?_; simp only [rd_x3on, lt_nat, Nat.lt_irrefl, decide_false, br_false, end3]
      | cons f fs => refine (rd_x3oo_eq (g :: gs) (f :: fs) _ _ _).trans ?_; simp only [rd_x3oo, lt_nat, Nat.lt_irrefl, decide_false, br_false, end3]

end Go.Proofs.H22

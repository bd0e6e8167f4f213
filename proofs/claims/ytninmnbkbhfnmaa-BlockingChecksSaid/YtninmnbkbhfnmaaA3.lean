/- Check, in the program and in the specification: its loops. -/
import Derived.Test.YtninmnbkbhfnmaaG3
set_option linter.unusedVariables false
set_option linter.unusedSimpArgs false
set_option linter.unnecessarySimpa false
namespace Go.Proofs.H23
open Go Go.Eng
set_option maxRecDepth 20000

abbrev cKA (R : Type) : CallK R := cKS sA R
theorem cKA_ok {R : Type} : CallS (R := R) (callO IP) (cKA R) := cKS_ok sA_ok

def ordB (l : List H) (i : Nat) : Bool := decide ((gt l i).id ≤ (gt l (i - 1)).id)
/-- What is wrong with the i-th: 0 a field, 1 the name, 2 the order, 9 nothing. -/
def kC (l : List H) (i : Nat) : Nat :=
  br (fieldsB (gt l i).id (gt l i).acc (gt l i).kind (gt l i).amt (gt l i).frm (gt l i).to) (br (nameB (gt l i).src) (br (decide (0 < i)) (br (ordB l i) 2 9) 9) 1) 0
theorem kC_cases (l : List H) (i : Nat) : kC l i = 0 ∨ kC l i = 1 ∨ kC l i = 2 ∨ kC l i = 9 := by
  unfold kC
  cases fieldsB (gt l i).id (gt l i).acc (gt l i).kind (gt l i).amt (gt l i).frm (gt l i).to <;> cases nameB (gt l i).src <;> cases decide (0 < i) <;> cases ordB l i <;> decide
def jC (l : List H) : Nat := fst (fun i => kC l i != 9) l.length
theorem jC_le (l : List H) : jC l ≤ l.length := fst_le _ _
theorem jC_no {l : List H} {i : Nat} (h : i < jC l) : kC l i = 9 := by
  have := fst_no h
  simpa using this
theorem jC_yes {l : List H} (h : jC l < l.length) : kC l (jC l) ≠ 9 := by
  have := fst_yes h
  simp only [bne_iff_ne] at this
  exact this

theorem pos_nat (i : Nat) : decide ((i : Int) > 0) = decide (0 < i) := by simp
theorem key_ok {l : List H} (h : okL l) {i : Nat} (hi : i < l.length) : decide ((gt l i).src.length ≤ big) = true := h.2 _ (gt_mem hi)

def ex10 (es : List AV) (n i : Int) (k : Nat) : X × St := match k with
  | 0 => ex_g10_0 es n i
  | 1 => ex_g10_1 es n i
  | 2 => ex_g10_2 es n i
  | _ => (.normal, hd_g10 es n (IntKind.i64.wrap (i + 1)))
theorem tree10 {l : List H} (h : okL l) {i : Nat} (hlt : i < l.length) : rd_g10 (l.map H.av) l.length i = some (ex10 (l.map H.av) l.length i (kC l i)) := by
  unfold rd_g10 kC
  simp only [lt_nat, ok_at, hlt, decide_true, br_true, c0, c1, c2, c3, c4, c5, c6, key_ok h hlt, pos_nat]
  by_cases hi : 0 < i
  · have h2 : i ≤ big := Nat.le_trans (Nat.le_of_lt hlt) h.1
    have h3 : i - 1 < l.length := by omega
    simp only [wrapm1 hi h2, ok_at, h3, hi, decide_true, br_true, c0, ordB]
    cases fieldsB (gt l i).id (gt l i).acc (gt l i).kind (gt l i).amt (gt l i).frm (gt l i).to <;> cases nameB (gt l i).src <;> cases decide ((gt l i).id ≤ (gt l (i - 1)).id) <;> rfl
  · simp only [hi, decide_false, br_false]
    cases fieldsB (gt l i).id (gt l i).acc (gt l i).kind (gt l i).amt (gt l i).frm (gt l i).to <;> cases nameB (gt l i).src <;> rfl
def end10 (l : List H) : X × St := br (decide (jC l < l.length)) (ex10 (l.map H.av) l.length (jC l : Nat) (kC l (jC l))) (ex_g10_3 (l.map H.av) l.length l.length)
theorem run10 {l : List H} (h : okL l) : loopO IP [1001000, 0, 8, 9, 10] (loopAt F10 0).2 (hd_g10 (l.map H.av) l.length 0) = some (end10 l) := by
  refine loop_run (lK := loopN noL) cKA_ok (loopS_none (by kernel_rfl)) (fun i => hd_g10 (l.map H.av) l.length i) (jC l) (fun i => nm_g10 ..) ?_ ?_ ?_
  · intro i hi
    have hlt : i < l.length := Nat.lt_of_lt_of_le hi (jC_le l)
    refine (rd_g10_eq _ _ i).trans ((tree10 h hlt).trans ?_)
    rw [jC_no hi]
    simp only [ex10, wrap1 hlt h.1]
  · unfold end10
    by_cases hf : jC l < l.length
    · rw [decide_eq_true hf, br_true]
      rcases kC_cases l (jC l) with h | h | h | h
      · rw [h]; intro h; cases h
      · rw [h]; intro h; cases h
      · rw [h]; intro h; cases h
      · exact absurd h (jC_yes hf)
    · rw [decide_eq_false hf, br_false]; intro h; cases h
  · refine (rd_g10_eq _ _ _).trans ?_
    unfold end10
    by_cases hf : jC l < l.length
    · rw [tree10 h hf, decide_eq_true hf, br_true]
    · have he : jC l = l.length := by have := jC_le l; omega
      rw [he]
      unfold rd_g10
      simp only [lt_nat, Nat.lt_irrefl, decide_false, br_false]

def ex11 (es : List AV) (i : Int) (k : Nat) : X × St := match k with
  | 0 => ex_g11_0 es i
  | 1 => ex_g11_1 es i
  | 2 => ex_g11_2 es i
  | _ => (.normal, hd_g11 es (IntKind.i64.wrap (i + 1)))
theorem tree11 {l : List H} (h : okL l) {i : Nat} (hlt : i < l.length) : rd_g11 (l.map H.av) i = some (ex11 (l.map H.av) i (kC l i)) := by
  unfold rd_g11 kC
  simp only [List.length_map, lt_nat, ok_at, hlt, decide_true, br_true, c0, c1, c2, c3, c4, c5, c6, key_ok h hlt, pos_nat]
  by_cases hi : 0 < i
  · have h2 : i ≤ big := Nat.le_trans (Nat.le_of_lt hlt) h.1
    have h3 : i - 1 < l.length := by omega
    simp only [wrapm1 hi h2, ok_at, h3, hi, decide_true, br_true, c0, ordB]
    cases fieldsB (gt l i).id (gt l i).acc (gt l i).kind (gt l i).amt (gt l i).frm (gt l i).to <;> cases nameB (gt l i).src <;> cases decide ((gt l i).id ≤ (gt l (i - 1)).id) <;> rfl
  · simp only [hi, decide_false, br_false]
    cases fieldsB (gt l i).id (gt l i).acc (gt l i).kind (gt l i).amt (gt l i).frm (gt l i).to <;> cases nameB (gt l i).src <;> rfl
def end11 (l : List H) : X × St := br (decide (jC l < l.length)) (ex11 (l.map H.av) (jC l : Nat) (kC l (jC l))) (ex_g11_3 (l.map H.av) l.length)
theorem run11 {l : List H} (h : okL l) : loopO IP [1001100, 0, 3] (loopAt F11 0).2 (hd_g11 (l.map H.av) 0) = some (end11 l) := by
  refine loop_run (lK := loopN noL) cKA_ok (loopS_none (by kernel_rfl)) (fun i => hd_g11 (l.map H.av) i) (jC l) (fun i => nm_g11 ..) ?_ ?_ ?_
  · intro i hi
    have hlt : i < l.length := Nat.lt_of_lt_of_le hi (jC_le l)
    refine (rd_g11_eq _ i).trans ((tree11 h hlt).trans ?_)
    rw [jC_no hi]
    simp only [ex11, wrap1 hlt h.1]
  · unfold end11
    by_cases hf : jC l < l.length
    · rw [decide_eq_true hf, br_true]
      rcases kC_cases l (jC l) with h | h | h | h
      · rw [h]; intro h; cases h
      · rw [h]; intro h; cases h
      · rw [h]; intro h; cases h
      · exact absurd h (jC_yes hf)
    · rw [decide_eq_false hf, br_false]; intro h; cases h
  · refine (rd_g11_eq _ _).trans ?_
    unfold end11
    by_cases hf : jC l < l.length
    · rw [tree11 h hf, decide_eq_true hf, br_true]
    · have he : jC l = l.length := by have := jC_le l; omega
      rw [he]
      unfold rd_g11
      simp only [List.length_map, lt_nat, Nat.lt_irrefl, decide_false, br_false]

def aJ (es : List AV) : Nat := jC (es.map toH)
def aC (es : List AV) : Nat := br (decide (aJ es < es.length)) (kC (es.map toH) (aJ es)) 9

def L10 (s : St) : List (Bool × X × St) := match s with
  | ⟨[(1001000, .junk), (0, .view 7 es), (8, .view 7 fs), (9, .int .i64 n), (10, .int .i64 0)], [], 0, 0⟩ =>
    let c := gd es && gd fs && decide (fs.map toH = es.map toH) && decide (n = (es.length : Int))
    [(c && aC es == 9, ex_g10_3 es n es.length), (c && aC es == 0, ex_g10_0 es n (aJ es)), (c && aC es == 1, ex_g10_1 es n (aJ es)), (c && aC es == 2, ex_g10_2 es n (aJ es))]
  | _ => []
def L11 (s : St) : List (Bool × X × St) := match s with
  | ⟨[(1001100, .junk), (0, .view 7 es), (3, .int .i64 0)], [], 0, 0⟩ =>
    [(gd es && aC es == 9, ex_g11_3 es es.length), (gd es && aC es == 0, ex_g11_0 es (aJ es)), (gd es && aC es == 1, ex_g11_1 es (aJ es)), (gd es && aC es == 2, ex_g11_2 es (aJ es))]
  | _ => []

theorem aC_in {es : List AV} (h : aC es ≠ 9) : aJ es < es.length ∧ kC (es.map toH) (aJ es) = aC es := by
  unfold aC at h ⊢
  by_cases hf : aJ es < es.length
  · rw [decide_eq_true hf, br_true]; exact ⟨hf, rfl⟩
  · rw [decide_eq_false hf, br_false] at h; exact absurd rfl h
theorem aC_out {es : List AV} (h : aC es = 9) : ¬ aJ es < es.length := by
  intro hf
  unfold aC at h
  rw [decide_eq_true hf, br_true] at h
  exact jC_yes (by rw [List.length_map]; exact hf) h

theorem end10_es {es : List AV} (h : gd es = true) : end10 (es.map toH) = br (decide (aJ es < es.length)) (ex10 es es.length (aJ es) (kC (es.map toH) (aJ es))) (ex_g10_3 es es.length es.length) := by
  unfold end10 aJ
  rw [← (es_gd h).1, List.length_map]
theorem end11_es {es : List AV} (h : gd es = true) : end11 (es.map toH) = br (decide (aJ es < es.length)) (ex11 es (aJ es) (kC (es.map toH) (aJ es))) (ex_g11_3 es es.length) := by
  unfold end11 aJ
  rw [← (es_gd h).1, List.length_map]

theorem L10_ok : ∀ p ∈ loops F10.body, LoopOf (loopO IP) (oneL 1001000 L10) p.1 p.2 := by
  refine loops_one (ks := [0, 8, 9, 10]) (c := (loopAt F10 0).2) (by kernel_rfl) ?_ ?_
  · intro s x s' hn hm
    unfold L10 at hm
    split at hm
    · rename_i es fs n
      simp only [List.mem_cons, Prod.mk.injEq, List.not_mem_nil, or_false] at hm
      have hc : (gd es && gd fs && decide (fs.map toH = es.map toH) && decide (n = (es.length : Int))) = true := by
        rcases hm with ⟨hb, -⟩ | ⟨hb, -⟩ | ⟨hb, -⟩ | ⟨hb, -⟩ <;> simp only [eq_comm (a := true), Bool.and_eq_true] at hb ⊢ <;> exact hb.1
      rw [hc] at hm
      simp only [Bool.and_eq_true, decide_eq_true_eq] at hc
      obtain ⟨⟨⟨hg, hg2⟩, he⟩, hnn⟩ := hc
      have : fs = es := by rw [(es_gd hg).1, (es_gd hg2).1, he]
      subst this
      subst hnn
      have h4 := run10 (es_gd hg).2
      rw [← (es_gd hg).1, List.length_map, end10_es hg] at h4
      rw [h4]
      rcases hm with ⟨hb, hq⟩ | ⟨hb, hq⟩ | ⟨hb, hq⟩ | ⟨hb, hq⟩ <;> simp only [eq_comm (a := true), Bool.true_and, beq_iff_eq] at hb <;> rw [hq]
      · rw [decide_eq_false (aC_out hb), br_false]
      all_goals
        obtain ⟨h1, h2⟩ := aC_in (es := fs) (by omega)
        rw [decide_eq_true h1, br_true, h2, hb]; rfl
    · cases hm
  · intro s s1 hn hne
    unfold L10 at hne
    split at hne
    · kernel_rfl
    · exact absurd rfl hne
theorem L11_ok : ∀ p ∈ loops F11.body, LoopOf (loopO IP) (oneL 1001100 L11) p.1 p.2 := by
  refine loops_one (ks := [0, 3]) (c := (loopAt F11 0).2) (by kernel_rfl) ?_ ?_
  · intro s x s' hn hm
    unfold L11 at hm
    split at hm
    · rename_i es
      simp only [List.mem_cons, Prod.mk.injEq, List.not_mem_nil, or_false] at hm
      have hg : gd es = true := by
        rcases hm with ⟨hb, -⟩ | ⟨hb, -⟩ | ⟨hb, -⟩ | ⟨hb, -⟩ <;> simp only [eq_comm (a := true), Bool.and_eq_true] at hb <;> exact hb.1
      rw [hg] at hm
      have h4 := run11 (es_gd hg).2
      rw [← (es_gd hg).1, end11_es hg] at h4
      rw [h4]
      rcases hm with ⟨hb, hq⟩ | ⟨hb, hq⟩ | ⟨hb, hq⟩ | ⟨hb, hq⟩ <;> simp only [eq_comm (a := true), Bool.true_and, beq_iff_eq] at hb <;> rw [hq]
      · rw [decide_eq_false (aC_out hb), br_false]
      all_goals
        obtain ⟨h1, h2⟩ := aC_in (es := es) (by omega)
        rw [decide_eq_true h1, br_true, h2, hb]; rfl
    · cases hm
  · intro s s1 hn hne
    unfold L11 at hne
    split at hne
    · exact nm_g11 ..
    · exact absurd rfl hne

/-! Sources that are too long. -/
def isBig (h : H) : Bool := decide ((h.src.length : Int) > 100)
def L9 (s : St) : List (Bool × X × St) := match s with
  | ⟨[(1000900, .junk), (0, .view 7 es), (3, .int .i64 0)], [], 0, 0⟩ =>
    [(gd es && inA isBig es, ex_g9_0 es (ixA isBig es : Nat)), (gd es && !inA isBig es, ex_g9_1 es es.length)]
  | _ => []
theorem run9 {l : List H} (h : okL l) : loopO IP [1000900, 0, 3] (loopAt F9 0).2 (hd_g9 (l.map H.av) 0) = if l.findIdx isBig < l.length then some (ex_g9_0 (l.map H.av) (l.findIdx isBig : Nat)) else some (ex_g9_1 (l.map H.av) l.length) := by
  have hr : ∀ i : Nat, i < l.findIdx isBig → execK IP (cK0 _) (loopN noL) (loopAt F9 0).2 (hd_g9 (l.map H.av) i) (roundEnd [1000900, 0, 3]) = some (.normal, hd_g9 (l.map H.av) ((i + 1 : Nat) : Int)) := by
    intro i hi
    have hlt : i < l.length := by have := List.findIdx_le_length (p := isBig) (xs := l); omega
    have hp := findIdx_no hi
    simp only [isBig] at hp
    refine (rd_g9_eq _ i).trans ?_
    unfold rd_g9
    simp only [List.length_map, lt_nat, ok_at, hlt, decide_true, br_true, c6, hp, br_false, wrap1 hlt h.1]
  split
  · rename_i hf
    refine loop_run cK0_ok (loopS_none (by kernel_rfl)) (fun i => hd_g9 (l.map H.av) i) _ (fun i => nm_g9 ..) hr (by intro h; cases h) ?_
    refine (rd_g9_eq _ _).trans ?_
    have hp := findIdx_yes hf
    simp only [isBig] at hp
    unfold rd_g9
    simp only [List.length_map, lt_nat, ok_at, hf, decide_true, br_true, c6, hp]
  · rename_i hf
    have he : l.findIdx isBig = l.length := by have := List.findIdx_le_length (p := isBig) (xs := l); omega
    rw [he] at hr
    refine loop_run cK0_ok (loopS_none (by kernel_rfl)) (fun i => hd_g9 (l.map H.av) i) _ (fun i => nm_g9 ..) hr (by intro h; cases h) ?_
    refine (rd_g9_eq _ _).trans ?_
    unfold rd_g9
    simp only [List.length_map, lt_nat, Nat.lt_irrefl, decide_false, br_false]
theorem L9_ok : ∀ p ∈ loops F9.body, LoopOf (loopO IP) (oneL 1000900 L9) p.1 p.2 := by
  refine loops_one (ks := [0, 3]) (c := (loopAt F9 0).2) (by kernel_rfl) ?_ ?_
  · intro s x s' hn hm
    unfold L9 at hm
    split at hm
    · rename_i es
      simp only [List.mem_cons, Prod.mk.injEq, List.not_mem_nil, or_false] at hm
      rcases hm with ⟨hb, hq⟩ | ⟨hb, hq⟩ <;> simp only [eq_comm (a := true), Bool.and_eq_true, Bool.not_eq_true'] at hb
      · have h4 := run9 (es_gd hb.1).2
        rw [← (es_gd hb.1).1, if_pos (by rw [List.length_map]; exact of_decide_eq_true hb.2)] at h4
        rw [hq]; exact h4
      · have h4 := run9 (es_gd hb.1).2
        rw [← (es_gd hb.1).1, if_neg (by rw [List.length_map]; exact of_decide_eq_false hb.2), List.length_map] at h4
        rw [hq]; exact h4
    · cases hm
  · intro s s1 hn hne
    unfold L9 at hne
    split at hne
    · exact nm_g9 ..
    · exact absurd rfl hne

end Go.Proofs.H23

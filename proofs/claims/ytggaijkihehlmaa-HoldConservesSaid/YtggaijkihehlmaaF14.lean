/- Place of the specification: its summary. -/
import Derived.Test.YtggaijkihehlmaaF13
set_option linter.unusedVariables false
set_option linter.unusedSimpArgs false
set_option linter.unnecessarySimpa false
namespace Go.Proofs.H22
open Go Go.Eng
set_option maxRecDepth 20000

theorem s32_ok : ∀ a h r h', (true, r, h') ∈ sPlace a h → callO IP 32 a h = some (r, h') := by
  intro a h r h' hm
  unfold sPlace at hm
  split at hm
  · rename_i es a b c d e t
    simp only [List.mem_cons, Prod.mk.injEq, List.not_mem_nil, or_false] at hm
    refine callO_by sD_ok (by kernel_rfl) (loops_none (by kernel_rfl)) (n := 4) ((rd_f32_eq es a b c d e t).trans ?_)
    have hc : cap es = true ∧ isH (.agg [.int .i64 a, .int .i64 b, .int .i64 c, .int .i64 d, .int .i64 e, .str t]) = true := by
      rcases hm with ⟨hb, -⟩ | ⟨hb, -⟩ <;> simp only [eq_comm (a := true), Bool.and_eq_true] at hb <;> exact hb.1
    obtain ⟨hg, hl2, hl1, hlb⟩ := cap_of hc.1
    obtain ⟨hg1, ht⟩ := isH_one hc.2
    have hroom : decide (0 + es.length + 1 ≤ es.length) = false := decide_eq_false (by omega)
    have hroom2 : decide (es.length < 0 + es.length + 1) = true := decide_eq_true (by omega)
    have hlen : decide (0 + es.length ≤ es.length) = true := decide_eq_true (by omega)
    have hne : decide (1 ≠ 0) = true := rfl
    have h11 : decide (1 ≤ 1) = true := rfl
    unfold rd_f32
    have hdef : placeE es ⟨a, b, c, d, e, t⟩ = br (chkS (es.map toH) != 0) 1 (br (oneB a b c d e t != 0) 1
      (br (decide ((es.length : Int) > 0) && decide (a ≤ (hA es (es.length - 1)).id)) 10 (br (inA (isKey t) es) 12 (br ((es.length : Int) == 64) 5 0)))) := rfl
    cases p1 : (chkS (es.map toH) != 0)
    · cases p2 : (oneB a b c d e t != 0)
      · by_cases hp : (es.length : Int) > 0
        · have hp' := decide_eq_true hp
          have hz : decide (es.length = 0) = false := decide_eq_false (by omega)
          have hz2 : decide (es.length ≠ 0) = true := decide_eq_true (by omega)
          cases p3 : decide (a ≤ (hA es (es.length - 1)).id)
          · cases p4 : inA (isKey t) es
            · cases p5 : ((es.length : Int) == 64)
              · have hu : placeE es ⟨a, b, c, d, e, t⟩ = 0 := by simp only [hdef, p1, p2, hp', p3, p4, p5, Bool.and_false, br_false]
                rcases hm with ⟨hb, -⟩ | ⟨hb, rfl, rfl⟩
                · simp [hu] at hb
                · simp only [hg, ht, hp', tail_ok hg hp, last_cell hg hp, p3, p4, p5, hz, hz2, hl1, hl2, hroom, hroom2, hlen, hne, h11, decide_true, Bool.and_self, Bool.false_and, Bool.and_false, br_true, br_false]
                  refine (br_pos (snapB_tup (n := 198) rfl (by simp))).trans ?_
                  rw [grow_eq]
              · have hu : placeE es ⟨a, b, c, d, e, t⟩ = 5 := by simp only [hdef, p1, p2, hp', p3, p4, p5, Bool.and_false, br_false, br_true]
                rcases hm with ⟨hb, rfl, rfl⟩ | ⟨hb, -⟩
                · simp only [hg, ht, hp', tail_ok hg hp, last_cell hg hp, p3, p4, p5, hu, br_true, br_false]
                · simp [hu] at hb
            · have hu : placeE es ⟨a, b, c, d, e, t⟩ = 12 := by simp only [hdef, p1, p2, hp', p3, p4, Bool.and_false, br_false, br_true]
              rcases hm with ⟨hb, rfl, rfl⟩ | ⟨hb, -⟩
              · simp only [hg, ht, hp', tail_ok hg hp, last_cell hg hp, p3, p4, hu, br_true, br_false]
              · simp [hu] at hb
          · have hu : placeE es ⟨a, b, c, d, e, t⟩ = 10 := by simp only [hdef, p1, p2, hp', p3, Bool.and_self, br_false, br_true]
            rcases hm with ⟨hb, rfl, rfl⟩ | ⟨hb, -⟩
            · simp only [hg, ht, hp', tail_ok hg hp, last_cell hg hp, p3, hu, br_true, br_false]
            · simp [hu] at hb
        · have hp' := decide_eq_false hp
          have hz : decide (es.length = 0) = true := decide_eq_true (by omega)
          have he : es = [] := List.length_eq_zero_iff.1 (by omega)
          cases p4 : inA (isKey t) es
          · cases p5 : ((es.length : Int) == 64)
            · have hu : placeE es ⟨a, b, c, d, e, t⟩ = 0 := by simp only [hdef, p1, p2, hp', p4, p5, Bool.false_and, br_false]
              rcases hm with ⟨hb, -⟩ | ⟨hb, rfl, rfl⟩
              · simp [hu] at hb
              · simp only [hg, ht, hp', p4, p5, hz, hl1, hl2, hroom, hroom2, hlen, hne, h11, decide_true, Bool.and_self, Bool.false_and, Bool.and_false, br_true, br_false]
                simp only [he, List.nil_append]
            · have hu : placeE es ⟨a, b, c, d, e, t⟩ = 5 := by simp only [hdef, p1, p2, hp', p4, p5, Bool.false_and, br_false, br_true]
              rcases hm with ⟨hb, rfl, rfl⟩ | ⟨hb, -⟩
              · simp only [hg, ht, hp', p4, p5, hu, br_true, br_false]
              · simp [hu] at hb
          · have hu : placeE es ⟨a, b, c, d, e, t⟩ = 12 := by simp only [hdef, p1, p2, hp', p4, Bool.false_and, br_false, br_true]
            rcases hm with ⟨hb, rfl, rfl⟩ | ⟨hb, -⟩
            · simp only [hg, ht, hp', p4, hu, br_true, br_false]
            · simp [hu] at hb
      · have hu : placeE es ⟨a, b, c, d, e, t⟩ = 1 := by simp only [hdef, p1, p2, br_false, br_true]
        rcases hm with ⟨hb, rfl, rfl⟩ | ⟨hb, -⟩
        · simp only [hg, ht, hu, br_true, br_false]
        · simp [hu] at hb
    · have hu : placeE es ⟨a, b, c, d, e, t⟩ = 1 := by simp only [hdef, p1, br_true]
      rcases hm with ⟨hb, rfl, rfl⟩ | ⟨hb, -⟩
      · simp only [hg, hu, br_true]
      · simp [hu] at hb
  · rename_i a b c d e t
    simp only [List.mem_cons, Prod.mk.injEq, List.not_mem_nil, or_false] at hm
    refine callO_by sD_ok (by kernel_rfl) (loops_none (by kernel_rfl)) (n := 4) ((rd_f32n_eq a b c d e t).trans ?_)
    have hc : isH (.agg [.int .i64 a, .int .i64 b, .int .i64 c, .int .i64 d, .int .i64 e, .str t]) = true := by
      rcases hm with ⟨hb, -⟩ | ⟨hb, -⟩ <;> simp only [eq_comm (a := true), Bool.and_eq_true] at hb <;> exact hb.1
    obtain ⟨hg1, ht⟩ := isH_one hc
    unfold rd_f32n
    refine (br_pos ht).trans ?_
    rcases hm with ⟨hb, rfl, rfl⟩ | ⟨hb, rfl, rfl⟩ <;> simp only [eq_comm (a := true), Bool.and_eq_true] at hb
    · simp only [hb.2, br_true]
    · have : (oneB a b c d e t != 0) = false := by simp only [bne, hb.2]; rfl
      simp only [this, br_false]
  · cases hm

/-! The same lists; the same numbers. -/
abbrev hd33 (es fs : List AV) (i : Int) : St := ⟨[(1003300, .junk), (0, .view 6 es), (1, .view 6 fs), (5, .int .i64 i)], [], 0, 0⟩
theorem nm33 (es fs : List AV) (i : Int) : norm [1003300, 0, 1, 5] (hd33 es fs i) = some (hd33 es fs i) := by kernel_rfl
theorem run33 {l : List H} (h : okL l) : loopO IP [1003300, 0, 1, 5] (loopAt F33 0).2 (hd33 (l.map H.av) (l.map H.av) 0) = some (ex_g33_1 (l.map H.av) (l.map H.av) l.length) := by
  refine loop_run (lK := loopN noL) cK0_ok (loopS_none (by kernel_rfl)) (fun i => hd33 (l.map H.av) (l.map H.av) i) l.length (fun i => nm33 ..) ?_ (by intro h; cases h) ?_
  · intro i hlt
    refine (rd_g33_eq _ _ i).trans ?_
    simp only [rd_g33, List.length_map, lt_nat, ok_at, hlt, decide_true, br_true, c0, c1, c2, c3, c4, c5, wrap1 hlt h.1, beq_self_eq_true, Bool.and_self, Bool.not_true, if_true, br_false]
  · refine (rd_g33_eq _ _ _).trans ?_
    simp only [rd_g33, List.length_map, lt_nat, Nat.lt_irrefl, decide_false, br_false]

def L33 (s : St) : List (Bool × X × St) := match s with
  | ⟨[(1003300, .junk), (0, .view 6 es), (1, .view 6 fs), (5, .int .i64 0)], [], 0, 0⟩ => [(gd es && gd fs && decide (es.map toH = fs.map toH), ex_g33_1 es fs es.length)]
  | _ => []
theorem L33_ok : ∀ p ∈ loops F33.body, LoopOf (loopO IP) (oneL 1003300 L33) p.1 p.2 := by
  refine loops_one (ks := [0, 1, 5]) (c := (loopAt F33 0).2) (by kernel_rfl) ?_ ?_
  · intro s x s' hn hm
    unfold L33 at hm
    split at hm
    · rename_i es fs
      simp only [List.mem_cons, Prod.mk.injEq, List.not_mem_nil, or_false] at hm
      obtain ⟨hb, hq⟩ := hm
      simp only [eq_comm (a := true), Bool.and_eq_true, decide_eq_true_eq] at hb
      obtain ⟨⟨h1, h2⟩, h3⟩ := hb
      have : fs = es := by rw [(es_gd h1).1, (es_gd h2).1, h3]
      subst this
      have h4 := run33 (es_gd h1).2
      rw [← (es_gd h1).1, List.length_map] at h4
      rw [hq]; exact h4
    · cases hm
  · intro s s1 hn hne
    unfold L33 at hne
    split at hne
    · exact nm33 ..
    · exact absurd rfl hne

def isI : AV → Bool
  | .int .i64 _ => true
  | _ => false
def gdI (es : List AV) : Bool := es.all isI && decide (es.length ≤ big)
def toI (x : AV) : Int := intOf x
theorem isI_eq {x : AV} (h : isI x = true) : AV.int .i64 (toI x) = x := by
  unfold isI at h
  split at h
  · rfl
  · cases h
theorem ints_of {es : List AV} (h : gdI es = true) : (es.map toI).map (AV.int .i64) = es := by
  simp only [gdI, Bool.and_eq_true, List.all_eq_true] at h
  rw [List.map_map]
  calc es.map (AV.int .i64 ∘ toI) = es.map id := List.map_congr_left fun x hx => isI_eq (h.1 x hx)
    _ = es := List.map_id _
theorem oki_at {es : List AV} (h : gdI es = true) {i : Nat} (hi : i < es.length) : okAt [.int .i64] es (i : Int) = true := by
  simp only [gdI, Bool.and_eq_true, List.all_eq_true] at h
  have h1 := h.1 es[i] (List.getElem_mem hi)
  simp only [okAt, atIdx, Int.toNat_natCast]
  simp only [Int.natCast_nonneg, if_true, List.getElem?_eq_getElem hi]
  revert h1
  generalize es[i] = x
  intro h1
  rw [← isI_eq h1]; rfl

abbrev hd37 (es fs : List AV) (i : Int) : St := ⟨[(1003700, .junk), (0, .view 1 es), (1, .view 1 fs), (5, .int .i64 i)], [], 0, 0⟩
theorem nm37 (es fs : List AV) (i : Int) : norm [1003700, 0, 1, 5] (hd37 es fs i) = some (hd37 es fs i) := by kernel_rfl
theorem run37 {es : List AV} (h : gdI es = true) : loopO IP [1003700, 0, 1, 5] (loopAt F37 0).2 (hd37 es es 0) = some (ex_g37_1 es es es.length) := by
  have hb : es.length ≤ big := by simp only [gdI, Bool.and_eq_true, decide_eq_true_eq] at h; exact h.2
  refine loop_run (lK := loopN noL) cK0_ok (loopS_none (by kernel_rfl)) (fun i => hd37 es es i) es.length (fun i => nm37 ..) ?_ (by intro h; cases h) ?_
  · intro i hlt
    refine (rd_g37_eq _ _ i).trans ?_
    simp only [rd_g37, lt_nat, hlt, oki_at h hlt, decide_true, br_true, wrap1 hlt hb, bne_self_eq_false, br_false]
  · refine (rd_g37_eq _ _ _).trans ?_
    simp only [rd_g37, lt_nat, Nat.lt_irrefl, decide_false, br_false]

def L37 (s : St) : List (Bool × X × St) := match s with
  | ⟨[(1003700, .junk), (0, .view 1 es), (1, .view 1 fs), (5, .int .i64 0)], [], 0, 0⟩ => [(gdI es && gdI fs && decide (es.map toI = fs.map toI), ex_g37_1 es fs es.length)]
  | _ => []
theorem L37_ok : ∀ p ∈ loops F37.body, LoopOf (loopO IP) (oneL 1003700 L37) p.1 p.2 := by
  refine loops_one (ks := [0, 1, 5]) (c := (loopAt F37 0).2) (by kernel_rfl) ?_ ?_
  · intro s x s' hn hm
    unfold L37 at hm
    split at hm
    · rename_i es fs
      simp only [List.mem_cons, Prod.mk.injEq, List.not_mem_nil, or_false] at hm
      obtain ⟨hb, hq⟩ := hm
      simp only [eq_comm (a := true), Bool.and_eq_true, decide_eq_true_eq] at hb
      obtain ⟨⟨h1, h2⟩, h3⟩ := hb
      have : fs = es := by rw [← ints_of h1, ← ints_of h2, h3]
      subst this
      rw [hq]; exact run37 h1
    · cases hm
  · intro s s1 hn hne
    unfold L37 at hne
    split at hne
    · exact nm37 ..
    · exact absurd rfl hne

end Go.Proofs.H22

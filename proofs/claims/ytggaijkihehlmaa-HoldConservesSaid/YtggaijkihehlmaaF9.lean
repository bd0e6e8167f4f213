/- Place: its summary. -/
import Derived.Test.YtggaijkihehlmaaF8
set_option linter.unusedVariables false
set_option linter.unusedSimpArgs false
set_option linter.unnecessarySimpa false
namespace Go.Proofs.H22
open Go Go.Eng
set_option maxRecDepth 20000

theorem chk_one (h : H) : chkS [h] = oneB h.id h.acc h.amt h.frm h.to h.key := by
  have h0 : errAt [h] 0 = oneB h.id h.acc h.amt h.frm h.to h.key := by
    have hd : dupB [h] 0 = false := rfl
    have hp : decide (0 < 0) = false := rfl
    show br (fieldsB h.id h.acc h.amt h.frm h.to) (br (keyB h.key) (br (decide (0 < 0)) (br (ordB [h] 0) 10 (br (dupB [h] 0) 12 0)) (br (dupB [h] 0) 12 0)) 4) 1 = _
    rw [hd, hp]; rfl
  have hf : firstErr [h] = if errAt [h] 0 = 0 then 1 else 0 := by
    simp only [firstErr, List.length_singleton, List.range_one, List.findIdx_cons, List.findIdx_nil]
    by_cases h1 : errAt [h] 0 = 0
    · simp [h1]
    · have h2 : (errAt [h] 0 != 0) = true := bne_iff_ne.2 h1
      rw [h2, if_neg h1]; rfl
  by_cases h1 : errAt [h] 0 = 0
  · rw [if_pos h1] at hf
    simp only [chkS, hf, List.length_singleton]
    rw [← h0, h1]; rfl
  · rw [if_neg h1] at hf
    simp only [chkS, hf, List.length_singleton, ← h0]
    rfl

def placeE (es : List AV) (h : H) : Int :=
  br (chkS (es.map toH) != 0) 1 (br (oneB h.id h.acc h.amt h.frm h.to h.key != 0) 1
    (br (decide ((es.length : Int) > 0) && decide (h.id ≤ (hA es (es.length - 1)).id)) 10 (br (inA (isKey h.key) es) 12 (br ((es.length : Int) == 64) 5 0))))

def sPlace (a : List AV) (h : Heap) : List (Bool × Res × Heap) := match a, h with
  | [.view 6 es, .agg [.int .i64 a, .int .i64 b, .int .i64 c, .int .i64 d, .int .i64 e, .str t]], [] =>
    let g := cap es && isH (.agg [.int .i64 a, .int .i64 b, .int .i64 c, .int .i64 d, .int .i64 e, .str t])
    [(g && placeE es ⟨a, b, c, d, e, t⟩ != 0, .ret (.tup [.nils, .int .i64 (placeE es ⟨a, b, c, d, e, t⟩)]), []),
     (g && placeE es ⟨a, b, c, d, e, t⟩ == 0, .ret (.tup [.view 6 (es ++ [.agg [.int .i64 a, .int .i64 b, .int .i64 c, .int .i64 d, .int .i64 e, .str t]]), .int .i64 0]), [])]
  | [.nils, .agg [.int .i64 a, .int .i64 b, .int .i64 c, .int .i64 d, .int .i64 e, .str t]], [] =>
    let g := isH (.agg [.int .i64 a, .int .i64 b, .int .i64 c, .int .i64 d, .int .i64 e, .str t])
    [(g && oneB a b c d e t != 0, .ret (.tup [.nils, .int .i64 1]), []),
     (g && oneB a b c d e t == 0, .ret (.tup [.view 6 [.agg [.int .i64 a, .int .i64 b, .int .i64 c, .int .i64 d, .int .i64 e, .str t]], .int .i64 0]), [])]
  | _, _ => []

theorem grow_eq (es : List AV) (x : AV) : List.take (es.length + 1) (List.drop 0 (List.take es.length (List.drop 0 es) ++ [x])) = es ++ [x] := by
  rw [List.drop_zero, List.drop_zero, List.take_length, List.take_of_length_le (by simp)]

theorem place_path {es : List AV} {h : H} (hp : placeE es h = 0) : (chkS (es.map toH) != 0) = false ∧ (oneB h.id h.acc h.amt h.frm h.to h.key != 0) = false ∧ (decide ((es.length : Int) > 0) && decide (h.id ≤ (hA es (es.length - 1)).id)) = false ∧ inA (isKey h.key) es = false ∧ ((es.length : Int) == 64) = false := by
  simp only [placeE] at hp
  revert hp
  cases (chkS (es.map toH) != 0) <;> cases (oneB h.id h.acc h.amt h.frm h.to h.key != 0) <;> cases (decide ((es.length : Int) > 0) && decide (h.id ≤ (hA es (es.length - 1)).id)) <;> cases inA (isKey h.key) es <;> cases ((es.length : Int) == 64) <;> simp

theorem isH_one {a b c d e : Int} {t : List UInt8} (h : isH (.agg [.int .i64 a, .int .i64 b, .int .i64 c, .int .i64 d, .int .i64 e, .str t]) = true) : gd [.agg [.int .i64 a, .int .i64 b, .int .i64 c, .int .i64 d, .int .i64 e, .str t]] = true ∧ decide (t.length ≤ big) = true := by
  constructor
  · have h1 : gd [.agg [.int .i64 a, .int .i64 b, .int .i64 c, .int .i64 d, .int .i64 e, .str t]] = (isH (.agg [.int .i64 a, .int .i64 b, .int .i64 c, .int .i64 d, .int .i64 e, .str t]) && true && decide (1 ≤ big)) := rfl
    rw [h1, h]; rfl
  · have h1 : (decide (t.length ≤ 9223372036854775807) && decide (c ≤ 9223372036854775807)) = true := h
    simp only [Bool.and_eq_true] at h1
    exact h1.1

theorem tail_ok {es : List AV} (h : gd es = true) (hp : (es.length : Int) > 0) : okAt ks6 es (IntKind.i64.wrap ((es.length : Int) - 1)) = true := by
  have hb : es.length ≤ big := by have := (es_gd h).2.1; simpa using this
  rw [wrapm1 (by omega) hb]
  exact ok_es h (by omega)

theorem last_cell {es : List AV} (h : gd es = true) (hp : (es.length : Int) > 0) : intOf (cellAt es (IntKind.i64.wrap ((es.length : Int) - 1)) 0) = (hA es (es.length - 1)).id := by
  have hb : es.length ≤ big := by have := (es_gd h).2.1; simpa using this
  rw [wrapm1 (by omega) hb]
  exact (cells_es h _).1

theorem s17_ok : ∀ a h r h', (true, r, h') ∈ sPlace a h → callO IP 17 a h = some (r, h') := by
  intro a h r h' hm
  unfold sPlace at hm
  split at hm
  · rename_i es a b c d e t
    simp only [List.mem_cons, Prod.mk.injEq, List.not_mem_nil, or_false] at hm
    refine callO_by sD_ok (by kernel_rfl) (loops_none (by kernel_rfl)) (n := 4) ((rd_f17_eq es a b c d e t).trans ?_)
    have hc : cap es = true ∧ isH (.agg [.int .i64 a, .int .i64 b, .int .i64 c, .int .i64 d, .int .i64 e, .str t]) = true := by
      rcases hm with ⟨hb, -⟩ | ⟨hb, -⟩ <;> simp only [eq_comm (a := true), Bool.and_eq_true] at hb <;> exact hb.1
    obtain ⟨hg, hl2, hl1, hlb⟩ := cap_of hc.1
    obtain ⟨hg1, ht⟩ := isH_one hc.2
    have hone : chkS [({ id := a, acc := b, amt := c, frm := d, to := e, key := t } : H)] = oneB a b c d e t := chk_one _
    have hroom : decide (0 + es.length + 1 ≤ es.length) = false := decide_eq_false (by omega)
    have hroom2 : decide (es.length < 0 + es.length + 1) = true := decide_eq_true (by omega)
    have hlen : decide (0 + es.length ≤ es.length) = true := decide_eq_true (by omega)
    have hne : decide (1 ≠ 0) = true := rfl
    have h11 : decide (1 ≤ 1) = true := rfl
    change rd_f17 es a b c d e t = _
    unfold rd_f17
    change br _ (br _ _ (br _ (br (chkS [({ id := a, acc := b, amt := c, frm := d, to := e, key := t } : H)] != 0) _ _) _)) _ = _
    rw [hone]
    have hdef : placeE es ⟨a, b, c, d, e, t⟩ = br (chkS (es.map toH) != 0) 1 (br (oneB a b c d e t != 0) 1
      (br (decide ((es.length : Int) > 0) && decide (a ≤ (hA es (es.length - 1)).id)) 10 (br (inA (isKey t) es) 12 (br ((es.length : Int) == 64) 5 0)))) := rfl
    cases p1 : (chkS (es.map toH) != 0)
    · cases p2 : (oneB a b c d e t != 0)
      · by_cases hp : (es.length : Int) > 0
        · have hp' := decide_eq_true hp
          cases p3 : decide (a ≤ (hA es (es.length - 1)).id)
          · cases p4 : inA (isKey t) es
            · cases p5 : ((es.length : Int) == 64)
              · have hu : placeE es ⟨a, b, c, d, e, t⟩ = 0 := by simp only [hdef, p1, p2, hp', p3, p4, p5, Bool.and_false, br_false]
                rcases hm with ⟨hb, -⟩ | ⟨hb, rfl, rfl⟩
                · simp [hu] at hb
                · simp only [hg, hg1, hp', tail_ok hg hp, last_cell hg hp, p3, p4, p5, hl1, hl2, hroom, hroom2, hlen, hne, h11, decide_true, Bool.and_self, Bool.false_and, Bool.and_false, br_true, br_false]
                  refine (br_pos (snapB_tup (n := 198) rfl (by simp))).trans ?_
                  rw [grow_eq]
              · have hu : placeE es ⟨a, b, c, d, e, t⟩ = 5 := by simp only [hdef, p1, p2, hp', p3, p4, p5, Bool.and_false, br_false, br_true]
                rcases hm with ⟨hb, rfl, rfl⟩ | ⟨hb, -⟩
                · simp only [hg, hg1, hp', tail_ok hg hp, last_cell hg hp, p3, p4, p5, hu, br_true, br_false]
                · simp [hu] at hb
            · have hu : placeE es ⟨a, b, c, d, e, t⟩ = 12 := by simp only [hdef, p1, p2, hp', p3, p4, Bool.and_false, br_false, br_true]
              rcases hm with ⟨hb, rfl, rfl⟩ | ⟨hb, -⟩
              · simp only [hg, hg1, hp', tail_ok hg hp, last_cell hg hp, p3, p4, hu, br_true, br_false]
              · simp [hu] at hb
          · have hu : placeE es ⟨a, b, c, d, e, t⟩ = 10 := by simp only [hdef, p1, p2, hp', p3, Bool.and_self, br_false, br_true]
            rcases hm with ⟨hb, rfl, rfl⟩ | ⟨hb, -⟩
            · simp only [hg, hg1, hp', tail_ok hg hp, last_cell hg hp, p3, hu, br_true, br_false]
            · simp [hu] at hb
        · have hp' := decide_eq_false hp
          cases p4 : inA (isKey t) es
          · cases p5 : ((es.length : Int) == 64)
            · have hu : placeE es ⟨a, b, c, d, e, t⟩ = 0 := by simp only [hdef, p1, p2, hp', p4, p5, Bool.false_and, br_false]
              rcases hm with ⟨hb, -⟩ | ⟨hb, rfl, rfl⟩
              · simp [hu] at hb
              · simp only [hg, hg1, hp', p4, p5, hl1, hl2, hroom, hroom2, hlen, hne, h11, decide_true, Bool.and_self, Bool.false_and, Bool.and_false, br_true, br_false]
                refine (br_pos (snapB_tup (n := 198) rfl (by simp))).trans ?_
                rw [grow_eq]
            · have hu : placeE es ⟨a, b, c, d, e, t⟩ = 5 := by simp only [hdef, p1, p2, hp', p4, p5, Bool.false_and, br_false, br_true]
              rcases hm with ⟨hb, rfl, rfl⟩ | ⟨hb, -⟩
              · simp only [hg, hg1, hp', p4, p5, hu, br_true, br_false]
              · simp [hu] at hb
          · have hu : placeE es ⟨a, b, c, d, e, t⟩ = 12 := by simp only [hdef, p1, p2, hp', p4, Bool.false_and, br_false, br_true]
            rcases hm with ⟨hb, rfl, rfl⟩ | ⟨hb, -⟩
            · simp only [hg, hg1, hp', p4, hu, br_true, br_false]
            · simp [hu] at hb
      · have hu : placeE es ⟨a, b, c, d, e, t⟩ = 1 := by simp only [hdef, p1, p2, br_false, br_true]
        rcases hm with ⟨hb, rfl, rfl⟩ | ⟨hb, -⟩
        · simp only [hg, hg1, hu, br_true, br_false]
        · simp [hu] at hb
    · have hu : placeE es ⟨a, b, c, d, e, t⟩ = 1 := by simp only [hdef, p1, br_true]
      rcases hm with ⟨hb, rfl, rfl⟩ | ⟨hb, -⟩
      · simp only [hg, hu, br_true]
      · simp [hu] at hb
  · rename_i a b c d e t
    simp only [List.mem_cons, Prod.mk.injEq, List.not_mem_nil, or_false] at hm
    refine callO_by sD_ok (by kernel_rfl) (loops_none (by kernel_rfl)) (n := 4) ((rd_f17n_eq a b c d e t).trans ?_)
    have hc : isH (.agg [.int .i64 a, .int .i64 b, .int .i64 c, .int .i64 d, .int .i64 e, .str t]) = true := by
      rcases hm with ⟨hb, -⟩ | ⟨hb, -⟩ <;> simp only [eq_comm (a := true), Bool.and_eq_true] at hb <;> exact hb.1
    obtain ⟨hg1, ht⟩ := isH_one hc
    have hone : chkS [({ id := a, acc := b, amt := c, frm := d, to := e, key := t } : H)] = oneB a b c d e t := chk_one _
    unfold rd_f17n
    refine (br_pos hg1).trans ?_
    change br (chkS [({ id := a, acc := b, amt := c, frm := d, to := e, key := t } : H)] != 0) _ _ = _
    rw [hone]
    rcases hm with ⟨hb, rfl, rfl⟩ | ⟨hb, rfl, rfl⟩ <;> simp only [eq_comm (a := true), Bool.and_eq_true] at hb
    · simp only [hb.2, br_true]
    · have : (oneB a b c d e t != 0) = false := by simp only [bne, hb.2]; rfl
      simp only [this, br_false]
  · cases hm
end Go.Proofs.H22

/- What Place, Use and Release make of valid lists. -/
import Derived.Test.YtggaijkihehlmaaG16
set_option linter.unusedVariables false
set_option linter.unusedSimpArgs false
set_option linter.unnecessarySimpa false
namespace Go.Proofs.H22
open Go Go.Eng
set_option maxRecDepth 20000

def sOth (a : List AV) (h : Heap) : List (Bool × Res × Heap) := match a, h with
  | [.view 6 es, .view 6 fs, .int .i64 t], [] => [(gd es && gd fs && othersB (es.map toH) fs t, .ret (.bool true), [])]
  | [.view 6 es, .nils, .int .i64 t], [] => [(gd es && onlyB (es.map toH) t, .ret (.bool true), [])]
  | [.nils, .view 6 _, .int .i64 _], [] => [(true, .ret (.bool true), [])]
  | _, _ => []
theorem s20_ok : ∀ a h r h', (true, r, h') ∈ sOth a h → callO IP 20 a h = some (r, h') := by
  intro a h r h' hm
  unfold sOth at hm
  split at hm
  · rename_i es fs t
    simp only [List.mem_cons, Prod.mk.injEq, List.not_mem_nil, or_false] at hm
    obtain ⟨hb, rfl, rfl⟩ := hm
    refine callO_by sF_ok (by kernel_rfl) L20_ok (n := 4) ((rd_f20v_eq es fs t).trans ?_)
    unfold rd_f20v
    rw [← hb]; rfl
  · rename_i es t
    simp only [List.mem_cons, Prod.mk.injEq, List.not_mem_nil, or_false] at hm
    obtain ⟨hb, rfl, rfl⟩ := hm
    refine callO_by sF_ok (by kernel_rfl) L20_ok (n := 4) ((rd_f20n_eq es t).trans ?_)
    unfold rd_f20n
    rw [← hb]; rfl
  · simp only [List.mem_cons, Prod.mk.injEq, List.not_mem_nil, or_false] at hm
    obtain ⟨-, rfl, rfl⟩ := hm
    exact callO_iff.2 ⟨6, by kernel_rfl⟩
  · cases hm
def sG : Summ := addS 20 sOth sF
theorem sG_ok : SummOk IP sG := addS_ok sF_ok s20_ok

theorem vld_app {es : List AV} (hg : gd es = true) {h : H} (hp : placeE es h = 0) : Vld (es.map toH ++ [h]) := by
  obtain ⟨p1, p2, p3, p4, p5⟩ := place_path hp
  have v : Vld (es.map toH) := (chk_iff _).1 (by simpa using p1)
  have hgood : good h := by simpa [good] using p2
  have hes := (es_gd hg).1
  have hkey : ∀ x ∈ es.map toH, x.key ≠ h.key := by
    intro x hx hk
    rw [hes, inA_map, decide_eq_false_iff_not, List.findIdx_lt_length] at p4
    exact p4 ⟨x, hx, by simp [isKey, hk]⟩
  have hid : ∀ x ∈ es.map toH, x.id < h.id := by
    intro x hx
    obtain ⟨i, hi, rfl⟩ := List.mem_iff_getElem.1 hx
    rw [← gt_get hi]
    have hlen : (es.map toH).length = es.length := List.length_map _
    have hpos : (es.length : Int) > 0 := by omega
    rw [decide_eq_true hpos, Bool.true_and, decide_eq_false_iff_not] at p3
    have hl : hA es (es.length - 1) = gt (es.map toH) (es.length - 1) := rfl
    rw [hl] at p3
    by_cases h1 : i = es.length - 1
    · rw [h1]; omega
    · have := pw_iff.1 v.ids i (es.length - 1) (by omega) (by omega)
      omega
  have h64 : es.length ≠ 64 := by
    intro h1; rw [h1] at p5; cases p5
  refine ⟨?_, ?_, ?_, ?_⟩
  · have := v.len; simp at this ⊢; omega
  · intro x hx
    rcases List.mem_append.1 hx with h1 | h1
    · exact v.all x h1
    · simp only [List.mem_singleton] at h1; rw [h1]; exact hgood
  · rw [List.pairwise_append]
    exact ⟨v.ids, List.pairwise_singleton _ _, fun a ha b hb => by simp only [List.mem_singleton] at hb; rw [hb]; exact hid a ha⟩
  · rw [List.pairwise_append]
    exact ⟨v.keys, List.pairwise_singleton _ _, fun a ha b hb => by simp only [List.mem_singleton] at hb; rw [hb]; exact hkey a ha⟩

theorem map_erase {α β : Type} (f : α → β) (l : List α) (k : Nat) : (l.eraseIdx k).map f = (l.map f).eraseIdx k := by
  rw [erase_eq, erase_eq, List.map_append, List.map_take, List.map_drop]

theorem del_map (es : List AV) (t : Int) : (delA es t).map toH = (es.map toH).eraseIdx (ixA (isId t) es) := map_erase ..
theorem set_map (es : List AV) (t n : Int) : (setA es t n).map toH = (es.map toH).set (ixA (isId t) es) (subH (hA es (ixA (isId t) es)) n) := by
  unfold setA
  rw [List.map_set]; rfl

theorem vld_del {es : List AV} (v : Vld (es.map toH)) (t : Int) : Vld ((delA es t).map toH) := by
  rw [del_map]; exact vld_sub v (List.eraseIdx_sublist _ _)

theorem set_ids (l : List H) (j : Nat) (y : H) (hj : j < l.length) (h1 : y.id = (gt l j).id) (h2 : y.key = (gt l j).key) : (l.set j y).map H.id = l.map H.id ∧ (l.set j y).map H.key = l.map H.key := by
  rw [List.map_set, List.map_set, h1, h2, gt_get hj]
  constructor
  · have : (l.map H.id)[j]'(by simpa using hj) = l[j].id := by simp
    rw [← this, List.set_getElem_self]
  · have : (l.map H.key)[j]'(by simpa using hj) = l[j].key := by simp
    rw [← this, List.set_getElem_self]

theorem vld_set {es : List AV} (v : Vld (es.map toH)) {t n k : Int} (hu : useE es t n k = 0) (ha : allB es t n = false) : Vld ((setA es t n).map toH) := by
  obtain ⟨hi, -, -, hn, hb⟩ := useE_eq hu
  have hj : ixA (isId t) es < (es.map toH).length := by rw [List.length_map]; exact of_decide_eq_true hi
  have hn' := of_decide_eq_false hn
  have hb' := of_decide_eq_false hb
  have hne : n ≠ (hA es (ixA (isId t) es)).amt := by
    intro h; rw [allB, h] at ha; simp at ha
  have hx : hA es (ixA (isId t) es) = gt (es.map toH) (ixA (isId t) es) := rfl
  obtain ⟨e1, e2⟩ := set_ids (es.map toH) (ixA (isId t) es) (subH (hA es (ixA (isId t) es)) n) hj rfl rfl
  have hgood := v.all _ (gt_mem hj)
  rw [← hx] at hgood
  rw [set_map]
  refine ⟨by simpa using v.len, ?_, ?_, ?_⟩
  · intro x hm
    rcases List.mem_or_eq_of_mem_set hm with h1 | h1
    · exact v.all x h1
    · rw [h1]
      revert hgood hb' hne
      generalize hA es (ixA (isId t) es) = z
      intro hb' hne hgood
      simp only [good, oneB, subH] at hgood ⊢
      have hf : fieldsB z.id z.acc (z.amt - n) z.frm z.to = fieldsB z.id z.acc z.amt z.frm z.to ∨ fieldsB z.id z.acc z.amt z.frm z.to = false := by
        by_cases h2 : z.amt ≤ 1000000000000
        · left
          have h3 : decide (z.amt - n ≥ 1) = decide (z.amt ≥ 1) := by
            rw [decide_eq_true (show z.amt - n ≥ 1 by omega), decide_eq_true (show z.amt ≥ 1 by omega)]
          have h4 : decide (z.amt - n ≤ 1000000000000) = decide (z.amt ≤ 1000000000000) := by
            rw [decide_eq_true (show z.amt - n ≤ 1000000000000 by omega), decide_eq_true h2]
          simp only [fieldsB, h3, h4]
        · right
          simp only [fieldsB, decide_eq_false h2, Bool.and_false, Bool.false_and]
      rcases hf with h2 | h2
      · rw [h2]; exact hgood
      · rw [h2] at hgood; cases hgood
  · have := v.ids
    rw [← List.pairwise_map (f := H.id) (R := fun a b => a < b)] at this ⊢
    rw [e1]; exact this
  · have := v.keys
    rw [← List.pairwise_map (f := H.key) (R := fun a b => a ≠ b)] at this ⊢
    rw [e2]; exact this

theorem ix_id {es : List AV} {t : Int} (hi : inA (isId t) es = true) : (gt (es.map toH) (ixA (isId t) es)).id = t := by
  have h1 : (es.map toH).findIdx (isId t) < (es.map toH).length := by rw [List.length_map]; exact of_decide_eq_true hi
  have := findIdx_yes h1
  exact eq_of_beq this

/-- The other holds, before and behind. -/
theorem oth_app {es : List AV} {h : H} (v : Vld (es.map toH)) (v2 : Vld (es.map toH ++ [h])) (he : es = (es.map toH).map H.av) : othersB (es.map toH) (es ++ [h.av]) h.id = true ∧ othersB ((es ++ [h.av]).map toH) es h.id = true := by
  constructor
  · have := others_of (l := es.map toH) v2 (t := h.id) (fun x hx _ => List.mem_append_left _ hx)
    rw [List.map_append, ← he] at this
    exact this
  · have := others_of (l := es.map toH ++ [h]) v (t := h.id) (fun x hx hne => by
      rcases List.mem_append.1 hx with h1 | h1
      · exact h1
      · simp only [List.mem_singleton] at h1; exact absurd (by rw [h1]) hne)
    rw [← he] at this
    rw [List.map_append]
    exact this

theorem oth_del {es : List AV} {t : Int} (hi : inA (isId t) es = true) (v : Vld (es.map toH)) (he : es = (es.map toH).map H.av) : othersB (es.map toH) (delA es t) t = true ∧ othersB ((delA es t).map toH) es t = true := by
  have hd : delA es t = ((delA es t).map toH).map H.av := by
    rw [del_map, map_erase, ← he]; rfl
  have hj : ixA (isId t) es < (es.map toH).length := by rw [List.length_map]; exact of_decide_eq_true hi
  constructor
  · have := others_of (l := es.map toH) (vld_del v t) (t := t) (fun x hx hne => by
      rw [del_map]
      obtain ⟨i, hl, rfl⟩ := List.mem_iff_getElem.1 hx
      rw [List.mem_eraseIdx_iff_getElem]
      refine ⟨i, hl, ?_, rfl⟩
      intro h1
      subst h1
      rw [← gt_get hl] at hne
      exact hne (ix_id hi))
    rw [← hd] at this
    exact this
  · have := others_of (l := (delA es t).map toH) v (t := t) (fun x hx _ => by
      rw [del_map] at hx; exact List.mem_of_mem_eraseIdx hx)
    rw [← he] at this
    exact this

theorem oth_set {es : List AV} {t n k : Int} (hu : useE es t n k = 0) (ha : allB es t n = false) (v : Vld (es.map toH)) (he : es = (es.map toH).map H.av) : othersB (es.map toH) (setA es t n) t = true ∧ othersB ((setA es t n).map toH) es t = true := by
  have hi := (useE_eq hu).1
  have hd : setA es t n = ((setA es t n).map toH).map H.av := by
    rw [set_map, List.map_set, ← he]; rfl
  have hj : ixA (isId t) es < (es.map toH).length := by rw [List.length_map]; exact of_decide_eq_true hi
  have hy : (subH (hA es (ixA (isId t) es)) n).id = t := ix_id hi
  constructor
  · have := others_of (l := es.map toH) (vld_set v hu ha) (t := t) (fun x hx hne => by
      rw [set_map]
      obtain ⟨i, hl, rfl⟩ := List.mem_iff_getElem.1 hx
      have h1 : ixA (isId t) es ≠ i := by
        intro h1
        subst h1
        rw [← gt_get hl] at hne
        exact hne (ix_id hi)
      refine List.mem_iff_getElem.2 ⟨i, by simpa using hl, ?_⟩
      rw [List.getElem_set_ne h1])
    rw [← hd] at this
    exact this
  · have := others_of (l := (setA es t n).map toH) v (t := t) (fun x hx hne => by
      rw [set_map] at hx
      rcases List.mem_or_eq_of_mem_set hx with h1 | h1
      · exact h1
      · exact absurd (by rw [h1]; exact hy) hne)
    rw [← he] at this
    exact this

end Go.Proofs.H22

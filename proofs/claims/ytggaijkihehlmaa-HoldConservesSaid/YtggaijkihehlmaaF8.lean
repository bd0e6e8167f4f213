/- Place, Use, Release: their summaries. -/
import Derived.Test.YtggaijkihehlmaaG7
set_option linter.unusedVariables false
set_option linter.unusedSimpArgs false
set_option linter.unnecessarySimpa false
namespace Go.Proofs.H22
open Go Go.Eng
set_option maxRecDepth 20000

def cap (es : List AV) : Bool := gd es && decide ((es.length + 1) * 56 ≤ lim)

theorem cap_of {es : List AV} (h : cap es = true) : gd es = true ∧ (es.length + 1) * 56 ≤ lim ∧ es.length * 56 ≤ lim ∧ es.length ≤ big := by
  simp only [cap, Bool.and_eq_true, decide_eq_true_eq] at h
  have h1 : es.length ≤ big := by have := (es_gd h.1).2.1; simpa using this
  exact ⟨h.1, h.2, by omega, h1⟩

theorem okE_es {es : List AV} (h : gd es = true) {j : Nat} (hj : j < es.length) : okE true ks6 es (j : Int) = true := by
  rw [(es_gd h).1]
  have hj' : j < (es.map toH).length := by simpa using hj
  simp only [okE, atIdx, Int.toNat_natCast, List.getElem?_map]
  simp [hj]
  rfl

theorem okE_set {es : List AV} {j : Nat} (hj : j < es.length) (x : H) : okE true ks6 (es.set j x.av) (j : Int) = true := by
  simp [okE, atIdx, hj]
  rfl

theorem cell_set {es : List AV} {j : Nat} (hj : j < es.length) (x : AV) (m : Nat) : cellAt (es.set j x) (j : Int) m = ((cellsA x)[m]?).getD .junk := by
  simp [cellAt, atIdx, hj]

theorem snapB_tup {h : Heap} {n id off len sz : Nat} {k : IntKind} {m : Int} {es : List AV} {fz : Bool} (hl : hlook h id = some (.arr sz es fz)) (hle : off + len ≤ es.length) : snapB h (n + 2) (.tup [.own id off len, .int k m]) = true := by
  simp [snapB, hl, hle]

def subH (h : H) (n : Int) : H := { h with amt := h.amt - n }
def delA (es : List AV) (t : Int) : List AV := es.eraseIdx (ixA (isId t) es)
def setA (es : List AV) (t n : Int) : List AV := es.set (ixA (isId t) es) (subH (hA es (ixA (isId t) es)) n).av

def useE (es : List AV) (t n k : Int) : Int :=
  br (inA (isId t) es) (br (decide (k < (hA es (ixA (isId t) es)).frm)) 23 (br (decide (k > (hA es (ixA (isId t) es)).to)) 23 (br (decide (n < 1)) 1 (br (decide (n > (hA es (ixA (isId t) es)).amt)) 18 0)))) 11
def allB (es : List AV) (t n : Int) : Bool := n == (hA es (ixA (isId t) es)).amt

def sUse (a : List AV) (h : Heap) : List (Bool × Res × Heap) := match a, h with
  | [.view 6 es, .int .i64 t, .int .i64 n, .int .i64 k], [] =>
    [(cap es && useE es t n k != 0, .ret (.tup [.nils, .int .i64 (useE es t n k)]), []),
     (cap es && useE es t n k == 0 && allB es t n, .ret (.tup [.view 6 (delA es t), .int .i64 0]), []),
     (cap es && useE es t n k == 0 && !allB es t n, .ret (.tup [.view 6 (setA es t n), .int .i64 0]), [])]
  | [.nils, .int .i64 _, .int .i64 _, .int .i64 _], [] => [(true, .ret (.tup [.nils, .int .i64 11]), [])]
  | _, _ => []

def sUseR (a : List AV) (h : Heap) : List (Bool × Res × Heap) := match a, h with
  | [.view 6 es, .int .i64 t, .int .i64 n, .int .i64 k], [] =>
    [(cap es && useE es t n k != 0, .ret (.tup [.nils, .int .i64 (useE es t n k)]), []),
     (cap es && useE es t n k == 0 && allB es t n && decide (es.length = 1), .ret (.tup [.nils, .int .i64 0]), []),
     (cap es && useE es t n k == 0 && allB es t n && decide (es.length ≠ 1), .ret (.tup [.view 6 (delA es t), .int .i64 0]), []),
     (cap es && useE es t n k == 0 && !allB es t n, .ret (.tup [.view 6 (setA es t n), .int .i64 0]), [])]
  | [.nils, .int .i64 _, .int .i64 _, .int .i64 _], [] => [(true, .ret (.tup [.nils, .int .i64 11]), [])]
  | _, _ => []

/-- Where Use leaves with an error. -/
theorem useE_ne {es : List AV} {t n k : Int} (h : useE es t n k ≠ 0) (hi : inA (isId t) es = true) : decide (k < (hA es (ixA (isId t) es)).frm) = true ∨ decide (k > (hA es (ixA (isId t) es)).to) = true ∨ decide (n < 1) = true ∨ decide (n > (hA es (ixA (isId t) es)).amt) = true := by
  simp only [useE, hi, br_true] at h
  revert h
  cases decide (k < (hA es (ixA (isId t) es)).frm) <;> cases decide (k > (hA es (ixA (isId t) es)).to) <;> cases decide (n < 1) <;> cases decide (n > (hA es (ixA (isId t) es)).amt) <;> simp

theorem useE_eq {es : List AV} {t n k : Int} (h : useE es t n k = 0) : inA (isId t) es = true ∧ decide (k < (hA es (ixA (isId t) es)).frm) = false ∧ decide (k > (hA es (ixA (isId t) es)).to) = false ∧ decide (n < 1) = false ∧ decide (n > (hA es (ixA (isId t) es)).amt) = false := by
  simp only [useE] at h
  revert h
  cases inA (isId t) es <;> cases decide (k < (hA es (ixA (isId t) es)).frm) <;> cases decide (k > (hA es (ixA (isId t) es)).to) <;> cases decide (n < 1) <;> cases decide (n > (hA es (ixA (isId t) es)).amt) <;> simp

theorem hA_mem {es : List AV} {j : Nat} (h : j < es.length) : hA es j ∈ es.map toH := gt_mem (by simpa using h)

theorem s18_ok : ∀ a h r h', (true, r, h') ∈ sUse a h → callO IP 18 a h = some (r, h') := by
  intro a h r h' hm
  unfold sUse at hm
  split at hm
  · rename_i es t n k
    simp only [List.mem_cons, Prod.mk.injEq, List.not_mem_nil, or_false] at hm
    refine callO_by sD_ok (by kernel_rfl) (loops_none (by kernel_rfl)) (n := 4) ((rd_f18_eq es t n k).trans ?_)
    have hc : cap es = true := by
      rcases hm with ⟨hb, -⟩ | ⟨hb, -⟩ | ⟨hb, -⟩ <;> simp only [eq_comm (a := true), Bool.and_eq_true] at hb
      · exact hb.1
      · exact hb.1.1
      · exact hb.1.1
    obtain ⟨hg, hl2, hl1, hlb⟩ := cap_of hc
    cases hi : inA (isId t) es with
    | false =>
      have hu : useE es t n k = 11 := by simp [useE, hi]
      rcases hm with ⟨hb, rfl, rfl⟩ | ⟨hb, -⟩ | ⟨hb, -⟩
      · simp only [rd_f18, hg, hi, hu, Bool.and_false, Bool.not_false, Bool.and_self, br_true, br_false]
      · simp [hu] at hb
      · simp [hu] at hb
    | true =>
      have hj : ixA (isId t) es < es.length := of_decide_eq_true hi
      have hne := useE_ne (es := es) (t := t) (n := n) (k := k)
      have heq := useE_eq (es := es) (t := t) (n := n) (k := k)
      have hdef : useE es t n k = (br (decide (k < (hA es (ixA (isId t) es)).frm)) 23 (br (decide (k > (hA es (ixA (isId t) es)).to)) 23 (br (decide (n < 1)) 1 (br (decide (n > (hA es (ixA (isId t) es)).amt)) 18 0)))) := by simp only [useE, hi, br_true]
      have hall : allB es t n = (n == (hA es (ixA (isId t) es)).amt) := rfl
      have hrange : (hA es (ixA (isId t) es)).amt ≤ 9223372036854775807 := ((es_gd hg).2.2 _ (hA_mem hj)).2
      simp only [delA, setA] at hm
      generalize hjj : ixA (isId t) es = j at *
      obtain ⟨x0, x1, x2, x3, x4, x5⟩ := cells_es hg j
      simp only [rd_f18, hg, hi, hjj, ok_es hg hj, x0, x1, x2, x3, x4, x5, Bool.and_self, br_true]
      cases b1 : decide (k < (hA es j).frm)
      · cases b2 : decide (k > (hA es j).to)
        · cases b3 : decide (n < 1)
          · cases b4 : decide (n > (hA es j).amt)
            · have hu : useE es t n k = 0 := by simp only [hdef, b1, b2, b3, b4, br_false]
              have hw : IntKind.i64.wrap ((hA es j).amt - n) = (hA es j).amt - n := by
                have b3' := of_decide_eq_false b3
                have b4' := of_decide_eq_false b4
                exact wrap64 (by omega) (by omega)
              have hset : ∀ y : List AV, AV.agg [AV.int IntKind.i64 (hA es j).id, AV.int IntKind.i64 (hA es j).acc, AV.int IntKind.i64 ((hA es j).amt - n), AV.int IntKind.i64 (hA es j).frm, AV.int IntKind.i64 (hA es j).to, AV.str (hA es j).key] = (subH (hA es j) n).av := fun _ => rfl
              have hw2 : IntKind.i64.wrap ((j : Int) + 1) = (j : Int) + 1 := by rw [wrap1 hj hlb]; simp
              simp only [br_false, hl1, decide_true, br_true, inB_nat, hj, Int.toNat_natCast, Nat.zero_add, Bool.and_self, okE_es hg hj, x0, x1, x2, x3, x4, x5, hw, hset [], List.length_set, okE_set hj, cell_set hj, hw2]
              have hj2 : decide ((j : Int) < (es.length : Int)) = true := decide_eq_true (by omega)
              have hj3 : decide (0 ≤ (j : Int)) = true := decide_eq_true (by omega)
              have hcell : (intOf ((cellsA (subH (hA es j) n).av)[2]?.getD AV.junk) == 0) = allB es t n := by
                rw [hall]
                show ((hA es j).amt - n == 0) = _
                rw [Bool.eq_iff_iff]
                simp only [beq_iff_eq]
                omega
              simp only [hcell, hj2, hj3, Bool.and_self, br_true]
              rcases hm with ⟨hb, -⟩ | ⟨hb, rfl, rfl⟩ | ⟨hb, rfl, rfl⟩
              · simp [hu] at hb
              · simp only [eq_comm (a := true), Bool.and_eq_true] at hb
                simp only [hb.2, br_true]
                refine (br_pos (snapB_tup (n := 198) rfl (by simp [List.length_eraseIdx, hj]))).trans ?_
                have hlen : ((es.set j (subH (hA es j) n).av).eraseIdx j).length = es.length - 1 := by simp [List.length_eraseIdx, hj]
                rw [List.drop_zero, List.take_append_of_le_length (by omega), List.take_of_length_le (by omega), List.eraseIdx_set_eq]
              · simp only [eq_comm (a := true), Bool.and_eq_true, Bool.not_eq_true'] at hb
                simp only [hb.2, br_false]
                refine (br_pos (snapB_tup (n := 198) rfl (by simp))).trans ?_
                rw [List.drop_zero, List.take_of_length_le (by simp)]
            · have hu : useE es t n k = 18 := by simp only [hdef, b1, b2, b3, b4, br_false, br_true]
              rcases hm with ⟨hb, rfl, rfl⟩ | ⟨hb, -⟩ | ⟨hb, -⟩
              · simp only [hu, br_true, br_false]
              · simp [hu] at hb
              · simp [hu] at hb
          · have hu : useE es t n k = 1 := by simp only [hdef, b1, b2, b3, br_false, br_true]
            rcases hm with ⟨hb, rfl, rfl⟩ | ⟨hb, -⟩ | ⟨hb, -⟩
            · simp only [hu, br_true, br_false]
            · simp [hu] at hb
            · simp [hu] at hb
        · have hu : useE es t n k = 23 := by simp only [hdef, b1, b2, br_false, br_true]
          rcases hm with ⟨hb, rfl, rfl⟩ | ⟨hb, -⟩ | ⟨hb, -⟩
          · simp only [hu, br_true, br_false]
          · simp [hu] at hb
          · simp [hu] at hb
      · have hu : useE es t n k = 23 := by simp only [hdef, b1, br_true]
        rcases hm with ⟨hb, rfl, rfl⟩ | ⟨hb, -⟩ | ⟨hb, -⟩
        · simp only [hu, br_true]
        · simp [hu] at hb
        · simp [hu] at hb
  · simp only [List.mem_cons, Prod.mk.injEq, List.not_mem_nil, or_false] at hm
    obtain ⟨-, rfl, rfl⟩ := hm
    exact callO_iff.2 ⟨6, by kernel_rfl⟩
  · cases hm

theorem s34_ok : ∀ a h r h', (true, r, h') ∈ sUseR a h → callO IP 34 a h = some (r, h') := by
  intro a h r h' hm
  unfold sUseR at hm
  split at hm
  · rename_i es t n k
    simp only [List.mem_cons, Prod.mk.injEq, List.not_mem_nil, or_false] at hm
    refine callO_by sD_ok (by kernel_rfl) (loops_none (by kernel_rfl)) (n := 4) ((rd_f34_eq es t n k).trans ?_)
    have hc : cap es = true := by
      rcases hm with ⟨hb, -⟩ | ⟨hb, -⟩ | ⟨hb, -⟩ | ⟨hb, -⟩ <;> simp only [eq_comm (a := true), Bool.and_eq_true] at hb
      · exact hb.1
      · exact hb.1.1.1
      · exact hb.1.1.1
      · exact hb.1.1
    obtain ⟨hg, hl2, hl1, hlb⟩ := cap_of hc
    cases hi : inA (isId t) es with
    | false =>
      have hu : useE es t n k = 11 := by simp [useE, hi]
      rcases hm with ⟨hb, rfl, rfl⟩ | ⟨hb, -⟩ | ⟨hb, -⟩ | ⟨hb, -⟩
      · simp only [rd_f34, hg, hi, hu, Bool.and_false, Bool.not_false, Bool.and_self, br_true, br_false]
      · simp [hu] at hb
      · simp [hu] at hb
      · simp [hu] at hb
    | true =>
      have hj : ixA (isId t) es < es.length := of_decide_eq_true hi
      have hdef : useE es t n k = (br (decide (k < (hA es (ixA (isId t) es)).frm)) 23 (br (decide (k > (hA es (ixA (isId t) es)).to)) 23 (br (decide (n < 1)) 1 (br (decide (n > (hA es (ixA (isId t) es)).amt)) 18 0)))) := by simp only [useE, hi, br_true]
      have hall : allB es t n = (n == (hA es (ixA (isId t) es)).amt) := rfl
      have hrange : (hA es (ixA (isId t) es)).amt ≤ 9223372036854775807 := ((es_gd hg).2.2 _ (hA_mem hj)).2
      simp only [delA, setA] at hm
      generalize hjj : ixA (isId t) es = j at *
      obtain ⟨x0, x1, x2, x3, x4, x5⟩ := cells_es hg j
      simp only [rd_f34, hg, hi, hjj, ok_es hg hj, x0, x1, x2, x3, x4, x5, Bool.and_self, br_true]
      cases b1 : decide (k < (hA es j).frm)
      · cases b2 : decide (k > (hA es j).to)
        · cases b3 : decide (n < 1)
          · cases b4 : decide (n > (hA es j).amt)
            · have hu : useE es t n k = 0 := by simp only [hdef, b1, b2, b3, b4, br_false]
              have hw : IntKind.i64.wrap ((hA es j).amt - n) = (hA es j).amt - n := by
                have b3' := of_decide_eq_false b3
                have b4' := of_decide_eq_false b4
                exact wrap64 (by omega) (by omega)
              have hset : ∀ y : List AV, AV.agg [AV.int IntKind.i64 (hA es j).id, AV.int IntKind.i64 (hA es j).acc, AV.int IntKind.i64 ((hA es j).amt - n), AV.int IntKind.i64 (hA es j).frm, AV.int IntKind.i64 (hA es j).to, AV.str (hA es j).key] = (subH (hA es j) n).av := fun _ => rfl
              have hj2 : decide ((j : Int) < (es.length : Int)) = true := decide_eq_true (by omega)
              have hj3 : decide (0 ≤ (j : Int)) = true := decide_eq_true (by omega)
              have hz : decide (es.length = 0) = false := decide_eq_false (by omega)
              have hz2 : decide (es.length ≠ 0) = true := decide_eq_true (by omega)
              simp only [br_false, hl1, hlb, hz, hz2, decide_true, br_true, inB_nat, hj, Int.toNat_natCast, Nat.zero_add, Bool.and_self, Bool.false_and, okE_es hg hj, x0, x1, x2, x3, x4, x5, hw, hset [], hj2, hj3, ← hall, Bool.true_and]
              rcases hm with ⟨hb, -⟩ | ⟨hb, rfl, rfl⟩ | ⟨hb, rfl, rfl⟩ | ⟨hb, rfl, rfl⟩
              · simp [hu] at hb
              · simp only [eq_comm (a := true), Bool.and_eq_true] at hb
                simp only [hb.1.2, hb.2, br_true]
              · simp only [eq_comm (a := true), Bool.and_eq_true] at hb
                have h1 : decide (es.length = 1) = false := decide_eq_false (of_decide_eq_true hb.2)
                simp only [hb.1.2, hb.2, h1, br_true, br_false]
              · simp only [eq_comm (a := true), Bool.and_eq_true, Bool.not_eq_true'] at hb
                simp only [hb.2, br_false]
                refine (br_pos (snapB_tup (n := 198) rfl (by simp))).trans ?_
                rw [List.drop_zero, List.take_of_length_le (by simp)]
            · have hu : useE es t n k = 18 := by simp only [hdef, b1, b2, b3, b4, br_false, br_true]
              rcases hm with ⟨hb, rfl, rfl⟩ | ⟨hb, -⟩ | ⟨hb, -⟩ | ⟨hb, -⟩
              · simp only [hu, br_true, br_false]
              · simp [hu] at hb
              · simp [hu] at hb
              · simp [hu] at hb
          · have hu : useE es t n k = 1 := by simp only [hdef, b1, b2, b3, br_false, br_true]
            rcases hm with ⟨hb, rfl, rfl⟩ | ⟨hb, -⟩ | ⟨hb, -⟩ | ⟨hb, -⟩
            · simp only [hu, br_true, br_false]
            · simp [hu] at hb
            · simp [hu] at hb
            · simp [hu] at hb
        · have hu : useE es t n k = 23 := by simp only [hdef, b1, b2, br_false, br_true]
          rcases hm with ⟨hb, rfl, rfl⟩ | ⟨hb, -⟩ | ⟨hb, -⟩ | ⟨hb, -⟩
          · simp only [hu, br_true, br_false]
          · simp [hu] at hb
          · simp [hu] at hb
          · simp [hu] at hb
      · have hu : useE es t n k = 23 := by simp only [hdef, b1, br_true]
        rcases hm with ⟨hb, rfl, rfl⟩ | ⟨hb, -⟩ | ⟨hb, -⟩ | ⟨hb, -⟩
        · simp only [hu, br_true]
        · simp [hu] at hb
        · simp [hu] at hb
        · simp [hu] at hb
  · simp only [List.mem_cons, Prod.mk.injEq, List.not_mem_nil, or_false] at hm
    obtain ⟨-, rfl, rfl⟩ := hm
    exact callO_iff.2 ⟨6, by kernel_rfl⟩
  · cases hm

def sRel (a : List AV) (h : Heap) : List (Bool × Res × Heap) := match a, h with
  | [.view 6 es, .int .i64 t], [] =>
    [(cap es && inA (isId t) es, .ret (.tup [.view 6 (delA es t), .int .i64 0]), []), (cap es && !inA (isId t) es, .ret (.tup [.nils, .int .i64 11]), [])]
  | [.nils, .int .i64 _], [] => [(true, .ret (.tup [.nils, .int .i64 11]), [])]
  | _, _ => []

def sRelR (a : List AV) (h : Heap) : List (Bool × Res × Heap) := match a, h with
  | [.view 6 es, .int .i64 t], [] =>
    [(cap es && inA (isId t) es && decide (es.length = 1), .ret (.tup [.nils, .int .i64 0]), []), (cap es && inA (isId t) es && decide (es.length ≠ 1), .ret (.tup [.view 6 (delA es t), .int .i64 0]), []), (cap es && !inA (isId t) es, .ret (.tup [.nils, .int .i64 11]), [])]
  | [.nils, .int .i64 _], [] => [(true, .ret (.tup [.nils, .int .i64 11]), [])]
  | _, _ => []

theorem s19_ok : ∀ a h r h', (true, r, h') ∈ sRel a h → callO IP 19 a h = some (r, h') := by
  intro a h r h' hm
  unfold sRel at hm
  split at hm
  · rename_i es t
    simp only [List.mem_cons, Prod.mk.injEq, List.not_mem_nil, or_false] at hm
    refine callO_by sD_ok (by kernel_rfl) (loops_none (by kernel_rfl)) (n := 4) ((rd_f19_eq es t).trans ?_)
    rcases hm with ⟨hb, rfl, rfl⟩ | ⟨hb, rfl, rfl⟩ <;> simp only [eq_comm (a := true), Bool.and_eq_true, Bool.not_eq_true'] at hb <;> obtain ⟨hg, hl2, hl1, hlb⟩ := cap_of hb.1
    · have hj : ixA (isId t) es < es.length := of_decide_eq_true hb.2
      have hj2 : decide ((ixA (isId t) es : Int) < (es.length : Int)) = true := decide_eq_true (by omega)
      have hj3 : decide (0 ≤ (ixA (isId t) es : Int)) = true := decide_eq_true (by omega)
      have hw2 : IntKind.i64.wrap ((ixA (isId t) es : Int) + 1) = (ixA (isId t) es : Int) + 1 := by rw [wrap1 hj hlb]; simp
      simp only [rd_f19, hg, hb.2, hl1, hj2, hj3, hw2, decide_true, Bool.and_self, br_true, Int.toNat_natCast]
      have hlen : (es.eraseIdx (ixA (isId t) es)).length = es.length - 1 := by simp [List.length_eraseIdx, hj]
      refine (br_pos (snapB_tup (n := 198) rfl (by simp [hlen]))).trans ?_
      rw [List.drop_zero, List.take_append_of_le_length (by omega), List.take_of_length_le (by omega)]
      rfl
    · simp only [rd_f19, hg, hb.2, Bool.and_false, br_false, Bool.not_false, Bool.and_self, br_true]
  · simp only [List.mem_cons, Prod.mk.injEq, List.not_mem_nil, or_false] at hm
    obtain ⟨-, rfl, rfl⟩ := hm
    exact callO_iff.2 ⟨6, by kernel_rfl⟩
  · cases hm

theorem s35_ok : ∀ a h r h', (true, r, h') ∈ sRelR a h → callO IP 35 a h = some (r, h') := by
  intro a h r h' hm
  unfold sRelR at hm
  split at hm
  · rename_i es t
    simp only [List.mem_cons, Prod.mk.injEq, List.not_mem_nil, or_false] at hm
    refine callO_by sD_ok (by kernel_rfl) (loops_none (by kernel_rfl)) (n := 4) ((rd_f35_eq es t).trans ?_)
    rcases hm with ⟨hb, rfl, rfl⟩ | ⟨hb, rfl, rfl⟩ | ⟨hb, rfl, rfl⟩ <;> simp only [eq_comm (a := true), Bool.and_eq_true, Bool.not_eq_true'] at hb
    · obtain ⟨hg, hl2, hl1, hlb⟩ := cap_of hb.1.1
      have hj : ixA (isId t) es < es.length := of_decide_eq_true hb.1.2
      have hj2 : decide ((ixA (isId t) es : Int) < (es.length : Int)) = true := decide_eq_true (by omega)
      have hj3 : decide (0 ≤ (ixA (isId t) es : Int)) = true := decide_eq_true (by omega)
      simp only [rd_f35, hg, hb.1.2, hb.2, hl1, hlb, hj2, hj3, decide_true, Bool.and_self, br_true]
    · obtain ⟨hg, hl2, hl1, hlb⟩ := cap_of hb.1.1
      have hj : ixA (isId t) es < es.length := of_decide_eq_true hb.1.2
      have hj2 : decide ((ixA (isId t) es : Int) < (es.length : Int)) = true := decide_eq_true (by omega)
      have hj3 : decide (0 ≤ (ixA (isId t) es : Int)) = true := decide_eq_true (by omega)
      have h1 : decide (es.length = 1) = false := decide_eq_false (of_decide_eq_true hb.2)
      simp only [rd_f35, hg, hb.1.2, hb.2, h1, hl1, hlb, hj2, hj3, decide_true, Bool.and_self, Bool.and_false, br_true, br_false, Int.toNat_natCast]
      rfl
    · obtain ⟨hg, hl2, hl1, hlb⟩ := cap_of hb.1
      simp only [rd_f35, hg, hb.2, Bool.and_false, br_false, Bool.not_false, Bool.and_self, br_true]
  · simp only [List.mem_cons, Prod.mk.injEq, List.not_mem_nil, or_false] at hm
    obtain ⟨-, rfl, rfl⟩ := hm
    exact callO_iff.2 ⟨6, by kernel_rfl⟩
  · cases hm

end Go.Proofs.H22

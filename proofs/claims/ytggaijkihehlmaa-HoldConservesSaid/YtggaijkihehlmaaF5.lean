/- Check and Find: their summaries. -/
import Derived.Test.YtggaijkihehlmaaG5
set_option linter.unusedVariables false
set_option linter.unusedSimpArgs false
set_option linter.unnecessarySimpa false
namespace Go.Proofs.H22
open Go Go.Eng
set_option maxRecDepth 20000

def sChk (a : List AV) (h : Heap) : List (Bool × Res × Heap) := match a, h with
  | [.view 6 es], [] => [(gd es, .ret (.int .i64 (chkS (es.map toH))), [])]
  | [.nils], [] => [(true, .ret (.int .i64 0), [])]
  | _, _ => []

theorem chk_atoms {es : List AV} : chkS (es.map toH) = br (decide ((es.length : Int) > 64)) 5 (br (aIn es) (br (aF es) (br (aK es) (br (aP es) (br (aO es) 10 12) 12) 4) 1) 0) := by
  have hd : decide (firstErr (es.map toH) < (es.map toH).length) = aIn es := by rw [List.length_map]; rfl
  have h2 : errAt (es.map toH) (firstErr (es.map toH)) = br (aF es) (br (aK es) (br (aP es) (br (aO es) 10 (br (dupB (es.map toH) (aJ es)) 12 0)) (br (dupB (es.map toH) (aJ es)) 12 0)) 4) 1 := rfl
  have h1 : aIn es = true → errAt (es.map toH) (firstErr (es.map toH)) ≠ 0 := fun h => fe_yes (of_decide_eq_true (hd.trans h))
  rw [h2] at h1
  have hd2 : decide (firstErr (es.map toH) < es.length) = aIn es := rfl
  simp only [chkS, h2, List.length_map, hd2]
  revert h1
  cases decide ((es.length : Int) > 64) <;> cases aIn es <;> cases aF es <;> cases aK es <;> cases aP es <;> cases aO es <;> cases dupB (es.map toH) (aJ es) <;> intro h1 <;> first | rfl | exact absurd rfl (h1 rfl)

theorem s11_ok : ∀ a h r h', (true, r, h') ∈ sChk a h → callO IP 11 a h = some (r, h') := by
  intro a h r h' hm
  unfold sChk at hm
  split at hm
  · rename_i es
    simp only [List.mem_cons, Prod.mk.injEq, List.not_mem_nil, or_false] at hm
    obtain ⟨hb, rfl, rfl⟩ := hm
    refine callO_by sB_ok (by kernel_rfl) L11_ok (n := 4) ((rd_f11_eq es).trans ?_)
    simp only [rd_f11, ← hb, decide_true, Bool.true_and, chk_atoms]
    cases decide ((es.length : Int) > 64) <;> cases aIn es <;> cases aF es <;> cases aK es <;> cases aP es <;> cases aO es <;> rfl
  · simp only [List.mem_cons, Prod.mk.injEq, List.not_mem_nil, or_false] at hm
    obtain ⟨-, rfl, rfl⟩ := hm
    exact callO_iff.2 ⟨3, by kernel_rfl⟩
  · cases hm

theorem s12_ok : ∀ a h r h', (true, r, h') ∈ sChk a h → callO IP 12 a h = some (r, h') := by
  intro a h r h' hm
  unfold sChk at hm
  split at hm
  · rename_i es
    simp only [List.mem_cons, Prod.mk.injEq, List.not_mem_nil, or_false] at hm
    obtain ⟨hb, rfl, rfl⟩ := hm
    refine callO_by sB_ok (by kernel_rfl) L12_ok (n := 4) ((rd_f12_eq es).trans ?_)
    have he := (es_gd hb.symm).1
    have h1 : oneB (intOf (cellAt es (aJ es : Int) 0)) (intOf (cellAt es (aJ es : Int) 1)) (intOf (cellAt es (aJ es : Int) 2)) (intOf (cellAt es (aJ es : Int) 3)) (intOf (cellAt es (aJ es : Int) 4)) (strOf (cellAt es (aJ es : Int) 5)) = br (aF es) (br (aK es) 0 4) 1 := by
      have h2 : ∀ j : Nat, oneB (intOf (cellAt es (j : Int) 0)) (intOf (cellAt es (j : Int) 1)) (intOf (cellAt es (j : Int) 2)) (intOf (cellAt es (j : Int) 3)) (intOf (cellAt es (j : Int) 4)) (strOf (cellAt es (j : Int) 5)) = oneB (gt (es.map toH) j).id (gt (es.map toH) j).acc (gt (es.map toH) j).amt (gt (es.map toH) j).frm (gt (es.map toH) j).to (gt (es.map toH) j).key := by
        intro j
        have e : ∀ m, cellAt es (j : Int) m = cellAt ((es.map toH).map H.av) (j : Int) m := fun m => by rw [← he]
        simp only [e, c0, c1, c2, c3, c4, c5]
      rw [h2]; rfl
    simp only [rd_f12, h1, ← hb, decide_true, Bool.true_and, chk_atoms]
    cases decide ((es.length : Int) > 64) <;> cases aIn es <;> cases aF es <;> cases aK es <;> cases aP es <;> cases aO es <;> rfl
  · simp only [List.mem_cons, Prod.mk.injEq, List.not_mem_nil, or_false] at hm
    obtain ⟨-, rfl, rfl⟩ := hm
    exact callO_iff.2 ⟨3, by kernel_rfl⟩
  · cases hm

/-- The hold at a place. -/
def hA (es : List AV) (j : Nat) : H := gt (es.map toH) j

def sFind (a : List AV) (h : Heap) : List (Bool × Res × Heap) := match a, h with
  | [.view 6 es, .int .i64 t], [] => [(gd es && inA (isId t) es, .ret (.tup [.agg [.int .i64 (hA es (ixA (isId t) es)).id, .int .i64 (hA es (ixA (isId t) es)).acc, .int .i64 (hA es (ixA (isId t) es)).amt, .int .i64 (hA es (ixA (isId t) es)).frm, .int .i64 (hA es (ixA (isId t) es)).to, .str (hA es (ixA (isId t) es)).key], .bool true]), []),
     (gd es && !inA (isId t) es, .ret (.tup [.agg [.int .i64 0, .int .i64 0, .int .i64 0, .int .i64 0, .int .i64 0, .str []], .bool false]), [])]
  | [.nils, .int .i64 _], [] => [(true, .ret (.tup [.agg [.int .i64 0, .int .i64 0, .int .i64 0, .int .i64 0, .int .i64 0, .str []], .bool false]), [])]
  | _, _ => []

theorem ok_es {es : List AV} (h : gd es = true) {j : Nat} (hj : j < es.length) : okAt ks6 es (j : Int) = true := by
  rw [(es_gd h).1, ok_at]; simpa using hj

theorem cells_es {es : List AV} (h : gd es = true) (j : Nat) : intOf (cellAt es (j : Int) 0) = (hA es j).id ∧ intOf (cellAt es (j : Int) 1) = (hA es j).acc ∧ intOf (cellAt es (j : Int) 2) = (hA es j).amt ∧ intOf (cellAt es (j : Int) 3) = (hA es j).frm ∧ intOf (cellAt es (j : Int) 4) = (hA es j).to ∧ strOf (cellAt es (j : Int) 5) = (hA es j).key := by
  have e : ∀ m, cellAt es (j : Int) m = cellAt ((es.map toH).map H.av) (j : Int) m := fun m => by rw [← (es_gd h).1]
  simp only [e, c0, c1, c2, c3, c4, c5, hA, and_self]

theorem s9_ok : ∀ a h r h', (true, r, h') ∈ sFind a h → callO IP 9 a h = some (r, h') := by
  intro a h r h' hm
  unfold sFind at hm
  split at hm
  · rename_i es t
    simp only [List.mem_cons, Prod.mk.injEq, List.not_mem_nil, or_false] at hm
    refine callO_by sB_ok (by kernel_rfl) (loops_none (by kernel_rfl)) (n := 4) ((rd_f9_eq es t).trans ?_)
    rcases hm with ⟨hb, rfl, rfl⟩ | ⟨hb, rfl, rfl⟩ <;> simp only [eq_comm (a := true), Bool.and_eq_true, Bool.not_eq_true'] at hb
    · obtain ⟨h0, h1, h2, h3, h4, h5⟩ := cells_es hb.1 (ixA (isId t) es)
      simp only [rd_f9, hb.1, hb.2, Bool.and_self, br_true, ok_es hb.1 (of_decide_eq_true hb.2), h0, h1, h2, h3, h4, h5]
    · simp only [rd_f9, hb.1, hb.2, Bool.and_false, br_false, Bool.not_false, Bool.and_self, br_true]
  · simp only [List.mem_cons, Prod.mk.injEq, List.not_mem_nil, or_false] at hm
    obtain ⟨-, rfl, rfl⟩ := hm
    exact callO_iff.2 ⟨6, by kernel_rfl⟩
  · cases hm

theorem s10_ok : ∀ a h r h', (true, r, h') ∈ sFind a h → callO IP 10 a h = some (r, h') := by
  intro a h r h' hm
  unfold sFind at hm
  split at hm
  · rename_i es t
    simp only [List.mem_cons, Prod.mk.injEq, List.not_mem_nil, or_false] at hm
    refine callO_by sB_ok (by kernel_rfl) (loops_none (by kernel_rfl)) (n := 4) ((rd_f10_eq es t).trans ?_)
    rcases hm with ⟨hb, rfl, rfl⟩ | ⟨hb, rfl, rfl⟩ <;> simp only [eq_comm (a := true), Bool.and_eq_true, Bool.not_eq_true'] at hb
    · obtain ⟨h0, h1, h2, h3, h4, h5⟩ := cells_es hb.1 (ixA (isId t) es)
      simp only [rd_f10, hb.1, hb.2, Bool.and_self, br_true, ok_es hb.1 (of_decide_eq_true hb.2), h0, h1, h2, h3, h4, h5]
    · simp only [rd_f10, hb.1, hb.2, Bool.and_false, br_false, Bool.not_false, Bool.and_self, br_true]
  · simp only [List.mem_cons, Prod.mk.injEq, List.not_mem_nil, or_false] at hm
    obtain ⟨-, rfl, rfl⟩ := hm
    exact callO_iff.2 ⟨6, by kernel_rfl⟩
  · cases hm

def sLive (a : List AV) (h : Heap) : List (Bool × Res × Heap) := match a, h with
  | [], [] => [(true, .ret (.bool true), [])]
  | _, _ => []
theorem s8_ok : ∀ a h r h', (true, r, h') ∈ sLive a h → callO IP 8 a h = some (r, h') := by
  intro a h r h' hm
  unfold sLive at hm
  split at hm
  · simp only [List.mem_cons, Prod.mk.injEq, List.not_mem_nil, or_false] at hm
    obtain ⟨-, rfl, rfl⟩ := hm
    exact live8
  · cases hm

def sC : Summ := addS 8 sLive (addS 9 sFind (addS 10 sFind (addS 11 sChk (addS 12 sChk sB))))
theorem sC_ok : SummOk IP sC := addS_ok (addS_ok (addS_ok (addS_ok (addS_ok sB_ok s12_ok) s11_ok) s10_ok) s9_ok) s8_ok

end Go.Proofs.H22

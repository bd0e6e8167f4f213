/- index, ContainsFunc, key, fields, one: their summaries. -/
import Derived.Test.YtggaijkihehlmaaG3
set_option linter.unusedVariables false
set_option linter.unusedSimpArgs false
set_option linter.unnecessarySimpa false
namespace Go.Proofs.H22
open Go Go.Eng
set_option maxRecDepth 20000

theorem s24_ok : ∀ a h r h', (true, r, h') ∈ sIx a h → callO IP 24 a h = some (r, h') := by
  intro a h r h' hm
  unfold sIx at hm
  split at hm
  · rename_i es t
    simp only [List.mem_cons, Prod.mk.injEq, List.not_mem_nil, or_false] at hm
    refine callO_by sA_ok (by kernel_rfl) (loops_none (by kernel_rfl)) (n := 4) ((rd_f24_eq es t).trans ?_)
    rcases hm with ⟨hb, rfl, rfl⟩ | ⟨hb, rfl, rfl⟩ <;> simp only [eq_comm (a := true), Bool.and_eq_true, Bool.not_eq_true'] at hb
    · simp only [rd_f24, hb.1, hb.2, Bool.and_self, br_true]
    · simp only [rd_f24, hb.1, hb.2, Bool.and_self, Bool.and_false, Bool.not_false, br_true, br_false]
  · simp only [List.mem_cons, Prod.mk.injEq, List.not_mem_nil, or_false] at hm
    obtain ⟨-, rfl, rfl⟩ := hm
    exact callO_by sA_ok (by kernel_rfl) (loops_none (by kernel_rfl)) (n := 4) (rd_f24n_eq _)
  · cases hm

def sHas (a : List AV) (h : Heap) : List (Bool × Res × Heap) := match a, h with
  | [.view 6 es, .fn 29 [.ptr [.int .i64 _, .int .i64 _, .int .i64 _, .int .i64 _, .int .i64 _, .str t]]], [] => [(gd es, .ret (.bool (inA (isKey t) es)), [])]
  | [.view 6 es, .fn 38 [.ptr [.int .i64 _, .int .i64 _, .int .i64 _, .int .i64 _, .int .i64 _, .str t]]], [] => [(gd es, .ret (.bool (inA (isKey t) es)), [])]
  | [.nils, .fn 38 [.ptr [.int .i64 _, .int .i64 _, .int .i64 _, .int .i64 _, .int .i64 _, .str _]]], [] => [(true, .ret (.bool false), [])]
  | _, _ => []

theorem s28_ok : ∀ a h r h', (true, r, h') ∈ sHas a h → callO IP 28 a h = some (r, h') := by
  intro a h r h' hm
  unfold sHas at hm
  split at hm
  · rename_i es _ _ _ _ _ t
    simp only [List.mem_cons, Prod.mk.injEq, List.not_mem_nil, or_false] at hm
    obtain ⟨hb, rfl, rfl⟩ := hm
    refine callO_by sA_ok (by kernel_rfl) (loops_none (by kernel_rfl)) (n := 4) ((rd_f28b_eq es _ _ _ _ _ t).trans ?_)
    simp only [rd_f28b, ← hb, Bool.true_and]
    cases inA (isKey t) es <;> rfl
  · rename_i es _ _ _ _ _ t
    simp only [List.mem_cons, Prod.mk.injEq, List.not_mem_nil, or_false] at hm
    obtain ⟨hb, rfl, rfl⟩ := hm
    refine callO_by sA_ok (by kernel_rfl) (loops_none (by kernel_rfl)) (n := 4) ((rd_f28c_eq es _ _ _ _ _ t).trans ?_)
    simp only [rd_f28c, ← hb, Bool.true_and]
    cases inA (isKey t) es <;> rfl
  · simp only [List.mem_cons, Prod.mk.injEq, List.not_mem_nil, or_false] at hm
    obtain ⟨-, rfl, rfl⟩ := hm
    exact callO_by sA_ok (by kernel_rfl) (loops_none (by kernel_rfl)) (n := 4) (rd_f28n_eq ..)
  · cases hm

theorem s45_ok : ∀ a h r h', (true, r, h') ∈ sKey a h → callO IP 45 a h = some (r, h') := by
  intro a h r h' hm
  unfold sKey at hm
  split at hm
  · rename_i s
    simp only [List.mem_cons, Prod.mk.injEq, List.not_mem_nil, or_false] at hm
    obtain ⟨hb, rfl, rfl⟩ := hm
    refine callO_by sA_ok (by kernel_rfl) (loops_none (by kernel_rfl)) (n := 4) ((rd_f45_eq s).trans ?_)
    simp only [rd_f45, ← hb, keyB]
    cases fnd 33 s <;> cases decide ((s.length : Int) ≥ 1) <;> cases decide ((s.length : Int) ≤ 48) <;> rfl
  · cases hm

def fieldsB (a b c d e : Int) : Bool := decide (a ≥ 1) && decide (b ≥ 1000) && decide (c ≥ 1) && decide (c ≤ 1000000000000) && decide (d ≥ 0) && decide (d ≤ 73048) && decide (e ≥ 0) && decide (e ≤ 73048) && decide (d ≤ e)
def oneB (a b c d e : Int) (t : List UInt8) : Int := br (fieldsB a b c d e) (br (keyB t) 0 4) 1

def sFields (a : List AV) (h : Heap) : List (Bool × Res × Heap) := match a, h with
  | [.agg [.int .i64 a, .int .i64 b, .int .i64 c, .int .i64 d, .int .i64 e, .str _]], [] => [(true, .ret (.bool (fieldsB a b c d e)), [])]
  | _, _ => []

theorem s26_ok : ∀ a h r h', (true, r, h') ∈ sFields a h → callO IP 26 a h = some (r, h') := by
  intro a h r h' hm
  unfold sFields at hm
  split at hm
  · rename_i a b c d e t
    simp only [List.mem_cons, Prod.mk.injEq, List.not_mem_nil, or_false] at hm
    obtain ⟨-, rfl, rfl⟩ := hm
    refine callO_by sA_ok (by kernel_rfl) (loops_none (by kernel_rfl)) (n := 4) ((rd_f26_eq a b c d e t).trans ?_)
    simp only [rd_f26, fieldsB]
    cases decide (a ≥ 1) <;> try rfl
    cases decide (b ≥ 1000) <;> try rfl
    cases decide (c ≥ 1) <;> try rfl
    cases decide (c ≤ 1000000000000) <;> try rfl
    cases decide (d ≥ 0) <;> try rfl
    cases decide (d ≤ 73048) <;> try rfl
    cases decide (e ≥ 0) <;> try rfl
    cases decide (e ≤ 73048) <;> try rfl
  · cases hm

def sOne (a : List AV) (h : Heap) : List (Bool × Res × Heap) := match a, h with
  | [.agg [.int .i64 a, .int .i64 b, .int .i64 c, .int .i64 d, .int .i64 e, .str t]], [] => [(decide (t.length ≤ big), .ret (.int .i64 (oneB a b c d e t)), [])]
  | _, _ => []

theorem lt_not (a b : Int) : decide (a < b) = !decide (a ≥ b) := by by_cases h : a < b <;> simp [h] <;> omega
theorem gt_not (a b : Int) : decide (a > b) = !decide (a ≤ b) := by by_cases h : a ≤ b <;> simp [h] <;> omega

theorem s30_ok : ∀ a h r h', (true, r, h') ∈ sOne a h → callO IP 30 a h = some (r, h') := by
  intro a h r h' hm
  unfold sOne at hm
  split at hm
  · rename_i a b c d e t
    simp only [List.mem_cons, Prod.mk.injEq, List.not_mem_nil, or_false] at hm
    obtain ⟨hb, rfl, rfl⟩ := hm
    refine callO_by (addS_ok sA_ok s45_ok) (by kernel_rfl) (loops_none (by kernel_rfl)) (n := 4) ((rd_f30_eq a b c d e t).trans ?_)
    have hde : decide (e < d) = !decide (d ≤ e) := by by_cases h : d ≤ e <;> simp [h] <;> omega
    simp only [rd_f30, oneB, fieldsB, ← hb, lt_not a, lt_not b, lt_not c, gt_not c, hde]
    cases decide (a ≥ 1) <;> try rfl
    cases decide (b ≥ 1000) <;> try rfl
    cases decide (c ≥ 1) <;> try rfl
    cases decide (c ≤ 1000000000000) <;> try rfl
    cases decide (d ≥ 0) <;> try rfl
    cases decide (d ≤ 73048) <;> try rfl
    cases decide (e ≥ 0) <;> try rfl
    cases decide (e ≤ 73048) <;> try rfl
    cases decide (d ≤ e) <;> try rfl
    cases keyB t <;> rfl
  · cases hm

def sB : Summ := addS 24 sIx (addS 28 sHas (addS 45 sKey (addS 26 sFields (addS 30 sOne sA))))
theorem sB_ok : SummOk IP sB := addS_ok (addS_ok (addS_ok (addS_ok (addS_ok sA_ok s30_ok) s26_ok) s45_ok) s28_ok) s24_ok

end Go.Proofs.H22

/- Functions that search a list of holds, by their summaries. -/
import Derived.Test.YtggaijkihehlmaaG2
set_option linter.unusedVariables false
set_option linter.unusedSimpArgs false
set_option linter.unnecessarySimpa false
namespace Go.Proofs.H22
open Go Go.Eng
set_option maxRecDepth 20000

def keyB (s : List UInt8) : Bool := decide ((s.length : Int) ≥ 1) && decide ((s.length : Int) ≤ 48) && !fnd 33 s

theorem bool_cases {b c d : Bool} (h : b = true) : (b && c) = c ∧ (b && c && d) = (c && d) := by subst h; simp

def sIx (a : List AV) (h : Heap) : List (Bool × Res × Heap) := match a, h with
  | [.view 6 es, .int .i64 t], [] => [(gd es && inA (isId t) es, .ret (.int .i64 (ixA (isId t) es)), []), (gd es && !inA (isId t) es, .ret (.int .i64 (-1)), [])]
  | [.nils, .int .i64 _], [] => [(true, .ret (.int .i64 (-1)), [])]
  | _, _ => []

theorem s25_ok : ∀ a h r h', (true, r, h') ∈ sIx a h → callO IP 25 a h = some (r, h') := by
  intro a h r h' hm
  unfold sIx at hm
  split at hm
  · rename_i es t
    simp only [List.mem_cons, Prod.mk.injEq, List.not_mem_nil, or_false] at hm
    refine callO_by noS_ok (by kernel_rfl) L25_ok (n := 4) ((rd_f25_eq es t).trans ?_)
    rcases hm with ⟨hb, rfl, rfl⟩ | ⟨hb, rfl, rfl⟩ <;> simp only [eq_comm (a := true), Bool.and_eq_true, Bool.not_eq_true'] at hb
    · simp only [rd_f25, hb.1, hb.2, decide_true, Bool.and_self, br_true]
    · simp only [rd_f25, hb.1, hb.2, decide_true, Bool.and_self, Bool.and_false, Bool.not_false, br_true, br_false]
  · simp only [List.mem_cons, Prod.mk.injEq, List.not_mem_nil, or_false] at hm
    obtain ⟨-, rfl, rfl⟩ := hm
    exact callO_iff.2 ⟨3, by kernel_rfl⟩
  · cases hm

def sNamed (a : List AV) (h : Heap) : List (Bool × Res × Heap) := match a, h with
  | [.view 6 es, .str t], [] => [(gd es, .ret (.bool (inA (isKey t) es)), [])]
  | [.nils, .str _], [] => [(true, .ret (.bool false), [])]
  | _, _ => []

theorem s31_ok : ∀ a h r h', (true, r, h') ∈ sNamed a h → callO IP 31 a h = some (r, h') := by
  intro a h r h' hm
  unfold sNamed at hm
  split at hm
  · rename_i es t
    simp only [List.mem_cons, Prod.mk.injEq, List.not_mem_nil, or_false] at hm
    obtain ⟨hb, rfl, rfl⟩ := hm
    refine callO_by noS_ok (by kernel_rfl) L31_ok (n := 4) ((rd_f31_eq es t).trans ?_)
    simp only [rd_f31, ← hb, Bool.true_and]
    cases inA (isKey t) es <;> rfl
  · simp only [List.mem_cons, Prod.mk.injEq, List.not_mem_nil, or_false] at hm
    obtain ⟨-, rfl, rfl⟩ := hm
    exact callO_iff.2 ⟨3, by kernel_rfl⟩
  · cases hm

def sGreat (a : List AV) (h : Heap) : List (Bool × Res × Heap) := match a, h with
  | [.view 6 es], [] => [(gd es, .ret (.bool (greatA es)), [])]
  | [.nils], [] => [(true, .ret (.bool false), [])]
  | _, _ => []

theorem s7_ok : ∀ a h r h', (true, r, h') ∈ sGreat a h → callO IP 7 a h = some (r, h') := by
  intro a h r h' hm
  unfold sGreat at hm
  split at hm
  · rename_i es
    simp only [List.mem_cons, Prod.mk.injEq, List.not_mem_nil, or_false] at hm
    obtain ⟨hb, rfl, rfl⟩ := hm
    refine callO_by noS_ok (by kernel_rfl) L7_ok (n := 4) ((rd_f7_eq es).trans ?_)
    simp only [rd_f7, ← hb, Bool.true_and, greatA]
    cases decide ((es.length : Int) > 100) <;> cases inA isBig es <;> rfl
  · simp only [List.mem_cons, Prod.mk.injEq, List.not_mem_nil, or_false] at hm
    obtain ⟨-, rfl, rfl⟩ := hm
    exact callO_iff.2 ⟨3, by kernel_rfl⟩
  · cases hm

def s41 (a : List AV) (h : Heap) : List (Bool × Res × Heap) := match a, h with
  | [.view 6 es, .fn 42 [.ptr [.int .i64 t]]], [] => [(gd es && inA (isId t) es, .ret (.int .i64 (ixA (isId t) es)), []), (gd es && !inA (isId t) es, .ret (.int .i64 (-1)), [])]
  | [.view 6 es, .fn 29 [.ptr [.int .i64 _, .int .i64 _, .int .i64 _, .int .i64 _, .int .i64 _, .str t]]], [] => [(gd es && inA (isKey t) es, .ret (.int .i64 (ixA (isKey t) es)), []), (gd es && !inA (isKey t) es, .ret (.int .i64 (-1)), [])]
  | [.view 6 es, .fn 38 [.ptr [.int .i64 _, .int .i64 _, .int .i64 _, .int .i64 _, .int .i64 _, .str t]]], [] => [(gd es && inA (isKey t) es, .ret (.int .i64 (ixA (isKey t) es)), []), (gd es && !inA (isKey t) es, .ret (.int .i64 (-1)), [])]
  | [.nils, .fn 42 [.ptr [.int .i64 _]]], [] => [(true, .ret (.int .i64 (-1)), [])]
  | [.nils, .fn 38 [.ptr [.int .i64 _, .int .i64 _, .int .i64 _, .int .i64 _, .int .i64 _, .str _]]], [] => [(true, .ret (.int .i64 (-1)), [])]
  | _, _ => []

theorem s41_ok : ∀ a h r h', (true, r, h') ∈ s41 a h → callO IP 41 a h = some (r, h') := by
  intro a h r h' hm
  unfold s41 at hm
  split at hm
  · rename_i es t
    simp only [List.mem_cons, Prod.mk.injEq, List.not_mem_nil, or_false] at hm
    refine callO_by noS_ok (by kernel_rfl) L41_ok (n := 4) ((rd_f41a_eq es t).trans ?_)
    rcases hm with ⟨hb, rfl, rfl⟩ | ⟨hb, rfl, rfl⟩ <;> simp only [eq_comm (a := true), Bool.and_eq_true, Bool.not_eq_true'] at hb
    · simp only [rd_f41a, hb.1, hb.2, decide_true, Bool.and_self, br_true]
    · simp only [rd_f41a, hb.1, hb.2, decide_true, Bool.and_self, Bool.and_false, Bool.not_false, br_true, br_false]
  · rename_i es _ _ _ _ _ t
    simp only [List.mem_cons, Prod.mk.injEq, List.not_mem_nil, or_false] at hm
    refine callO_by noS_ok (by kernel_rfl) L41_ok (n := 4) ((rd_f41b_eq es _ _ _ _ _ t).trans ?_)
    rcases hm with ⟨hb, rfl, rfl⟩ | ⟨hb, rfl, rfl⟩ <;> simp only [eq_comm (a := true), Bool.and_eq_true, Bool.not_eq_true'] at hb
    · simp only [rd_f41b, hb.1, hb.2, decide_true, Bool.and_self, br_true]
    · simp only [rd_f41b, hb.1, hb.2, decide_true, Bool.and_self, Bool.and_false, Bool.not_false, br_true, br_false]
  · rename_i es _ _ _ _ _ t
    simp only [List.mem_cons, Prod.mk.injEq, List.not_mem_nil, or_false] at hm
    refine callO_by noS_ok (by kernel_rfl) L41_ok (n := 4) ((rd_f41c_eq es _ _ _ _ _ t).trans ?_)
    rcases hm with ⟨hb, rfl, rfl⟩ | ⟨hb, rfl, rfl⟩ <;> simp only [eq_comm (a := true), Bool.and_eq_true, Bool.not_eq_true'] at hb
    · simp only [rd_f41c, hb.1, hb.2, decide_true, Bool.and_self, br_true]
    · simp only [rd_f41c, hb.1, hb.2, decide_true, Bool.and_self, Bool.and_false, Bool.not_false, br_true, br_false]
  · simp only [List.mem_cons, Prod.mk.injEq, List.not_mem_nil, or_false] at hm
    obtain ⟨-, rfl, rfl⟩ := hm
    exact callO_iff.2 ⟨3, by kernel_rfl⟩
  · simp only [List.mem_cons, Prod.mk.injEq, List.not_mem_nil, or_false] at hm
    obtain ⟨-, rfl, rfl⟩ := hm
    exact callO_iff.2 ⟨3, by kernel_rfl⟩
  · cases hm

def sKey (a : List AV) (h : Heap) : List (Bool × Res × Heap) := match a, h with
  | [.str s], [] => [(decide (s.length ≤ big), .ret (.bool (keyB s)), [])]
  | _, _ => []

theorem s27_ok : ∀ a h r h', (true, r, h') ∈ sKey a h → callO IP 27 a h = some (r, h') := by
  intro a h r h' hm
  unfold sKey at hm
  split at hm
  · rename_i s
    simp only [List.mem_cons, Prod.mk.injEq, List.not_mem_nil, or_false] at hm
    obtain ⟨hb, rfl, rfl⟩ := hm
    refine callO_by noS_ok (by kernel_rfl) L27_ok (n := 4) ((rd_f27_eq s).trans ?_)
    simp only [rd_f27, ← hb, decide_true, Bool.true_and, keyB]
    cases fnd 33 s <;> cases low 33 s <;> cases decide ((s.length : Int) ≥ 1) <;> cases decide ((s.length : Int) ≤ 48) <;> rfl
  · cases hm

def s47 (a : List AV) (h : Heap) : List (Bool × Res × Heap) := match a, h with
  | [.str s, .int .i64 n, .int .u8 t], [] => [(decide (s.length ≤ big), .ret (.bool (decide ((s.length : Int) ≤ n) && !fnd t s)), [])]
  | _, _ => []

theorem s47_ok : ∀ a h r h', (true, r, h') ∈ s47 a h → callO IP 47 a h = some (r, h') := by
  intro a h r h' hm
  unfold s47 at hm
  split at hm
  · rename_i s n t
    simp only [List.mem_cons, Prod.mk.injEq, List.not_mem_nil, or_false] at hm
    obtain ⟨hb, rfl, rfl⟩ := hm
    refine callO_by noS_ok (by kernel_rfl) L47_ok (n := 4) ((rd_f47_eq s n t).trans ?_)
    simp only [rd_f47, ← hb, decide_true, Bool.true_and]
    by_cases h3 : (s.length : Int) ≤ n
    · have h4 : ¬ (s.length : Int) > n := by omega
      cases h1 : fnd t s <;> cases h2 : low t s <;> simp [br_ite, h3, h4]
    · have h4 : (s.length : Int) > n := by omega
      simp [h3, h4]
  · cases hm

def sTot (a : List AV) (h : Heap) : List (Bool × Res × Heap) := match a, h with
  | [.view 6 es, .int .i64 t, .int .i64 k], [] => [(gd es, .ret (.int .i64 (totN t k (es.map toH) es.length)), [])]
  | [.nils, .int .i64 _, .int .i64 _], [] => [(true, .ret (.int .i64 0), [])]
  | _, _ => []

theorem s13_ok : ∀ a h r h', (true, r, h') ∈ sTot a h → callO IP 13 a h = some (r, h') := by
  intro a h r h' hm
  unfold sTot at hm
  split at hm
  · rename_i es t k
    simp only [List.mem_cons, Prod.mk.injEq, List.not_mem_nil, or_false] at hm
    obtain ⟨hb, rfl, rfl⟩ := hm
    refine callO_by noS_ok (by kernel_rfl) L13_ok (n := 4) ((rd_f13_eq es t k).trans ?_)
    simp only [rd_f13, ← hb, decide_true, Bool.true_and, br_true]
  · simp only [List.mem_cons, Prod.mk.injEq, List.not_mem_nil, or_false] at hm
    obtain ⟨-, rfl, rfl⟩ := hm
    exact callO_iff.2 ⟨3, by kernel_rfl⟩
  · cases hm

theorem s14_ok : ∀ a h r h', (true, r, h') ∈ sTot a h → callO IP 14 a h = some (r, h') := by
  intro a h r h' hm
  unfold sTot at hm
  split at hm
  · rename_i es t k
    simp only [List.mem_cons, Prod.mk.injEq, List.not_mem_nil, or_false] at hm
    obtain ⟨hb, rfl, rfl⟩ := hm
    refine callO_by noS_ok (by kernel_rfl) L14_ok (n := 4) ((rd_f14_eq es t k).trans ?_)
    simp only [rd_f14, ← hb, decide_true, Bool.true_and, br_true]
  · simp only [List.mem_cons, Prod.mk.injEq, List.not_mem_nil, or_false] at hm
    obtain ⟨-, rfl, rfl⟩ := hm
    exact callO_iff.2 ⟨3, by kernel_rfl⟩
  · cases hm

def sA : Summ := addS 25 sIx (addS 31 sNamed (addS 7 sGreat (addS 41 s41 (addS 27 sKey (addS 47 s47 (addS 13 sTot (addS 14 sTot noS)))))))
theorem sA_ok : SummOk IP sA := addS_ok (addS_ok (addS_ok (addS_ok (addS_ok (addS_ok (addS_ok (addS_ok noS_ok s14_ok) s13_ok) s47_ok) s27_ok) s41_ok) s7_ok) s31_ok) s25_ok

end Go.Proofs.H22

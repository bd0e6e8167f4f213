/- Lift. -/
import Derived.Test.YtninmnbkbhfnmaaX4
set_option linter.unusedVariables false
set_option linter.unusedSimpArgs false
set_option linter.unnecessarySimpa false
namespace Go.Proofs.H23
open Go Go.Eng
set_option maxRecDepth 20000

def idB (id : Int) (h : H) : Bool := h.id == id
/-- What Lift gives. -/
def liftS (l : List H) (id day : Int) : List H × Int :=
  if hi : l.findIdx (idB id) < l.length then
    bif !dayB day then ([], 1)
    else bif decide (l[l.findIdx (idB id)].to < day) then ([], 23)
    else bif decide (l[l.findIdx (idB id)].frm > IntKind.i64.wrap (day - 1)) then (l.take (l.findIdx (idB id)) ++ l.drop (l.findIdx (idB id) + 1), 0)
    else (l.set (l.findIdx (idB id)) { l[l.findIdx (idB id)] with to := IntKind.i64.wrap (day - 1) }, 0)
  else ([], 11)

theorem f31_val (h : H) (id : Int) : f31 h.id h.acc h.kind h.amt h.frm h.to h.src id = some (idB id h) := by rw [f31_eq]; rfl
theorem l30_val {l : List H} (hl : l.length ≤ big) (id : Int) : l30_0 (E l, id, (l.length : Int), 0) = some (seek (idB id) (fun _ => 0) 1 l, E l, id, (l.length : Int), ((l.findIdx (idB id) : Nat) : Int)) := by
  rw [l30_0_eq]
  refine loop_search (hd := fun n => (E l, id, (l.length : Int), (n : Int))) (jx := fun _ => 0) (idB id) 1 (fun n h => ?_) ?_
  · simp only [st30_0, st30_0_0, lt_at h, ok_at h, q0 h, q1 h, q2 h, q3 h, q4 h, q5 h, q6 h, ev_br, ev_at, cond_true, f31_val, ev_bi_some, wrap_succ h hl]
    cases idB id l[n] <;> rfl
  · simp [st30_0, st30_0_0]
theorem any_idx {l : List H} {p : H → Bool} : l.any p = decide (l.findIdx p < l.length) := by
  rw [Bool.eq_iff_iff, decide_eq_true_eq, List.findIdx_lt_length, List.any_eq_true]
theorem f30_val {l : List H} (hl : l.length ≤ big) (id : Int) : f30 (E l) id = some (if l.findIdx (idB id) < l.length then ((l.findIdx (idB id) : Nat) : Int) else -1) := by
  rw [f30_eq, tr30, List.length_map, l30_val hl, seek_const, any_idx]
  by_cases h : l.findIdx (idB id) < l.length
  · simp [h]
  · simp [h]

theorem take_front {α : Type} {A B C : List α} {n : Nat} (h : n ≤ A.length) : (A ++ B ++ C).take n = A.take n := by
  rw [List.append_assoc, List.take_append_of_le_length h]
/-- Delete: one element. -/
theorem f33_val {L : List AV} {i : Nat} (hi : i < L.length) : ∃ D : List AV, f33 (i : Int) ((i + 1 : Nat) : Int) L = some (.inr (.inl (L.length - 1, D))) ∧ D.take (L.length - 1) = L.take i ++ L.drop (i + 1) ∧ L.length - 1 ≤ D.length := by
  have a1 : (decide (0 ≤ (i : Int)) && decide ((i : Int) ≤ ((i + 1 : Nat) : Int)) && decide (((i + 1 : Nat) : Int) ≤ (L.length : Int)) && decide ((L.length : Int) ≤ ((L.length - 0 : Nat) : Int))) = true := by
    simp only [Bool.and_eq_true, decide_eq_true_eq]; omega
  have a2 : ((i : Int) == ((i + 1 : Nat) : Int)) = false := by simp; omega
  have a3 : (leB (i : Int) L.length && decide (0 + (i : Int).toNat ≤ L.length)) = true := by
    simp only [leB, Bool.and_eq_true, decide_eq_true_eq]; omega
  have a4 : leB ((i + 1 : Nat) : Int) L.length = true := by
    simp only [leB, Bool.and_eq_true, decide_eq_true_eq]; omega
  have d1 : (dropO L (0 + ((i + 1 : Nat) : Int).toNat)) = L.drop (i + 1) := by
    rw [dropO_eq]; simp
  have d2 : (L.drop (i + 1)).length = L.length - (i + 1) := by simp
  rw [f33_eq, tr33]
  simp only [ev_br, ev_at, a1, a2, a3, a4, cond_true, cond_false, d1, d2, decide_true, Bool.and_true]
  by_cases he : L.length - (i + 1) = 0
  · have a5 : (leB (L.length : Int) L.length && leB (((i : Int).toNat - 0 : Nat) : Int) (L.length : Int).toNat && decide (0 + (L.length : Int).toNat ≤ L.length)) = true := by
      simp only [leB, Bool.and_eq_true, decide_eq_true_eq]; omega
    have a6 : decide (0 + (((i : Int).toNat - 0 : Nat) : Int).toNat + ((L.length : Int).toNat - (((i : Int).toNat - 0 : Nat) : Int).toNat) ≤ L.length) = true := decide_eq_true (by omega)
    simp only [decide_eq_true he, cond_true, a5, a6]
    refine ⟨_, by rw [show (i : Int).toNat - 0 = L.length - 1 by omega], ?_, ?_⟩
    · have e : i = L.length - 1 := by omega
      have e2 : 0 + ((L.length - 1 : Nat) : Int).toNat = L.length - 1 := by omega
      rw [e2, take_front (by simp), List.take_take, Nat.min_self, e, List.drop_eq_nil_of_le (by omega), List.append_nil]
    · simp
  · have e0 : (i : Int).toNat - 0 = i := by omega
    have a5 : (decide (L.length - (i + 1) ≠ 0) && (decide (0 + ((i : Int).toNat - 0) + (L.length - (i + 1)) ≤ L.length))) = true := by
      simp only [Bool.and_eq_true, decide_eq_true_eq]; omega
    have e3 : (List.take (0 + ((i : Int).toNat - 0)) L ++ L.drop (i + 1) ++ List.drop (0 + ((i : Int).toNat - 0) + (L.length - (i + 1))) L).length = L.length := by
      simp; omega
    have e4 : (i : Int).toNat - 0 + (L.length - (i + 1)) = L.length - 1 := by omega
    have a6 : (leB (L.length : Int) L.length && leB (((i : Int).toNat - 0 + (L.length - (i + 1)) : Nat) : Int) (L.length : Int).toNat && decide (0 + (L.length : Int).toNat ≤ L.length)) = true := by
      simp only [leB, Bool.and_eq_true, decide_eq_true_eq]; omega
    have a7 : decide (0 + (((i : Int).toNat - 0 + (L.length - (i + 1)) : Nat) : Int).toNat + ((L.length : Int).toNat - (((i : Int).toNat - 0 + (L.length - (i + 1)) : Nat) : Int).toNat) ≤ L.length) = true := decide_eq_true (by omega)
    simp only [decide_eq_false he, cond_false, a5, cond_true, e3, a6, a7]
    refine ⟨_, by rw [e4], ?_, ?_⟩
    · have e2 : 0 + ((L.length - 1 : Nat) : Int).toNat = L.length - 1 := by omega
      have e5 : 0 + ((i : Int).toNat - 0) = i := by omega
      have e6 : ((L.length - 1 : Nat)) = (List.take i L ++ L.drop (i + 1)).length := by simp; omega
      rw [e2, e5, take_front (by simp; omega), List.take_take, Nat.min_self]
      rw [e6, List.take_append_of_le_length (Nat.le_refl _), List.take_length]
    · simp; omega

end Go.Proofs.H23

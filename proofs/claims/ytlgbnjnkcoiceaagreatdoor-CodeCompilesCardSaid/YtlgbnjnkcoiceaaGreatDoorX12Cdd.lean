/- Code: what compiling comes to, here and in the document. -/
import Derived.Test.YtlgbnjnkcoiceaaGreatDoorX12Cda
import Derived.Test.YtlgbnjnkcoiceaaGreatDoorCdC
set_option linter.unusedVariables false
set_option linter.unusedSimpArgs false
set_option linter.unnecessarySimpa false
namespace Go.Proofs.H12
open Go Go.Eng Go.Tk
set_option maxRecDepth 20000
theorem R12_emita_key {vs : List Va} (hv : vs.length ≤ big) : ∀ (e : Ex), e.allX formedB = true → ∀ (out : List In), out.length + (emE vs out.length e).length ≤ 100000 → ∀ n, e.dep ≤ n → N_u153q n e.op e.num e.txt (EX e.args) (EV vs) (EN out) = some (EN (out ++ emE vs out.length e)) := by
  intro e
  induction e using Ex.ind with
  | h o n s l ih =>
    intro hf out hout m hm
    rw [Ex.allX_eq, Bool.and_eq_true, List.all_eq_true] at hf
    obtain ⟨h1, h2⟩ := hf
    simp only [Ex.args] at h2
    simp only [Ex.dep] at hm
    have hol : out.length ≤ 100000 := by omega
    have hrm := roomN (show out.length + 1 ≤ 1000000 by omega) 24 (by omega)
    cases m with
    | zero => omega
    | succ k =>
      simp only [N_u153q, Ex.op, Ex.num, Ex.txt, Ex.args, tr_u153q, f_u78q_val, ev_bi_some, ev_br, List.length_map]
      rcases formed_cases h1 with ⟨ho, rfl, rfl, hn0, hn1⟩ | ⟨rfl, rfl, rfl⟩ | ⟨ho, hl, rfl, rfl⟩ | ⟨rfl, hl, rfl, rfl⟩ | ⟨ho, h9, h16, hl, rfl, rfl⟩
      · rw [emE_lit ho, if_pos ho, EN_one, EN_app]
        have : (o != 0) = true := by simp; omega
        simp only [this, hrm, cond_true, ev_at]
      · rw [emE_var, if_neg (by decide)]
        simp (decide := true) only [f_u154q_val hv, bne_self_eq_false, beq_self_eq_true, ev_bi_some, ev_br, ev_at, cond_true, cond_false, hrm, EN_one, EN_app]
      · obtain ⟨x, rfl⟩ := len1 hl
        rw [emE_op (by omega), emL_len1] at hout ⊢
        simp only [List.length_append, List.length_singleton] at hout
        simp only [Ex.depL] at hm
        have hx := ih x (by simp) (h2 x (by simp)) out (by omega) k (by omega)
        have hloop : l_u105q (N_u153q k) (.inl (EV vs, 0, EN out, o, 0, [], EX [x])) = some (1, .inr (EV vs, 1, EN (out ++ emE vs out.length x), o, 0, [], EX [x])) := by
          rw [l_u105q_eq, iterO_next (v' := .inr (EV vs, 1, EN (out ++ emE vs out.length x), o, 0, [], EX [x])), iterO_done (j := 1)]
          · simp [st_u105q, st_u105q_1]
          · simp only [st_u105q, Sum.elim_inl, st_u105q_0, okX0, q00, q01, q02, q03, hx, ev_br, cond_true, ev_bi_some, ev_at]
            rfl
        rw [if_neg (by omega), hloop]
        have hr2 := roomN (show (out ++ emE vs out.length x).length + 1 ≤ 1000000 by simp; omega) 24 (by omega)
        simp (decide := true) only [ev_br, cond_true, cond_false, pj_some, if_true, if_false, ev_bi_none, ev_bi_some, sr_inr, ev_at, ib (show o ≠ 4 by omega), show (o != 19) = true by simp; omega, bne_self_eq_false, List.length_map, hr2, EN_one, EN_app]
        try simp only [List.append_assoc]
      · obtain ⟨x, y, z, rfl⟩ := len3 hl
        rw [emE_if] at hout ⊢
        rw [emI_len] at hout
        simp only [emI]
        simp only [Ex.depL] at hm
        have hx := ih x (by simp) (h2 x (by simp)) out (by omega) k (by omega)
        generalize hC : emE vs out.length x = C at hout hx ⊢
        have hy := ih y (by simp) (h2 y (by simp)) (out ++ C ++ [⟨5, 0, 0⟩]) (by simp only [List.length_append, List.length_singleton]; omega) k (by omega)
        rw [show (out ++ C ++ [(⟨5, 0, 0⟩ : In)]).length = out.length + C.length + 1 by simp; omega] at hy
        generalize hA : emE vs (out.length + C.length + 1) y = A at hout hy ⊢
        have hz := ih z (by simp) (h2 z (by simp)) (out ++ C ++ ⟨5, ((out.length + C.length + 1 + A.length + 1 : Nat) : Int), 0⟩ :: (A ++ [⟨4, 0, 0⟩])) (by
          rw [show (out ++ C ++ (⟨5, ((out.length + C.length + 1 + A.length + 1 : Nat) : Int), 0⟩ : In) :: (A ++ [⟨4, 0, 0⟩])).length = out.length + C.length + 1 + A.length + 1 by simp; omega]; omega) k (by omega)
        rw [show (out ++ C ++ (⟨5, ((out.length + C.length + 1 + A.length + 1 : Nat) : Int), 0⟩ : In) :: (A ++ [⟨4, 0, 0⟩])).length = out.length + C.length + 1 + A.length + 1 by simp; omega] at hz
        generalize hB : emE vs (out.length + C.length + 1 + A.length + 1) z = B at hout hz ⊢
        have e1 : out ++ C ++ [(⟨5, 0, 0⟩ : In)] ++ A ++ [⟨4, 0, 0⟩] = (out ++ C) ++ ⟨5, 0, 0⟩ :: (A ++ [⟨4, 0, 0⟩]) := by simp
        have e2 : out ++ C ++ (⟨5, ((out.length + C.length + 1 + A.length + 1 : Nat) : Int), 0⟩ : In) :: (A ++ [⟨4, 0, 0⟩]) ++ B = (out ++ C ++ ⟨5, ((out.length + C.length + 1 + A.length + 1 : Nat) : Int), 0⟩ :: A) ++ ⟨4, 0, 0⟩ :: B := by simp
        have l1 : (out ++ C).length = out.length + C.length := by simp
        have l2 : (out ++ C ++ [(⟨5, 0, 0⟩ : In)] ++ A).length = (out ++ C ++ (⟨5, ((out.length + C.length + 1 + A.length + 1 : Nat) : Int), 0⟩ : In) :: A).length := by simp
        have l3 : ((out ++ C) ++ (⟨5, 0, 0⟩ : In) :: (A ++ [⟨4, 0, 0⟩])).length = out.length + C.length + 1 + A.length + 1 := by simp; omega
        have l4 : ((out ++ C ++ (⟨5, ((out.length + C.length + 1 + A.length + 1 : Nat) : Int), 0⟩ : In) :: A) ++ ⟨4, 0, 0⟩ :: B).length = out.length + C.length + 1 + A.length + 1 + B.length := by simp; omega
        have h5 : inB (out.length + C.length + 1 + A.length + 1) ((out ++ C).length : Int) = true := inB_at (by rw [l1]; omega)
        have h6 : inB (out.length + C.length + 1 + A.length + 1 + B.length) ((out ++ C ++ (⟨5, ((out.length + C.length + 1 + A.length + 1 : Nat) : Int), 0⟩ : In) :: A).length : Int) = true := inB_at (by simp; omega)
        have hr2 := roomN (show (out ++ C).length + 1 ≤ 1000000 by simp; omega) 24 (by omega)
        have hr3 := roomN (show (out ++ C ++ [(⟨5, 0, 0⟩ : In)] ++ A).length + 1 ≤ 1000000 by simp; omega) 24 (by omega)
        rw [if_neg (by decide)]
        simp (decide := true) only [ev_br, cond_true, cond_false, beq_self_eq_true, bne_self_eq_false, okX0, okX1, okX2, q00, q01, q02, q03, q10, q11, q12, q13, q20, q21, q22, q23, hx, ev_bi_some, List.length_map, hr2, hr3, EN_one, EN_app, hy, e1, l3, h5, okSN, setN, Int.toNat_natCast, hz]
        rw [e2, l2]
        simp only [l4, h6, okSN, setN, Int.toNat_natCast, ev_br, cond_true, ev_at]
        simp
      · obtain ⟨x, y, rfl⟩ := len2 hl
        rw [emE_op (by omega), emL_len2] at hout ⊢
        simp only [List.length_append, List.length_singleton] at hout
        simp only [Ex.depL] at hm
        have hx := ih x (by simp) (h2 x (by simp)) out (by omega) k (by omega)
        generalize hC : emE vs out.length x = C at hout hx ⊢
        have hy := ih y (by simp) (h2 y (by simp)) (out ++ C) (by rw [List.length_append]; omega) k (by omega)
        rw [List.length_append] at hy
        generalize hA : emE vs (out.length + C.length) y = A at hout hy ⊢
        have hloop : l_u105q (N_u153q k) (.inl (EV vs, 0, EN out, o, 0, [], EX [x, y])) = some (1, .inr (EV vs, 2, EN (out ++ C ++ A), o, 0, [], EX [x, y])) := by
          rw [l_u105q_eq, iterO_next (v' := .inr (EV vs, 1, EN (out ++ C), o, 0, [], EX [x, y])), iterO_next (v' := .inr (EV vs, 2, EN (out ++ C ++ A), o, 0, [], EX [x, y])), iterO_done (j := 1)]
          · simp [st_u105q, st_u105q_1]
          · simp only [st_u105q, Sum.elim_inr, st_u105q_1, okX1, q10, q11, q12, q13, hy, ev_br, cond_true, ev_bi_some, ev_at]
            rfl
          · simp only [st_u105q, Sum.elim_inl, st_u105q_0, okX0, q00, q01, q02, q03, hx, ev_br, cond_true, ev_bi_some, ev_at]
            rfl
        rw [if_neg (by omega), hloop]
        have hr2 := roomN (show (out ++ C ++ A).length + 1 ≤ 1000000 by simp; omega) 24 (by omega)
        simp (decide := true) only [ev_br, cond_true, cond_false, pj_some, if_true, if_false, ev_bi_none, ev_bi_some, sr_inr, ev_at, ib (show o ≠ 4 by omega), show (o != 19) = true by simp; omega, bne_self_eq_false, List.length_map, hr2, EN_one, EN_app]
        try simp only [List.append_assoc]
theorem f_u153q_val {vs : List Va} (hv : vs.length ≤ big) {e : Ex} (hf : e.allX formedB = true) {out : List In} (h : out.length + (emE vs out.length e).length ≤ 100000) : f_u153q e.op e.num e.txt (EX e.args) (EV vs) (EN out) = some (EN (out ++ emE vs out.length e)) :=
  limO_of (R12_emita_key hv e hf out h)
theorem R12_emit_key {vs : List Va} (hv : vs.length ≤ big) : ∀ (e : Ex), e.allX formedB = true → (emE vs 0 e).length ≤ 100000 → ∀ n, e.dep ≤ n → N_u169q n e.op e.num e.txt (EX e.args) (EV vs) = some (EN (emE vs 0 e)) := by
  intro e
  induction e using Ex.ind with
  | h o n s l ih =>
    intro hf hout m hm
    rw [Ex.allX_eq, Bool.and_eq_true, List.all_eq_true] at hf
    obtain ⟨h1, h2⟩ := hf
    simp only [Ex.args] at h2
    simp only [Ex.dep] at hm
    cases m with
    | zero => omega
    | succ k =>
      simp only [N_u169q, Ex.op, Ex.num, Ex.txt, Ex.args, tr_u169q, f_u78q_val, ev_bi_some, ev_br, List.length_map]
      rcases formed_cases h1 with ⟨ho, rfl, rfl, hn0, hn1⟩ | ⟨rfl, rfl, rfl⟩ | ⟨ho, hl, rfl, rfl⟩ | ⟨rfl, hl, rfl, rfl⟩ | ⟨ho, h9, h16, hl, rfl, rfl⟩
      · rw [emE_lit ho, if_pos ho, EN_one]
        have : (o != 0) = true := by simp; omega
        simp only [this, cond_true, ev_at]
      · rw [emE_var, if_neg (by decide)]
        simp (decide := true) only [f_u154q_val hv, bne_self_eq_false, beq_self_eq_true, ev_bi_some, ev_br, ev_at, cond_true, cond_false, EN_one]
      · obtain ⟨x, rfl⟩ := len1 hl
        rw [emE_op (by omega), emL_len1] at hout ⊢
        simp only [List.length_append, List.length_singleton] at hout
        simp only [Ex.depL] at hm
        have hx := ih x (by simp) (h2 x (by simp)) (by omega) k (by omega)
        have hloop : l_u128q (N_u169q k) (.inl (EV vs, 0, o, 0, [], EX [x])) = some (1, .inr (EV vs, 1, EN (emE vs 0 x), o, 0, [], EX [x])) := by
          rw [l_u128q_eq, iterO_next (v' := .inr (EV vs, 1, EN (emE vs 0 x), o, 0, [], EX [x])), iterO_done (j := 1)]
          · simp [st_u128q, st_u128q_1]
          · simp only [st_u128q, Sum.elim_inl, st_u128q_0, okX0, q00, q01, q02, q03, hx, ev_br, cond_true, ev_bi_some, ev_at]
            rfl
        rw [if_neg (by omega), hloop]
        have hr2 := roomN (show (emE vs 0 x).length + 1 ≤ 1000000 by omega) 24 (by omega)
        simp (decide := true) only [ev_br, cond_true, cond_false, pj_some, if_true, if_false, ev_bi_none, ev_bi_some, sr_inr, ev_at, ib (show o ≠ 4 by omega), show (o != 19) = true by simp; omega, bne_self_eq_false, List.length_map, hr2, EN_one, EN_app]
      · obtain ⟨x, y, z, rfl⟩ := len3 hl
        rw [emE_if] at hout ⊢
        rw [emI_len] at hout
        simp only [emI]
        simp only [Ex.depL] at hm
        have hx := ih x (by simp) (h2 x (by simp)) (by omega) k (by omega)
        simp only [Nat.zero_add] at hout ⊢
        generalize hC : emE vs 0 x = C at hout hx ⊢
        have hy := f_u153q_val hv (h2 y (by simp)) (out := C ++ [⟨5, 0, 0⟩]) (by simp only [List.length_append, List.length_singleton]; omega)
        rw [show (C ++ [(⟨5, 0, 0⟩ : In)]).length = C.length + 1 by simp] at hy
        generalize hA : emE vs (C.length + 1) y = A at hout hy ⊢
        have hz := f_u153q_val hv (h2 z (by simp)) (out := C ++ ⟨5, ((C.length + 1 + A.length + 1 : Nat) : Int), 0⟩ :: (A ++ [⟨4, 0, 0⟩])) (by
          rw [show (C ++ (⟨5, ((C.length + 1 + A.length + 1 : Nat) : Int), 0⟩ : In) :: (A ++ [⟨4, 0, 0⟩])).length = C.length + 1 + A.length + 1 by simp; omega]; omega)
        rw [show (C ++ (⟨5, ((C.length + 1 + A.length + 1 : Nat) : Int), 0⟩ : In) :: (A ++ [⟨4, 0, 0⟩])).length = C.length + 1 + A.length + 1 by simp; omega] at hz
        generalize hB : emE vs (C.length + 1 + A.length + 1) z = B at hout hz ⊢
        have e1 : C ++ [(⟨5, 0, 0⟩ : In)] ++ A ++ [⟨4, 0, 0⟩] = C ++ ⟨5, 0, 0⟩ :: (A ++ [⟨4, 0, 0⟩]) := by simp
        have e2 : C ++ (⟨5, ((C.length + 1 + A.length + 1 : Nat) : Int), 0⟩ : In) :: (A ++ [⟨4, 0, 0⟩]) ++ B = (C ++ ⟨5, ((C.length + 1 + A.length + 1 : Nat) : Int), 0⟩ :: A) ++ ⟨4, 0, 0⟩ :: B := by simp
        have l2 : (C ++ [(⟨5, 0, 0⟩ : In)] ++ A).length = (C ++ (⟨5, ((C.length + 1 + A.length + 1 : Nat) : Int), 0⟩ : In) :: A).length := by simp
        have l3 : (C ++ (⟨5, 0, 0⟩ : In) :: (A ++ [⟨4, 0, 0⟩])).length = C.length + 1 + A.length + 1 := by simp; omega
        have l4 : ((C ++ (⟨5, ((C.length + 1 + A.length + 1 : Nat) : Int), 0⟩ : In) :: A) ++ ⟨4, 0, 0⟩ :: B).length = C.length + 1 + A.length + 1 + B.length := by simp; omega
        have h5 : inB (C.length + 1 + A.length + 1) (C.length : Int) = true := inB_at (by omega)
        have h6 : inB (C.length + 1 + A.length + 1 + B.length) ((C ++ (⟨5, ((C.length + 1 + A.length + 1 : Nat) : Int), 0⟩ : In) :: A).length : Int) = true := inB_at (by simp; omega)
        have hr2 := roomN (show C.length + 1 ≤ 1000000 by omega) 24 (by omega)
        have hr3 := roomN (show (C ++ [(⟨5, 0, 0⟩ : In)] ++ A).length + 1 ≤ 1000000 by simp; omega) 24 (by omega)
        rw [if_neg (by decide)]
        simp (decide := true) only [ev_br, cond_true, cond_false, beq_self_eq_true, bne_self_eq_false, okX0, okX1, okX2, q00, q01, q02, q03, q10, q11, q12, q13, q20, q21, q22, q23, hx, ev_bi_some, List.length_map, hr2, hr3, EN_one, EN_app, hy, e1, l3, h5, okSN, setN, Int.toNat_natCast, hz]
        rw [e2, l2]
        simp only [l4, h6, okSN, setN, Int.toNat_natCast, ev_br, cond_true, ev_at]
        simp
      · obtain ⟨x, y, rfl⟩ := len2 hl
        rw [emE_op (by omega), emL_len2] at hout ⊢
        simp only [List.length_append, List.length_singleton] at hout
        simp only [Ex.depL] at hm
        have hx := ih x (by simp) (h2 x (by simp)) (by omega) k (by omega)
        simp only [Nat.zero_add] at hout ⊢
        generalize hC : emE vs 0 x = C at hout hx ⊢
        have hy := f_u153q_val hv (h2 y (by simp)) (out := C) (by omega)
        generalize hA : emE vs C.length y = A at hout hy ⊢
        have hloop : l_u128q (N_u169q k) (.inl (EV vs, 0, o, 0, [], EX [x, y])) = some (1, .inr (EV vs, 2, EN (C ++ A), o, 0, [], EX [x, y])) := by
          rw [l_u128q_eq, iterO_next (v' := .inr (EV vs, 1, EN C, o, 0, [], EX [x, y])), iterO_next (v' := .inr (EV vs, 2, EN (C ++ A), o, 0, [], EX [x, y])), iterO_done (j := 1)]
          · simp [st_u128q, st_u128q_1]
          · simp only [st_u128q, Sum.elim_inr, st_u128q_1, okX1, q10, q11, q12, q13, hy, ev_br, cond_true, ev_bi_some, ev_at]
            rfl
          · simp only [st_u128q, Sum.elim_inl, st_u128q_0, okX0, q00, q01, q02, q03, hx, ev_br, cond_true, ev_bi_some, ev_at]
            rfl
        rw [if_neg (by omega), hloop]
        have hr2 := roomN (show (C ++ A).length + 1 ≤ 1000000 by simp; omega) 24 (by omega)
        simp (decide := true) only [ev_br, cond_true, cond_false, pj_some, if_true, if_false, ev_bi_none, ev_bi_some, sr_inr, ev_at, ib (show o ≠ 4 by omega), show (o != 19) = true by simp; omega, bne_self_eq_false, List.length_map, hr2, EN_one, EN_app]
theorem f_u169q_val {vs : List Va} (hv : vs.length ≤ big) {e : Ex} (hf : e.allX formedB = true) (h : (emE vs 0 e).length ≤ 100000) : f_u169q e.op e.num e.txt (EX e.args) (EV vs) = some (EN (emE vs 0 e)) :=
  limO_of (R12_emit_key hv e hf h)
theorem of_valid {e : Ex} {vs : List Va} (h : (ofS e vs).2 = 0) : e.nodes ≤ 64 ∧ e.allX formedB = true := by
  unfold ofS at h
  cases hv : (validS e != 0)
  · have hv' : validS e = 0 := by simpa using hv
    unfold validS at hv'
    cases h1 : (decide (e.nodes > 64) || decide (e.dep > 8))
    · rw [h1] at hv'
      simp only [Bool.or_eq_false_iff, decide_eq_false_iff_not] at h1
      cases h2 : e.allX formedB
      · rw [h2] at hv'; cases hv'
      · exact ⟨by omega, rfl⟩
    · rw [h1] at hv'; cases hv'
  · rw [hv] at h
    simp only [cond_true] at h
    rw [h] at hv; simp at hv
theorem vars_len {vs : List Va} (h : varsS vs = 0) : vs.length ≤ 64 := by
  unfold varsS at h
  split at h
  · cases h
  · omega
theorem f_u80q_val {vs : List Va} (hv : vs.length ≤ big) {e : Ex} (h : e.nodes ≤ big) : f_u80q e.op e.num e.txt (EX e.args) (EV vs) = some ((compS e vs).1.ty, EV (compS e vs).1.vars, EN (compS e vs).1.ins, (compS e vs).2) := by
  rw [f_u80q_eq, tr_u80q, f_u113q_val hv]
  unfold compS
  simp only [ev_bi_some, ev_br, ev_at]
  cases h1 : (varsS vs != 0)
  · simp only [cond_false, f_u158q_val hv h, ev_bi_some, ev_br, ev_at]
    cases h2 : ((ofS e vs).2 != 0)
    · obtain ⟨h3, h4⟩ := of_valid (e := e) (vs := vs) (by simpa using h2)
      have h5 := em_len vs e h4 0
      have h6 := vars_len (vs := vs) (by simpa using h1)
      simp only [cond_false, f_code_expr_val hv h4 (show (emE vs 0 e).length ≤ 100000 by omega), ev_bi_some, ev_br, ev_at, List.length_map]
      cases vs with
      | nil => rfl
      | cons v vs =>
        have e1 : decide ((v :: vs).length = 0) = false := rfl
        have e2 : decide ((v :: vs).length ≠ 0) = true := rfl
        have e3 : decide ((v :: vs).length * 24 ≤ lim) = true := by rw [decide_eq_true_eq]; simp only [lim]; omega
        simp only [e1, e2, e3, cond_false, cond_true, Bool.and_self]
    · rfl
  · rfl
theorem f_u103q_val {vs : List Va} (hv : vs.length ≤ big) {e : Ex} (hw : Wd e) : f_u103q e.op e.num e.txt (EX e.args) (EV vs) = some ((compS e vs).1.ty, EV (compS e vs).1.vars, EN (compS e vs).1.ins, (compS e vs).2) := by
  rw [f_u103q_eq, tr_u103q, f_u165q_val hv]
  unfold compS
  simp only [ev_bi_some, ev_br, ev_at]
  cases h1 : (varsS vs != 0)
  · simp only [cond_false, f_u175q_val hv hw, ev_bi_some, ev_br, ev_at]
    cases h2 : ((ofS e vs).2 != 0)
    · obtain ⟨h3, h4⟩ := of_valid (e := e) (vs := vs) (by simpa using h2)
      have h5 := em_len vs e h4 0
      have h6 := vars_len (vs := vs) (by simpa using h1)
      simp only [cond_false, f_u169q_val hv h4 (show (emE vs 0 e).length ≤ 100000 by omega), ev_bi_some, ev_br, ev_at, List.length_map]
      cases vs with
      | nil => rfl
      | cons v vs =>
        have e1 : decide ((v :: vs).length = 0) = false := rfl
        have e2 : decide ((v :: vs).length ≠ 0) = true := rfl
        have e3 : room (v :: vs).length 24 = true := roomN (by omega) 24 (by omega)
        simp only [e1, e2, e3, cond_false, cond_true, Bool.and_self, Bool.false_and]
    · rfl
  · rfl
theorem any_ne' {α β : Type} [BEq β] [LawfulBEq β] {f : α → β} {a b : List α} (h : a.length = b.length) : (List.range a.length).any (fun n => (a.map f)[n]? != (b.map f)[n]?) = !(a.map f == b.map f) := by
  have key : ∀ {a b : List β}, a.length = b.length → (List.range a.length).any (fun n => a[n]? != b[n]?) = !(a == b) := by
    intro a b h
    by_cases e : a = b
    · subst e; simp
    · have h1 : (a == b) = false := by simpa using e
      rw [h1, List.any_eq_true.2]
      · rfl
      · apply Classical.byContradiction
        intro hc
        apply e
        apply List.ext_getElem?
        intro j
        by_cases hj : j < a.length
        · apply Classical.byContradiction
          intro hne
          exact hc ⟨j, by simpa using hj, by simpa using hne⟩
        · rw [List.getElem?_eq_none (by omega), List.getElem?_eq_none (by omega)]
  have := key (a := a.map f) (b := b.map f) (by simpa using h)
  rwa [List.length_map] at this
abbrev vp (v : Va) : Bs × Int := (v.name, v.ty)
theorem neV {a b : List Va} {n : Nat} (ha : n < a.length) (hb : n < b.length) : ((a.map vp)[n]? != (b.map vp)[n]?) = !(a[n].name == b[n].name && (a[n].ty == b[n].ty && true)) := by
  rw [List.getElem?_map, List.getElem?_map, List.getElem?_eq_getElem ha, List.getElem?_eq_getElem hb]
  simp only [Option.map_some, bne, Bool.and_true]
  congr 1
theorem neN {a b : List In} {n : Nat} (ha : n < a.length) (hb : n < b.length) : ((a.map id)[n]? != (b.map id)[n]?) = !(a[n].op == b[n].op && (a[n].a == b[n].a && (a[n].n == b[n].n && true))) := by
  rw [List.map_id, List.map_id, List.getElem?_eq_getElem ha, List.getElem?_eq_getElem hb]
  generalize a[n] = x
  generalize b[n] = y
  obtain ⟨x1, x2, x3⟩ := x
  obtain ⟨y1, y2, y3⟩ := y
  simp only [bne, Bool.and_true]
  congr 1
  rw [Bool.eq_iff_iff]
  simp
theorem f_EqVar_val {a b : List Va} (ha : a.length ≤ big) : f_u15q (EV a) (EV b) = some (a.map vp == b.map vp) := by
  rw [f_u15q_eq, tr_u15q, List.length_map, List.length_map]
  by_cases hl : a.length = b.length
  · have hloop : l_u13q (EV a, EV b, (a.length : Int), 0) = some (seek (fun n => (a.map vp)[n]? != (b.map vp)[n]?) (fun _ => 0) 1 (List.range a.length), EV a, EV b, (a.length : Int), (((List.range a.length).findIdx (fun n => (a.map vp)[n]? != (b.map vp)[n]?) : Nat) : Int)) := by
      rw [l_u13q_eq]
      refine loop_searchI a.length (hd := fun i => (EV a, EV b, (a.length : Int), (i : Int))) _ (fun _ => 0) 1 (fun i hn => ?_) ?_
      · have hn' : i < b.length := by omega
        simp only [st_u13q, st_u13q_0, lt_at hn, okV hn, okV hn', qv0 hn, qv0 hn', qv1 hn, qv1 hn', ev_br, ev_at, cond_true, wrap_succ hn ha, if_true, neV hn hn']
        cases (a[i].name == b[i].name && (a[i].ty == b[i].ty && true)) <;> rfl
      · simp [st_u13q, st_u13q_0]
    rw [hloop, seek_const, any_ne' hl]
    have : ((a.length : Int) != (b.length : Int)) = false := by simp [hl]
    rw [this]
    cases (a.map vp == b.map vp) <;> rfl
  · have h1 : ((a.length : Int) != (b.length : Int)) = true := by simp; omega
    have h2 : (a.map vp == b.map vp) = false := by
      rw [beq_eq_false_iff_ne]; intro e; exact hl (by simpa using congrArg List.length e)
    rw [h1, h2]; rfl
theorem f_EqIn_val {a b : List In} (ha : a.length ≤ big) : f_u8q (EN a) (EN b) = some (a == b) := by
  rw [f_u8q_eq, tr_u8q, List.length_map, List.length_map]
  by_cases hl : a.length = b.length
  · have hloop : l_u5q (EN a, EN b, (a.length : Int), 0) = some (seek (fun n => (a.map id)[n]? != (b.map id)[n]?) (fun _ => 0) 1 (List.range a.length), EN a, EN b, (a.length : Int), (((List.range a.length).findIdx (fun n => (a.map id)[n]? != (b.map id)[n]?) : Nat) : Int)) := by
      rw [l_u5q_eq]
      refine loop_searchI a.length (hd := fun i => (EN a, EN b, (a.length : Int), (i : Int))) _ (fun _ => 0) 1 (fun i hn => ?_) ?_
      · have hn' : i < b.length := by omega
        simp only [st_u5q, st_u5q_0, lt_at hn, okN hn, okN hn', qn0 hn, qn0 hn', qn1 hn, qn1 hn', qn2 hn, qn2 hn', ev_br, ev_at, cond_true, wrap_succ hn ha, if_true, neN hn hn']
        cases (a[i].op == b[i].op && (a[i].a == b[i].a && (a[i].n == b[i].n && true))) <;> rfl
      · simp [st_u5q, st_u5q_0]
    rw [hloop, seek_const, any_ne' hl, List.map_id, List.map_id]
    have : ((a.length : Int) != (b.length : Int)) = false := by simp [hl]
    rw [this]
    cases (a == b) <;> rfl
  · have h1 : ((a.length : Int) != (b.length : Int)) = true := by simp; omega
    have h2 : (a == b) = false := by
      rw [beq_eq_false_iff_ne]; intro e; exact hl (by rw [e])
    rw [h1, h2]; rfl
theorem f_u156q_val {a b : Cd} (h1 : a.vars.length ≤ big) (h2 : a.ins.length ≤ big) : f_u156q a.ty (EV a.vars) (EN a.ins) b.ty (EV b.vars) (EN b.ins) = some (sameS a b) := by
  rw [f_u156q_eq, tr_u156q, f_EqVar_val h1, f_EqIn_val h2]
  unfold sameS
  simp only [sm_some, gv_some, br_eq, cond_true]
  cases (a.ty == b.ty) <;> cases (a.vars.map vp == b.vars.map vp) <;> cases (a.ins == b.ins) <;> rfl
theorem l_Same0_val {a b : Cd} (h1 : a.vars.length ≤ big) (hl : a.vars.length = b.vars.length) : ∃ w, l_u126q (0, a.ty, EV a.vars, EN a.ins, b.ty, EV b.vars, EN b.ins) = some (bif a.vars.map vp == b.vars.map vp then 1 else 0, w, a.ty, EV a.vars, EN a.ins, b.ty, EV b.vars, EN b.ins) := by
  refine ⟨((List.range a.vars.length).findIdx (fun n => (a.vars.map vp)[n]? != (b.vars.map vp)[n]?) : Nat), ?_⟩
  rw [l_u126q_eq]
  have h := loop_searchI (st := fun v => (st_u126q v).ev) a.vars.length (hd := fun i => ((i : Int), a.ty, EV a.vars, EN a.ins, b.ty, EV b.vars, EN b.ins)) (fun n => (a.vars.map vp)[n]? != (b.vars.map vp)[n]?) (fun _ => 0) 1 (fun i hn => ?_) ?_
  · rw [seek_const, any_ne' hl] at h
    refine h.trans ?_
    cases (a.vars.map vp == b.vars.map vp) <;> rfl
  · have hn' : i < b.vars.length := by omega
    simp only [st_u126q, st_u126q_0, List.length_map, lt_at hn, okV hn, okV hn', qv0 hn, qv0 hn', qv1 hn, qv1 hn', ev_br, ev_at, cond_true, wrap_succ hn h1, if_true, neV hn hn']
    cases (a.vars[i].name == b.vars[i].name && (a.vars[i].ty == b.vars[i].ty && true)) <;> rfl
  · simp [st_u126q, st_u126q_0]
theorem l_Same1_val {a b : Cd} (h1 : a.ins.length ≤ big) (hl : a.ins.length = b.ins.length) : ∃ w, l_u127q (0, a.ty, EV a.vars, EN a.ins, b.ty, EV b.vars, EN b.ins) = some (bif a.ins == b.ins then 1 else 0, w) := by
  refine ⟨(((List.range a.ins.length).findIdx (fun n => (a.ins.map id)[n]? != (b.ins.map id)[n]?) : Nat), a.ty, EV a.vars, EN a.ins, b.ty, EV b.vars, EN b.ins), ?_⟩
  rw [l_u127q_eq]
  have h := loop_searchI (st := fun v => (st_u127q v).ev) a.ins.length (hd := fun i => ((i : Int), a.ty, EV a.vars, EN a.ins, b.ty, EV b.vars, EN b.ins)) (fun n => (a.ins.map id)[n]? != (b.ins.map id)[n]?) (fun _ => 0) 1 (fun i hn => ?_) ?_
  · rw [seek_const, any_ne' hl] at h
    refine h.trans ?_
    have : (a.ins.map id == b.ins.map id) = (a.ins == b.ins) := by rw [List.map_id, List.map_id]
    rw [this]
    cases (a.ins == b.ins) <;> rfl
  · have hn' : i < b.ins.length := by omega
    simp only [st_u127q, st_u127q_0, List.length_map, lt_at hn, okN hn, okN hn', qn0 hn, qn0 hn', qn1 hn, qn1 hn', qn2 hn, qn2 hn', ev_br, ev_at, cond_true, wrap_succ hn h1, if_true, neN hn hn']
    cases (a.ins[i].op == b.ins[i].op && (a.ins[i].a == b.ins[i].a && (a.ins[i].n == b.ins[i].n && true))) <;> rfl
  · simp [st_u127q, st_u127q_0]
theorem f_u168q_val {a b : Cd} (h1 : a.vars.length ≤ big) (h2 : a.ins.length ≤ big) : f_u168q a.ty (EV a.vars) (EN a.ins) b.ty (EV b.vars) (EN b.ins) = some (sameS a b) := by
  rw [f_u168q_eq, tr_u168q]
  unfold sameS
  simp only [List.length_map, br_eq]
  cases ht : (a.ty == b.ty)
  · have : (a.ty != b.ty) = true := by simp [bne, ht]
    rw [this]; rfl
  · have e0 : (a.ty != b.ty) = false := by simp [bne, ht]
    rw [e0]
    by_cases c1 : a.vars.length = b.vars.length
    · have e1 : ((a.vars.length : Int) != (b.vars.length : Int)) = false := by simp [c1]
      rw [e1]
      by_cases c2 : a.ins.length = b.ins.length
      · have e2 : ((a.ins.length : Int) != (b.ins.length : Int)) = false := by simp [c2]
        obtain ⟨w, hw⟩ := l_Same0_val h1 c1
        obtain ⟨w', hw'⟩ := l_Same1_val (a := a) (b := b) h2 c2
        rw [e2, hw]
        cases (a.vars.map vp == b.vars.map vp)
        · rfl
        · simp (decide := true) only [cond_false, cond_true, ev_bi_some, ev_br, ev_at, pj_some, if_true, if_false, ev_bi_none, hw', Bool.true_and]
          cases (a.ins == b.ins) <;> rfl
      · have e2 : ((a.ins.length : Int) != (b.ins.length : Int)) = true := by simp; omega
        have e3 : (a.ins == b.ins) = false := by
          rw [beq_eq_false_iff_ne]; intro e; exact c2 (by rw [e])
        rw [e2, e3, Bool.and_false]; rfl
    · have e1 : ((a.vars.length : Int) != (b.vars.length : Int)) = true := by simp; omega
      have e3 : (a.vars.map vp == b.vars.map vp) = false := by
        rw [beq_eq_false_iff_ne]; intro e; exact c1 (by simpa using congrArg List.length e)
      rw [e1, e3]; rfl
theorem level_key : ∀ (k : Nat), k ≤ 1000 → ∀ (e : Ex), Wd e → ∀ n, k + 1 ≤ n → N_u140q n e.op e.num e.txt (EX e.args) (k : Int) = some (lvl k e) := by
  intro k
  induction k with
  | zero =>
    intro _ e hw n hn
    obtain ⟨n, rfl⟩ : ∃ m, n = m + 1 := ⟨n - 1, by omega⟩
    rfl
  | succ k ih =>
    intro hk e hw n hn
    obtain ⟨n, rfl⟩ : ∃ m, n = m + 1 := ⟨n - 1, by omega⟩
    obtain ⟨o, nn, s, l⟩ := e
    show (tr_u140q (N_u140q n) o nn s (EX l) ((k + 1 : Nat) : Int)).ev = some (lvl (k + 1) (.mk o nn s l))
    simp only [tr_u140q, List.length_map]
    rw [show lvl (k + 1) (.mk o nn s l) = (decide (l.length ≤ 8) && (decide (s.length ≤ 40) && l.all (lvl k))) from rfl]
    have e0 : (((k + 1 : Nat) : Int) == 0) = false := by simp; omega
    simp only [e0, br_eq, cond_false, ev_bi_some]
    by_cases h1 : l.length ≤ 8
    · by_cases h2 : s.length ≤ 40
      · have d1 : decide ((l.length : Int) > 8) = false := by simp; omega
        have d2 : decide ((s.length : Int) > 40) = false := by simp; omega
        simp only [d1, d2, cond_false, ev_bi_some, ev_br, h1, h2, decide_true, Bool.true_and]
        have hloop : l_u95q (N_u140q n) (((k + 1 : Nat) : Int), 0, o, nn, s, EX l) = some (seek (fun x => !lvl k x) (fun _ => 0) 1 l, ((k + 1 : Nat) : Int), ((l.findIdx (fun x => !lvl k x) : Nat) : Int), o, nn, s, EX l) := by
          rw [l_u95q_eq]
          refine loop_search (hd := fun i => (((k + 1 : Nat) : Int), (i : Int), o, nn, s, EX l)) _ (fun _ => 0) 1 (fun i hn' => ?_) ?_
          · have hg := ih (by omega) l[i] (Wd.arg hw (List.getElem_mem hn')) n (by omega)
            have hwr : IntKind.i64.wrap (((k + 1 : Nat) : Int) - 1) = (k : Int) := by rw [wrap64 (by omega) (by omega)]; omega
            simp only [st_u95q, st_u95q_0, List.length_map, lt_at hn', okX hn', qx0 hn', qx1 hn', qx2 hn', qx3 hn', hwr, hg, ev_br, ev_at, ev_bi_some, cond_true, wrap_succ hn' (show l.length ≤ big by simp only [big]; omega)]
            cases lvl k l[i] <;> rfl
          · simp [st_u95q, st_u95q_0]
        rw [hloop, seek_const]
        have : l.any (fun x => !lvl k x) = !l.all (lvl k) := by rw [List.all_eq_not_any_not, Bool.not_not]
        rw [this]
        cases l.all (lvl k) <;> rfl
      · have d1 : decide ((l.length : Int) > 8) = false := by simp; omega
        have d2 : decide ((s.length : Int) > 40) = true := by simp; omega
        simp [d1, d2, h2]
    · have d1 : decide ((l.length : Int) > 8) = true := by simp; omega
      simp [d1, h1]
theorem f_u147q_val {e : Ex} (h : e.nodes ≤ big) : f_u147q e.op e.num e.txt (EX e.args) = some (e.nodes : Int) := by
  refine limO_of (n := e.dep) ?_
  induction e using Ex.ind with
  | h o n s l ih =>
    intro m hm
    cases m with
    | zero => simp [Ex.dep] at hm
    | succ k =>
      simp only [Ex.op, Ex.num, Ex.txt, Ex.args, N_u147q, tr_u147q]
      simp only [Ex.nodes, Ex.dep] at h hm
      have hll := Ex.nodesL_len l
      have key : l_u99q (N_u147q k) (1, 0, o, n, s, EX l) = some (0, ((l.foldl (fun a x => a + Ex.nodes x) 1 : Nat) : Int), (l.length : Int), o, n, s, EX l) := by
        rw [l_u99q_eq]
        refine loop_fold (l := l) (hd := fun i a => (((a : Nat) : Int), (i : Int), o, n, s, EX l)) (f := fun a x => a + Ex.nodes x) (jx := fun _ => 0) (inv := fun n a => a = 1 + Ex.nodesL (l.take n)) ?_ ?_ ?_ ?_ |>.trans ?_
        · simp [Ex.nodesL]
        · intro n a hn ha
          rw [ha, List.take_succ_eq_append_getElem hn, Ex.nodesL_app]; simp [Ex.nodesL]; omega
        · intro i a hn ha
          have hx : l[i] ∈ l := List.getElem_mem hn
          have h1 := Ex.nodesL_mem hx
          have h2 := Ex.depL_mem hx
          have hs : Ex.nodesL (l.take (i + 1)) ≤ Ex.nodesL l := by
            conv => rhs; rw [← List.take_append_drop (i + 1) l, Ex.nodesL_app]
            omega
          rw [List.take_succ_eq_append_getElem hn, Ex.nodesL_app] at hs
          simp only [Ex.nodesL] at hs
          have hw : IntKind.i64.wrap ((a : Int) + (l[i].nodes : Int)) = ((a + l[i].nodes : Nat) : Int) := by
            simp only [big] at h
            rw [wrap64 (by omega) (by omega)]; simp
          have hg := ih l[i] hx (by omega) k (by omega)
          simp only [st_u99q, st_u99q_0, List.length_map, lt_at hn, okX hn, qx0 hn, qx1 hn, qx2 hn, qx3 hn, hg, ev_br, ev_at, ev_bi_some, cond_true, hw, wrap_succ hn (show l.length ≤ big by omega)]
        · intro a _
          simp [st_u99q, st_u99q_0]
        · rfl
      rw [key, Ex.nodes_fold]
      simp only [pj_some, if_true, ev_bi_some, ev_at, Ex.nodes]
      congr 2; omega
theorem small_val {e : Ex} (hw : Wd e) : f_u142q e.op e.num e.txt (EX e.args) = some (smallB e) := by
  have hl : f_u140q e.op e.num e.txt (EX e.args) 20 = some (lvl 20 e) := limO_of (level_key 20 (by omega) e hw)
  rw [f_u142q_eq, tr_u142q, hl]
  unfold smallB
  simp only [ev_bi_some, br_eq]
  cases h : lvl 20 e
  · rfl
  · have hb := lvl_nodes h
    have hn := f_u147q_val (e := e) (by simp only [big]; omega)
    have e2 : decide (gv (some (e.nodes : Int)) ≤ 150) = decide (e.nodes ≤ 150) := by
      show decide ((e.nodes : Int) ≤ 150) = _
      by_cases hq : e.nodes ≤ 150
      · rw [decide_eq_true hq, decide_eq_true (by omega)]
      · rw [decide_eq_false hq, decide_eq_false (by omega)]
    simp only [hn, sm_some, e2, cond_true, ev_bi_some, ev_at, Bool.true_and]
end Go.Proofs.H12

/- Code: its text, here and in the document. -/
import Derived.Test.YtlgbnjnkcoiceaaGreatDoorX12Cdc
import Derived.Test.YtlgbnjnkcoiceaaGreatDoorX12Cdd
set_option linter.unusedVariables false
set_option linter.unusedSimpArgs false
set_option linter.unnecessarySimpa false
namespace Go.Proofs.H12
open Go Go.Eng Go.Tk
set_option maxRecDepth 20000
theorem f_operator_val {o : Int} (h1 : 5 ≤ o) (h2 : o ≤ 18) : f_u59q o = some ((opNames[(o - 5).toNat]?).getD []) := by
  rw [f_u59q_eq]
  have : o = 5 ∨ o = 6 ∨ o = 7 ∨ o = 8 ∨ o = 9 ∨ o = 10 ∨ o = 11 ∨ o = 12 ∨ o = 13 ∨ o = 14 ∨ o = 15 ∨ o = 16 ∨ o = 17 ∨ o = 18 := by omega
  rcases this with rfl | rfl | rfl | rfl | rfl | rfl | rfl | rfl | rfl | rfl | rfl | rfl | rfl | rfl <;> rfl
theorem intB_of {n : Int} (h0 : 0 ≤ n) (h1 : n ≤ 9223372036854775807) : (decide (-9223372036854775808 ≤ n) && decide (n ≤ 9223372036854775807)) = true := by
  rw [decide_eq_true (by omega), decide_eq_true h1]; rfl
theorem f_line_val {c : Cd} {x : In} (hN : c.ins.length ≤ 1000) (hx : goodI c.vars c.ins.length x) (hn : x.n ≤ 9223372036854775807) (hv : varsS c.vars = 0) : f_u157q c.ty (EV c.vars) (EN c.ins) x.op x.a x.n = some (lineS c.vars x) := by
  rw [f_u157q_eq, tr_u157q]
  obtain ⟨o, a, n⟩ := x
  simp only at hn ⊢
  unfold lineS
  rcases hx with ⟨h1, h2, h3⟩ | ⟨h1, h2, h3⟩ | ⟨h1, h2, h3⟩ | ⟨h1, h2, h3⟩
  · simp only at h1 h2 h3
    subst h1
    have hi := itoa_le h3 hn
    have e1 : decide (12 + (Lib.itoa n).length ≤ 4611686018427387904) = true := decide_eq_true (by omega)
    have e2 : decide (10 + (Lib.itoa n).length ≤ 4611686018427387904) = true := decide_eq_true (by omega)
    have e3 := intB_of h3 hn
    rcases h2 with rfl | rfl | rfl
    · have w : IntKind.i64.wrap ((1 : Int) - 1) = Int.ofNat 0 := by decide
      simp only [ev_br, ev_at, e1, e3, w, cond_true, cond_false, beq_self_eq_true, decide_true]
      rfl
    · have w : IntKind.i64.wrap ((2 : Int) - 1) = Int.ofNat 1 := by decide
      have d0 : decide (Int.ofNat 1 = Int.ofNat 0) = false := rfl
      simp only [ev_br, ev_at, e1, e3, w, d0, cond_true, cond_false, beq_self_eq_true, decide_true]
      rfl
    · have w : IntKind.i64.wrap ((3 : Int) - 1) = Int.ofNat 2 := by decide
      have d0 : decide (Int.ofNat 2 = Int.ofNat 0) = false := rfl
      have d1 : decide (Int.ofNat 2 = Int.ofNat 1) = false := rfl
      simp only [ev_br, ev_at, e2, e3, w, d0, d1, cond_true, cond_false, beq_self_eq_true, decide_true]
      rfl
  · simp only at h1 h2 h3
    subst h1
    have h7 : a = ((a.toNat : Nat) : Int) := by omega
    have h8 : okAt ksV (EV c.vars) a = true := by rw [h7]; exact okV h3
    have h9 : strOf (cellAt (EV c.vars) a 0) = c.vars[a.toNat].name := by
      have := qv0 h3
      rwa [← h7] at this
    have hl := vars_names hv _ (List.getElem_mem h3)
    have e1 : decide (5 + c.vars[a.toNat].name.length ≤ 4611686018427387904) = true := decide_eq_true (by omega)
    have e0 : ((2 : Int) == 1) = false := rfl
    simp only [ev_br, ev_at, e0, h8, h9, e1, cond_true, cond_false, beq_self_eq_true]
    rw [List.getElem?_eq_getElem h3]
    rfl
  · simp only at h1 h2 h3
    subst h1
    have e0 : ((3 : Int) == 1) = false := rfl
    have e1 : ((3 : Int) == 2) = false := rfl
    have e2 : ((3 : Int) == 4) = false := rfl
    have e3 : ((3 : Int) == 5) = false := rfl
    simp only [ev_br, ev_at, e0, e1, e2, e3, cond_false, f_operator_val h2 h3, ev_bi_some]
    rfl
  · simp only at h1 h2 h3
    have hi := itoa_le h2 (show a ≤ 9223372036854775807 by omega)
    have e1 : decide (5 + (Lib.itoa a).length ≤ 4611686018427387904) = true := decide_eq_true (by omega)
    have e2 : decide (6 + (Lib.itoa a).length ≤ 4611686018427387904) = true := decide_eq_true (by omega)
    have e3 := intB_of h2 (show a ≤ 9223372036854775807 by omega)
    rcases h1 with rfl | rfl
    · have d0 : ((4 : Int) == 1) = false := rfl
      have d1 : ((4 : Int) == 2) = false := rfl
      simp only [ev_br, ev_at, d0, d1, e1, e3, cond_true, cond_false, beq_self_eq_true]
      rfl
    · have d0 : ((5 : Int) == 1) = false := rfl
      have d1 : ((5 : Int) == 2) = false := rfl
      have d2 : ((5 : Int) == 4) = false := rfl
      simp only [ev_br, ev_at, d0, d1, d2, e2, e3, cond_true, cond_false, beq_self_eq_true]
      rfl
abbrev In64 (c : Cd) : Prop := ∀ x ∈ c.ins, x.n ≤ 9223372036854775807
theorem f_Print_val {c : Cd} (hv : c.vars.length ≤ 100000) (h64 : In64 c) : f_u130q c.ty (EV c.vars) (EN c.ins) = some (printS c) := by
  rw [f_u130q_eq, tr_u130q, f_u57q_val hv]
  unfold printS
  simp only [ev_bi_some, ev_br, ev_at, List.length_map]
  cases h : ((runS c).2 != 0)
  · obtain ⟨h1, h2, h3⟩ := run_good (c := c) (by simpa using h)
    have hloop : l_u81q ([], EN c.ins, (c.ins.length : Int), 0, c.ty, EV c.vars, EN c.ins) = some (0, c.ins.foldl (fun s x => s ++ (lineS c.vars x ++ [10])) [], EN c.ins, (c.ins.length : Int), (c.ins.length : Int), c.ty, EV c.vars, EN c.ins) := by
      rw [l_u81q_eq]
      refine loop_fold (l := c.ins) (hd := fun i s => (s, EN c.ins, (c.ins.length : Int), (i : Int), c.ty, EV c.vars, EN c.ins)) (f := fun s x => s ++ (lineS c.vars x ++ [10])) (jx := fun _ => 0) (inv := fun i s => s.length ≤ i * 3001) ?_ ?_ ?_ ?_
      · simp
      · intro i s hi hs
        have := line_le h2 (show c.ins.length ≤ 1000 by omega) (h3 _ (List.getElem_mem hi)) (h64 _ (List.getElem_mem hi))
        simp only [List.length_append, List.length_singleton]; omega
      · intro i s hi hs
        have hg := h3 _ (List.getElem_mem hi)
        have hn := h64 _ (List.getElem_mem hi)
        have hl := line_le h2 (show c.ins.length ≤ 1000 by omega) hg hn
        have hm := Nat.mul_le_mul_right 3001 (show i ≤ 1000 by omega)
        have e1 : decide ((lineS c.vars c.ins[i]).length + 1 ≤ 4611686018427387904) = true := decide_eq_true (by omega)
        have e2 : decide (s.length + (lineS c.vars c.ins[i] ++ [10]).length ≤ 4611686018427387904) = true := decide_eq_true (by simp only [List.length_append, List.length_singleton]; omega)
        simp only [st_u81q, st_u81q_0, lt_at hi, okN hi, qn0 hi, qn1 hi, qn2 hi, f_line_val (show c.ins.length ≤ 1000 by omega) hg hn h2, ev_br, ev_at, ev_bi_some, cond_true, e1, e2, wrap_succ hi (show c.ins.length ≤ big by simp only [big]; omega)]
      · intro s hs
        simp [st_u81q, st_u81q_0]
    rw [hloop]
    simp only [pj_some, if_true, cond_false, ev_bi_some, ev_at]
  · rfl
end Go.Proofs.H12

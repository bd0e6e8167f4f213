/- Code: its text, here and in the document. -/
import Derived.Test.YtlgbnjnkcoiceaaGreatDoorX12Cdc
import Derived.Test.YtlgbnjnkcoiceaaGreatDoorX12Cdd
set_option linter.unusedVariables false
set_option linter.unusedSimpArgs false
set_option linter.unnecessarySimpa false
namespace Go.Proofs.H12
open Go Go.Eng Go.Tk
set_option maxRecDepth 20000
theorem f_operator_val {o : Int} (h1 : 5 ≤ o) (h2 : o ≤ 18) : f_u59q o = some ((opNames[(o - 5).toNat]?).getD []) := by
  rw [f_u59q_eq]
  have : o = 5 ∨ o = 6 ∨ o = 7 ∨ o = 8 ∨ o = 9 ∨ o = 10 ∨ o = 11 ∨ o = 12 ∨ o = 13 ∨ o = 14 ∨ o = 15 ∨ o = 16 ∨ o = 17 ∨ o = 18 := by omega
  rcases this with rfl | rfl | rfl | rfl | rfl | rfl | rfl | rfl | rfl | rfl | rfl | rfl | rfl | rfl <;> rfl
theorem intB_of {n : Int} (h0 : 0 ≤ n) (h1 : n ≤ 9223372036854775807) : (decide (-9223372036854775808 ≤ n) && decide (n ≤ 9223372036854775807)) = true := by
  rw [decide_eq_true (by omega), decide_eq_true h1]; rfl
theorem f_line_val {c : Cd} {x : In} (hN : c.ins.length ≤ 1000) (hx : goodI c.vars c.ins.length x) (hn : x.n ≤ 9223372036854775807) (hv : varsS c.vars = 0) : f_u157q c.ty (EV c.vars) (EN c.ins) x.op x.a x.n = some (lineS c.vars x) := by
  rw [f_u157q_eq, tr_u157q]
  obtain ⟨o, a, n⟩ := x
  simp only at hn ⊢
  unfold lineS
  rcases hx with ⟨h1, h2, h3⟩ | ⟨h1, h2, h3⟩ | ⟨h1, h2, h3⟩ | ⟨h1, h2, h3⟩
  · simp only at h1 h2 h3
    subst h1
    have hi := itoa_le h3 hn
    have e1 : decide (12 + (Lib.itoa n).length ≤ 4611686018427387904) = true := decide_eq_true (by omega)
    have e2 : decide (10 + (Lib.itoa n).length ≤ 4611686018427387904) = true := decide_eq_true (by omega)
    have e3 := intB_of h3 hn
    rcases h2 with rfl | rfl | rfl
    · have w : IntKind.i64.wrap ((1 : Int) - 1) = Int.ofNat 0 := by decide
      simp only [ev_br, ev_at, e1, e3, w, cond_true, cond_false, beq_self_eq_true, decide_true]
      rfl
    · have w : IntKind.i64.wrap ((2 : Int) - 1) = Int.ofNat 1 := by decide
      have d0 : decide (Int.ofNat 1 = Int.ofNat 0) = false := rfl
      simp only [ev_br, ev_at, e1, e3, w, d0, cond_true, cond_false, beq_self_eq_true, decide_true]
      rfl
    · have w : IntKind.i64.wrap ((3 : Int) - 1) = Int.ofNat 2 := by decide
      have d0 : decide (Int.ofNat 2 = Int.ofNat 0) = false := rfl
      have d1 : decide (Int.ofNat 2 = Int.ofNat 1) = false := rfl
      simp only [ev_br, ev_at, e2, e3, w, d0, d1, cond_true, cond_false, beq_self_eq_true, decide_true]
      rfl
  · simp only at h1 h2 h3
    subst h1
    have h7 : a = ((a.toNat : Nat) : Int) := by omega
    have h8 : okAt ksV (EV c.vars) a = true := by rw [h7]; exact okV h3
    have h9 : strOf (cellAt (EV c.vars) a 0) = c.vars[a.toNat].name := by
      have := qv0 h3
      rwa [← h7] at this
    have hl := vars_names hv _ (List.getElem_mem h3)
    have e1 : decide (5 + c.vars[a.toNat].name.length ≤ 4611686018427387904) = true := decide_eq_true (by omega)
    have e0 : ((2 : Int) == 1) = false := rfl
    simp only [ev_br, ev_at, e0, h8, h9, e1, cond_true, cond_false, beq_self_eq_true]
    rw [List.getElem?_eq_getElem h3]
    rfl
  · simp only at h1 h2 h3
    subst h1
    have e0 : ((3 : Int) == 1) = false := rfl
    have e1 : ((3 : Int) == 2) = false := rfl
    have e2 : ((3 : Int) == 4) = false := rfl
    have e3 : ((3 : Int) == 5) = false := rfl
    simp only [ev_br, ev_at, e0, e1, e2, e3, cond_false, f_operator_val h2 h3, ev_bi_some]
    rfl
  · simp only at h1 h2 h3
    have hi := itoa_le h2 (show a ≤ 9223372036854775807 by omega)
    have e1 : decide (5 + (Lib.itoa a).length ≤ 4611686018427387904) = true := decide_eq_true (by omega)
    have e2 : decide (6 + (Lib.itoa a).length ≤ 4611686018427387904) = true := decide_eq_true (by omega)
    have e3 := intB_of h2 (show a ≤ 9223372036854775807 by omega)
    rcases h1 with rfl | rfl
    · have d0 : ((4 : Int) == 1) = false := rfl
      have d1 : ((4 : Int) == 2) = false := rfl
      simp only [ev_br, ev_at, d0, d1, e1, e3, cond_true, cond_false, beq_self_eq_true]
      rfl
    · have d0 : ((5 : Int) == 1) = false := rfl
      have d1 : ((5 : Int) == 2) = false := rfl
      have d2 : ((5 : Int) == 4) = false := rfl
      simp only [ev_br, ev_at, d0, d1, d2, e2, e3, cond_true, cond_false, beq_self_eq_true]
      rfl
abbrev In64 (c : Cd) : Prop := ∀ x ∈ c.ins, x.n ≤ 9223372036854775807
theorem f_Print_val {c : Cd} (hv : c.vars.length ≤ 100000) (h64 : In64 c) : f_u130q c.ty (EV c.vars) (EN c.ins) = some (printS c) := by
  rw [f_u130q_eq, tr_u130q, f_u57q_val hv]
  unfold printS
  simp only [ev_bi_some, ev_br, ev_at, List.length_map]
  cases h : ((runS c).2 != 0)
  · obtain ⟨h1, h2, h3⟩ := run_good (c := c) (by simpa using h)
    have hloop : l_u81q ([], EN c.ins, (c.ins.length : Int), 0, c.ty, EV c.vars, EN c.ins) = some (0, c.ins.foldl (fun s x => s ++ (lineS c.vars x ++ [10])) [], EN c.ins, (c.ins.length : Int), (c.ins.length : Int), c.ty, EV c.vars, EN c.ins) := by
      rw [l_u81q_eq]
      refine loop_fold (l := c.ins) (hd := fun i s => (s, EN c.ins, (c.ins.length : Int), (i : Int), c.ty, EV c.vars, EN c.ins)) (f := fun s x => s ++ (lineS c.vars x ++ [10])) (jx := fun _ => 0) (inv := fun i s => s.length ≤ i * 3001) ?_ ?_ ?_ ?_
      · simp
      · intro i s hi hs
        have := line_le h2 (show c.ins.length ≤ 1000 by omega) (h3 _ (List.getElem_mem hi)) (h64 _ (List.getElem_mem hi))
        simp only [List.length_append, List.length_singleton]; omega
      · intro i s hi hs
        have hg := h3 _ (List.getElem_mem hi)
        have hn := h64 _ (List.getElem_mem hi)
        have hl := line_le h2 (show c.ins.length ≤ 1000 by omega) hg hn
        have hm := Nat.mul_le_mul_right 3001 (show i ≤ 1000 by omega)
        have e1 : decide ((lineS c.vars c.ins[i]).length + 1 ≤ 4611686018427387904) = true := decide_eq_true (by omega)
        have e2 : decide (s.length + (lineS c.vars c.ins[i] ++ [10]).length ≤ 4611686018427387904) = true := decide_eq_true (by simp only [List.length_append, List.length_singleton]; omega)
        simp only [st_u81q, st_u81q_0, lt_at hi, okN hi, qn0 hi, qn1 hi, qn2 hi, f_line_val (show c.ins.length ≤ 1000 by omega) hg hn h2, ev_br, ev_at, ev_bi_some, cond_true, e1, e2, wrap_succ hi (show c.ins.length ≤ big by simp only [big]; omega)]
      · intro s hs
        simp [st_u81q, st_u81q_0]
    rw [hloop]
    simp only [pj_some, if_true, cond_false, ev_bi_some, ev_at]
  · rfl
theorem dig_at {r : Nat} (h : r < 10) : List.take ((IntKind.i64.wrap ((r : Int) + 1)).toNat - ((r : Int)).toNat) (List.drop ((r : Int)).toNat ([48, 49, 50, 51, 52, 53, 54, 55, 56, 57] : List UInt8)) = [UInt8.ofNat (48 + r)] := by
  have : ∀ k : Fin 10, List.take ((IntKind.i64.wrap ((k.1 : Int) + 1)).toNat - ((k.1 : Int)).toNat) (List.drop ((k.1 : Int)).toNat ([48, 49, 50, 51, 52, 53, 54, 55, 56, 57] : List UInt8)) = [UInt8.ofNat (48 + k.1)] := by decide
  exact this ⟨r, h⟩
theorem dig_ok {r : Nat} (h : r < 10) : (leB (IntKind.i64.wrap ((r : Int) + 1)) 10 && leB ((r : Int)) (IntKind.i64.wrap ((r : Int) + 1)).toNat) = true := by
  have : ∀ k : Fin 10, (leB (IntKind.i64.wrap ((k.1 : Int) + 1)) 10 && leB ((k.1 : Int)) (IntKind.i64.wrap ((k.1 : Int) + 1)).toNat) = true := by decide
  exact this ⟨r, h⟩
theorem digits_loop : ∀ (k n : Nat) (s : Bs), n < 10 ^ (k + 1) → n ≤ 9223372036854775807 → s.length + k ≤ 1000 → ∃ (d : Nat) (s' : Bs), l_u76q ((n : Int), s) = some (0, (d : Int), s') ∧ d < 10 ∧ s'.length ≤ 1000 ∧ UInt8.ofNat (48 + d) :: s' = Lib.decDigits n ++ s := by
  intro k
  induction k with
  | zero =>
    intro n s h hm hs
    have h10 : n < 10 := by simpa using h
    refine ⟨n, s, ?_, h10, by omega, ?_⟩
    · rw [l_u76q_eq, iterO_done (j := 0)]
      have : decide ((n : Int) > 9) = false := decide_eq_false (by omega)
      simp only [st_u76q, st_u76q_0, this, ev_br, ev_at, cond_false]
    · rw [Lib.decDigits, dif_pos h10]; rfl
  | succ k ih =>
    intro n s h hm hs
    by_cases h10 : n < 10
    · refine ⟨n, s, ?_, h10, by omega, ?_⟩
      · rw [l_u76q_eq, iterO_done (j := 0)]
        have : decide ((n : Int) > 9) = false := decide_eq_false (by omega)
        simp only [st_u76q, st_u76q_0, this, ev_br, ev_at, cond_false]
      · rw [Lib.decDigits, dif_pos h10]; rfl
    · have hr : n % 10 < 10 := Nat.mod_lt _ (by omega)
      obtain ⟨d, s', h1, h2, h3, h4⟩ := ih (n / 10) (UInt8.ofNat (48 + n % 10) :: s) (by rw [Nat.pow_succ] at h; omega) (by omega) (by simp only [List.length_cons]; omega)
      refine ⟨d, s', ?_, h2, h3, ?_⟩
      · rw [l_u76q_eq] at h1 ⊢
        rw [iterO_next (v' := (((n / 10 : Nat) : Int), UInt8.ofNat (48 + n % 10) :: s))]
        · exact h1
        · have e0 : decide ((n : Int) > 9) = true := decide_eq_true (by omega)
          have e1 : (n : Int).tmod 10 = ((n % 10 : Nat) : Int) := rfl
          have e2 : (n : Int).tdiv 10 = ((n / 10 : Nat) : Int) := rfl
          have e3 : IntKind.i64.wrap ((n / 10 : Nat) : Int) = ((n / 10 : Nat) : Int) := wrap64 (by omega) (by omega)
          have e4 : decide ([UInt8.ofNat (48 + n % 10)].length + s.length ≤ 4611686018427387904) = true := decide_eq_true (by simp only [List.length_singleton]; omega)
          simp only [st_u76q, st_u76q_0, e0, e1, e2, e3, dig_at hr, dig_ok hr, e4, ev_br, ev_at, cond_true]
          rfl
      · rw [h4]
        conv => rhs; rw [Lib.decDigits, dif_neg h10]
        simp
theorem f_Digits_val {n : Int} (h0 : 0 ≤ n) (h1 : n ≤ 9223372036854775807) : f_u125q n = some (Lib.itoa n) := by
  obtain ⟨m, rfl⟩ : ∃ m : Nat, n = (m : Int) := ⟨n.toNat, by omega⟩
  obtain ⟨d, s', h2, h3, h4, h5⟩ := digits_loop 18 m [] (by omega) (by omega) (by simp)
  rw [f_u125q_eq, tr_u125q, h2, Lib.itoa_nonneg]
  have e4 : decide ([UInt8.ofNat (48 + d)].length + s'.length ≤ 4611686018427387904) = true := decide_eq_true (by simp only [List.length_singleton]; omega)
  rw [List.append_nil] at h5
  rw [← h5]
  simp only [pj_some, if_true, ev_bi_some, dig_ok h3, dig_at h3, e4, ev_br, ev_at, cond_true]
  rfl
abbrev tyN : List AV := [AV.str [], AV.str [110, 117, 109, 98, 101, 114], AV.str [97, 109, 111, 117, 110, 116], AV.str [114, 97, 116, 101]]
abbrev opN : List AV := [AV.str [97, 100, 100], AV.str [115, 117, 98], AV.str [109, 117, 108], AV.str [100, 105, 118], AV.str [110, 101, 103], AV.str [101, 113], AV.str [110, 101], AV.str [108, 116], AV.str [108, 101], AV.str [97, 110, 100], AV.str [111, 114], AV.str [110, 111, 116], AV.str [109, 105, 110], AV.str [109, 97, 120]]
theorem tyN_at {a : Int} (h : a = 1 ∨ a = 2 ∨ a = 3) : inB tyN.length a = true ∧ okP [CS.str] tyN a.toNat 0 = true ∧ strOf (cellN tyN a.toNat 0) = (tyNames[a.toNat]?).getD [] := by
  rcases h with rfl | rfl | rfl <;> exact ⟨rfl, rfl, rfl⟩
theorem opN_at {o : Int} (h1 : 5 ≤ o) (h2 : o ≤ 18) : inB opN.length (IntKind.i64.wrap (o - 5)) = true ∧ okP [CS.str] opN (IntKind.i64.wrap (o - 5)).toNat 0 = true ∧ strOf (cellN opN (IntKind.i64.wrap (o - 5)).toNat 0) = (opNames[(o - 5).toNat]?).getD [] := by
  have : o = 5 ∨ o = 6 ∨ o = 7 ∨ o = 8 ∨ o = 9 ∨ o = 10 ∨ o = 11 ∨ o = 12 ∨ o = 13 ∨ o = 14 ∨ o = 15 ∨ o = 16 ∨ o = 17 ∨ o = 18 := by omega
  rcases this with rfl | rfl | rfl | rfl | rfl | rfl | rfl | rfl | rfl | rfl | rfl | rfl | rfl | rfl <;> exact ⟨rfl, rfl, rfl⟩
theorem f_u151q_val {c : Cd} (hv : c.vars.length ≤ 100000) (h64 : In64 c) : f_u151q c.ty (EV c.vars) (EN c.ins) = some (printS c) := by
  rw [f_u151q_eq, tr_u151q, f_u77q_val hv]
  unfold printS
  simp only [ev_bi_some, ev_br, ev_at]
  cases h : ((runS c).2 != 0)
  · obtain ⟨h1, h2, h3⟩ := run_good (c := c) (by simpa using h)
    have hloop : l_u104q ([], 0, c.ty, EV c.vars, EN c.ins, tyN, opN) = some (0, c.ins.foldl (fun s x => s ++ (lineS c.vars x ++ [10])) [], (c.ins.length : Int), c.ty, EV c.vars, EN c.ins, tyN, opN) := by
      rw [l_u104q_eq]
      refine loop_fold (l := c.ins) (hd := fun i s => (s, (i : Int), c.ty, EV c.vars, EN c.ins, tyN, opN)) (f := fun s x => s ++ (lineS c.vars x ++ [10])) (jx := fun _ => 0) (inv := fun i s => s.length ≤ i * 3001) ?_ ?_ ?_ ?_
      · simp
      · intro i s hi hs
        have := line_le h2 (show c.ins.length ≤ 1000 by omega) (h3 _ (List.getElem_mem hi)) (h64 _ (List.getElem_mem hi))
        simp only [List.length_append, List.length_singleton]; omega
      · intro i s hi hs
        have hg := h3 _ (List.getElem_mem hi)
        have hn := h64 _ (List.getElem_mem hi)
        have hl := line_le h2 (show c.ins.length ≤ 1000 by omega) hg hn
        have hm := Nat.mul_le_mul_right 3001 (show i ≤ 1000 by omega)
        have hlt := lt_at hi
        have hok := okN hi
        have hq0 := qn0 hi
        have hq1 := qn1 hi
        have hq2 := qn2 hi
        have hws := wrap_succ hi (show c.ins.length ≤ big by simp only [big]; omega)
        generalize c.ins[i] = x at hg hn hl hq0 hq1 hq2
        have hs9 : ∀ (t : Bs), t.length ≤ 100000 → decide (s.length + t.length ≤ 4611686018427387904) = true := fun t ht => decide_eq_true (by omega)
        obtain ⟨o, a, n⟩ := x
        simp only at hn hq0 hq1 hq2
        rcases hg with ⟨g1, g2, g3⟩ | ⟨g1, g2, g3⟩ | ⟨g1, g2, g3⟩ | ⟨g1, g2, g3⟩
        · simp only at g1 g2 g3
          subst g1
          have hi' := itoa_le g3 hn
          have ht := tyn_le a.toNat
          obtain ⟨t1, t2, t3⟩ := tyN_at g2
          have e1 : decide (s.length + 5 ≤ 4611686018427387904) = true := decide_eq_true (by omega)
          have e2 : decide ((s ++ [112, 117, 115, 104, 32]).length + ((tyNames[a.toNat]?).getD []).length ≤ 4611686018427387904) = true := decide_eq_true (by simp only [List.length_append, List.length_cons, List.length_nil]; omega)
          have e3 : decide ((s ++ [112, 117, 115, 104, 32] ++ (tyNames[a.toNat]?).getD []).length + 1 ≤ 4611686018427387904) = true := decide_eq_true (by simp only [List.length_append, List.length_cons, List.length_nil]; omega)
          have e4 : decide ((s ++ [112, 117, 115, 104, 32] ++ (tyNames[a.toNat]?).getD [] ++ [32]).length + (Lib.itoa n).length ≤ 4611686018427387904) = true := decide_eq_true (by simp only [List.length_append, List.length_cons, List.length_nil]; omega)
          have e5 : decide ((s ++ [112, 117, 115, 104, 32] ++ (tyNames[a.toNat]?).getD [] ++ [32] ++ Lib.itoa n).length + 1 ≤ 4611686018427387904) = true := decide_eq_true (by simp only [List.length_append, List.length_cons, List.length_nil]; omega)
          simp only [st_u104q, st_u104q_0, List.length_map, hlt, hok, hq0, hq1, hq2, beq_self_eq_true, cond_true, ev_br, e1, t1, t2, t3, e2, e3, f_Digits_val g3 hn, ev_bi_some, e4, e5, ev_at, hws]
          simp [lineS]
        · simp only at g1 g2 g3
          subst g1
          have h7 : a = ((a.toNat : Nat) : Int) := by omega
          have h8 : okAt ksV (EV c.vars) a = true := by rw [h7]; exact okV g3
          have h9 : strOf (cellAt (EV c.vars) a 0) = c.vars[a.toNat].name := by
            have := qv0 g3
            rwa [← h7] at this
          have hl := vars_names h2 _ (List.getElem_mem g3)
          have d0 : ((2 : Int) == 1) = false := rfl
          have e1 : decide (s.length + 5 ≤ 4611686018427387904) = true := decide_eq_true (by omega)
          have e2 : decide ((s ++ [108, 111, 97, 100, 32]).length + c.vars[a.toNat].name.length ≤ 4611686018427387904) = true := decide_eq_true (by simp only [List.length_append, List.length_cons, List.length_nil]; omega)
          have e3 : decide ((s ++ [108, 111, 97, 100, 32] ++ c.vars[a.toNat].name).length + 1 ≤ 4611686018427387904) = true := decide_eq_true (by simp only [List.length_append, List.length_cons, List.length_nil]; omega)
          simp only [st_u104q, st_u104q_0, List.length_map, hlt, hok, hq0, hq1, hq2, d0, beq_self_eq_true, cond_true, cond_false, ev_br, e1, h8, h9, e2, e3, ev_at, hws]
          simp [lineS, g3]
        · simp only at g1 g2 g3
          subst g1
          obtain ⟨t1, t2, t3⟩ := opN_at g2 g3
          have ht := opn_le (a - 5).toNat
          have d0 : ((3 : Int) == 1) = false := rfl
          have d1 : ((3 : Int) == 2) = false := rfl
          have e2 : decide (s.length + ((opNames[(a - 5).toNat]?).getD []).length ≤ 4611686018427387904) = true := decide_eq_true (by omega)
          have e3 : decide ((s ++ (opNames[(a - 5).toNat]?).getD []).length + 1 ≤ 4611686018427387904) = true := decide_eq_true (by simp only [List.length_append]; omega)
          simp only [st_u104q, st_u104q_0, List.length_map, hlt, hok, hq0, hq1, hq2, d0, d1, beq_self_eq_true, cond_true, cond_false, ev_br, t1, t2, t3, e2, e3, ev_at, hws]
          simp [lineS]
        · simp only at g1 g2 g3
          have hi' := itoa_le g2 (show a ≤ 9223372036854775807 by omega)
          have hD := f_Digits_val g2 (show a ≤ 9223372036854775807 by omega)
          rcases g1 with rfl | rfl
          · have d0 : ((4 : Int) == 1) = false := rfl
            have d1 : ((4 : Int) == 2) = false := rfl
            have d2 : ((4 : Int) == 3) = false := rfl
            have e1 : decide (s.length + 5 ≤ 4611686018427387904) = true := decide_eq_true (by omega)
            have e2 : decide ((s ++ [106, 117, 109, 112, 32]).length + (Lib.itoa a).length ≤ 4611686018427387904) = true := decide_eq_true (by simp only [List.length_append, List.length_cons, List.length_nil]; omega)
            have e3 : decide ((s ++ [106, 117, 109, 112, 32] ++ Lib.itoa a).length + 1 ≤ 4611686018427387904) = true := decide_eq_true (by simp only [List.length_append, List.length_cons, List.length_nil]; omega)
            simp only [st_u104q, st_u104q_0, List.length_map, hlt, hok, hq0, hq1, hq2, d0, d1, d2, beq_self_eq_true, cond_true, cond_false, ev_br, e1, hD, ev_bi_some, e2, e3, ev_at, hws]
            simp [lineS]
          · have d0 : ((5 : Int) == 1) = false := rfl
            have d1 : ((5 : Int) == 2) = false := rfl
            have d2 : ((5 : Int) == 3) = false := rfl
            have d3 : ((5 : Int) == 4) = false := rfl
            have e1 : decide (s.length + 6 ≤ 4611686018427387904) = true := decide_eq_true (by omega)
            have e2 : decide ((s ++ [102, 97, 108, 115, 101, 32]).length + (Lib.itoa a).length ≤ 4611686018427387904) = true := decide_eq_true (by simp only [List.length_append, List.length_cons, List.length_nil]; omega)
            have e3 : decide ((s ++ [102, 97, 108, 115, 101, 32] ++ Lib.itoa a).length + 1 ≤ 4611686018427387904) = true := decide_eq_true (by simp only [List.length_append, List.length_cons, List.length_nil]; omega)
            simp only [st_u104q, st_u104q_0, List.length_map, hlt, hok, hq0, hq1, hq2, d0, d1, d2, d3, beq_self_eq_true, cond_true, cond_false, ev_br, e1, hD, ev_bi_some, e2, e3, ev_at, hws]
            simp [lineS]
      · intro s hs
        simp [st_u104q, st_u104q_0]
    rw [hloop]
    simp only [pj_some, if_true, cond_false, ev_bi_some, ev_at]
  · rfl
end Go.Proofs.H12

/- Chapter 12: the laws over plain data. -/
import Derived.Test.YtlgbnjnkcoiceaaGreatDoorX12Cde
set_option linter.unusedVariables false
set_option linter.unusedSimpArgs false
set_option linter.unnecessarySimpa false
namespace Go.Proofs.H12
open Go Go.Eng Go.Tk
set_option maxRecDepth 20000
abbrev sE : Ex := .mk 19 0 [] [.mk 12 0 [] [.mk 4 0 [97, 103, 101] [], .mk 1 5 [] []], .mk 2 3 [] [], .mk 4 0 [97, 109, 111, 117, 110, 116] []]
abbrev sV : List Va := [⟨[97, 103, 101], 1⟩, ⟨[97, 109, 111, 117, 110, 116], 2⟩]
abbrev sI : List In := [⟨2, 0, 0⟩, ⟨1, 1, 5⟩, ⟨3, 12, 0⟩, ⟨5, 6, 0⟩, ⟨1, 2, 3⟩, ⟨4, 7, 0⟩, ⟨2, 1, 0⟩]
theorem sample_val : f_u115q = some (19, 0, [], EX sE.args, EV sV) := by rw [f_u115q_eq, tr_u115q]; rfl
theorem comp_s : compS sE sV = (⟨2, sV, sI⟩, 0) := by kernel_rfl
theorem comp_t : compS sE [⟨[97, 103, 101], 1⟩] = (⟨0, [], []⟩, 4) := by kernel_rfl
theorem run_s : runS ⟨2, sV, sI⟩ = (2, 0) := by kernel_rfl
theorem run_t : (runS ⟨2, [], [⟨1, 1, 1⟩]⟩).2 = 9 := by kernel_rfl
theorem itoa_d {k : Nat} (h : k < 10) : Lib.itoa (k : Int) = [UInt8.ofNat (48 + k)] := by rw [Lib.itoa_nonneg, Lib.decDigits_one h]
abbrev sT : Bs := [108, 111, 97, 100, 32, 97, 103, 101, 10, 112, 117, 115, 104, 32, 110, 117, 109, 98, 101, 114, 32, 53, 10, 108, 116, 10, 102, 97, 108, 115, 101, 32, 54, 10, 112, 117, 115, 104, 32, 97, 109, 111, 117, 110, 116, 32, 51, 10, 106, 117, 109, 112, 32, 55, 10, 108, 111, 97, 100, 32, 97, 109, 111, 117, 110, 116, 10]
theorem print_s : printS ⟨2, sV, sI⟩ = sT := by
  have h3 : Lib.itoa 3 = [51] := itoa_d (k := 3) (by decide)
  have h5 : Lib.itoa 5 = [53] := itoa_d (k := 5) (by decide)
  have h6 : Lib.itoa 6 = [54] := itoa_d (k := 6) (by decide)
  have h7 : Lib.itoa 7 = [55] := itoa_d (k := 7) (by decide)
  unfold printS
  rw [run_s]
  have e1 : lineS sV ⟨2, 0, 0⟩ = [108, 111, 97, 100, 32, 97, 103, 101] := rfl
  have e2 : lineS sV ⟨1, 1, 5⟩ = [112, 117, 115, 104, 32, 110, 117, 109, 98, 101, 114, 32, 53] := by
    show [112, 117, 115, 104, 32] ++ _ ++ [32] ++ Lib.itoa 5 = _
    rw [h5]; rfl
  have e3 : lineS sV ⟨3, 12, 0⟩ = [108, 116] := rfl
  have e4 : lineS sV ⟨5, 6, 0⟩ = [102, 97, 108, 115, 101, 32, 54] := by
    show [102, 97, 108, 115, 101, 32] ++ Lib.itoa 6 = _
    rw [h6]; rfl
  have e5 : lineS sV ⟨1, 2, 3⟩ = [112, 117, 115, 104, 32, 97, 109, 111, 117, 110, 116, 32, 51] := by
    show [112, 117, 115, 104, 32] ++ _ ++ [32] ++ Lib.itoa 3 = _
    rw [h3]; rfl
  have e6 : lineS sV ⟨4, 7, 0⟩ = [106, 117, 109, 112, 32, 55] := by
    show [106, 117, 109, 112, 32] ++ Lib.itoa 7 = _
    rw [h7]; rfl
  have e7 : lineS sV ⟨2, 1, 0⟩ = [108, 111, 97, 100, 32, 97, 109, 111, 117, 110, 116] := rfl
  show List.foldl (fun s x => s ++ (lineS sV x ++ [10])) [] sI = sT
  simp only [List.foldl_cons, List.foldl_nil, e1, e2, e3, e4, e5, e6, e7]
  rfl
theorem lives_val : f_u141q = some true := by
  have h1 := f_u80q_val (vs := sV) (by decide) (e := sE) (by decide)
  rw [comp_s] at h1
  have h2 := f_u57q_val (c := ⟨2, sV, sI⟩) (by decide)
  have h3 := f_u129q_val (c := ⟨2, sV, sI⟩) (by decide)
  rw [run_s] at h2 h3
  have h4 := f_u156q_val (a := ⟨2, sV, sI⟩) (b := ⟨2, sV, sI⟩) (by decide) (by decide)
  rw [same_refl] at h4
  have h5 := f_u80q_val (vs := [⟨[97, 103, 101], 1⟩]) (by decide) (e := sE) (by decide)
  rw [comp_t] at h5
  have h6 := f_Print_val (c := ⟨2, sV, sI⟩) (by decide) (by decide)
  rw [print_s] at h6
  have h7 := f_u57q_val (c := ⟨2, [], [⟨1, 1, 1⟩]⟩) (by decide)
  rw [run_t] at h7
  simp only [Ex.op, Ex.num, Ex.txt] at h1 h5
  have h7' : f_u57q 2 [] [AV.agg [AV.int IntKind.i64 1, AV.int IntKind.i64 1, AV.int IntKind.i64 1]] = some 9 := h7
  have h5' : f_u80q 19 0 [] (EX sE.args) (List.take 1 (EV sV)) = some (0, [], [], 4) := h5
  rw [f_u141q_eq, tr_u141q, sample_val]
  simp only [ev_bi_some, h1, h2, h3, h4, h5', h6, h7', sm_some, gv_some, br_eq]
  rfl
theorem comp_len (e : Ex) (vs : List Va) : (compS e vs).1.vars.length ≤ 100 ∧ (compS e vs).1.ins.length ≤ 1000 := by
  unfold compS
  cases h1 : (varsS vs != 0)
  · cases h2 : ((ofS e vs).2 != 0)
    · obtain ⟨h3, h4⟩ := of_valid (e := e) (vs := vs) (by simpa using h2)
      have h5 := em_len vs e h4 0
      have h6 := vars_len (vs := vs) (by simpa using h1)
      simp only [cond_false]
      omega
    · simp
  · simp
theorem gt100 {n : Nat} : decide ((n : Int) > 100) = decide (n > 100) := by
  by_cases h : n > 100
  · rw [decide_eq_true h, decide_eq_true (by omega)]
  · rw [decide_eq_false h, decide_eq_false (by omega)]
theorem small_nodes {e : Ex} (h : smallB e = true) : e.nodes ≤ 150 := by
  unfold smallB at h
  simp only [Bool.and_eq_true, decide_eq_true_eq] at h
  exact h.2
theorem same_nil {a : Cd} (h1 : a.ty = 0) (h2 : a.vars = []) (h3 : a.ins = []) : sameS a ⟨0, [], []⟩ = true := by
  unfold sameS; rw [h1, h2, h3]; rfl
theorem comp_err {e : Ex} {vs : List Va} (h : ((compS e vs).2 != 0) = true) : (compS e vs).1 = ⟨0, [], []⟩ ∧ (varsS vs = 0 → (compS e vs).2 = (ofS e vs).2) ∧ (varsS vs ≠ 0 → (compS e vs).2 = varsS vs) := by
  unfold compS at h ⊢
  cases h1 : (varsS vs != 0)
  · rw [h1] at h
    have hv : varsS vs = 0 := by simpa using h1
    cases h2 : ((ofS e vs).2 != 0)
    · rw [h2] at h; simp at h
    · exact ⟨rfl, fun _ => rfl, fun c => absurd hv c⟩
  · have hv : varsS vs ≠ 0 := by simpa using h1
    exact ⟨rfl, fun c => absurd c hv, fun _ => rfl⟩
theorem Balanced_law {vs : List Va} (hv : vs.length ≤ big) {e : Ex} (hw : Wd e) : f_u35q e.op e.num e.txt (EX e.args) (EV vs) = some true := by
  rw [f_u35q_eq, tr_u35q, small_val hw, lives_val]
  simp only [ev_bi_some, br_eq, ev_br, ev_at, List.length_map, gt100]
  cases hs : smallB e
  · rfl
  · have hn := small_nodes hs
    cases hg : decide (vs.length > 100)
    · obtain ⟨h1, h2⟩ := comp_len e vs
      have hb : e.nodes ≤ big := by simp only [big]; omega
      simp only [f_u80q_val hv hb, f_u175q_val hv hw, f_u165q_val hv, f_u147q_val hb, ev_bi_some, ev_br, ev_at, sm_some, gv_some, cond_true, cond_false, Bool.not_true, List.length_map]
      cases he : ((compS e vs).2 != 0)
      · have he' : (compS e vs).2 = 0 := by simpa using he
        obtain ⟨g1, g2, g3, g4, g5, d, g6, g7, g8⟩ := comp_run he'
        have hV := f_u57q_val (c := (compS e vs).1) (by omega)
        have hD := f_u129q_val (c := (compS e vs).1) (by omega)
        rw [g6] at hV hD
        have q0 : ((ofS e vs).2 != 0) = false := by simp [g2]
        have q1 : ((compS e vs).1.ty != (ofS e vs).1) = false := by rw [g3]; simp
        have q2 : (((compS e vs).1.vars.length : Int) != (vs.length : Int)) = false := by rw [g3]; simp
        have q3 : decide (((compS e vs).1.ins.length : Int) < (e.nodes : Int)) = false := decide_eq_false (by rw [g3]; simp only; omega)
        have hw2 : IntKind.i64.wrap (2 * (e.nodes : Int)) = 2 * (e.nodes : Int) := wrap64 (by omega) (by omega)
        have q4 : decide (((compS e vs).1.ins.length : Int) > IntKind.i64.wrap (2 * (e.nodes : Int))) = false := decide_eq_false (by rw [hw2, g3]; simp only; omega)
        have q5 : decide ((d : Int) ≥ 1) = true := decide_eq_true (by omega)
        have q6 : decide ((d : Int) ≤ 9) = true := decide_eq_true (by omega)
        simp only [q0, q1, q2, q3, q4, q5, q6, hV, hD, ev_bi_some, ev_br, ev_at, cond_true, cond_false, beq_self_eq_true]
      · obtain ⟨g1, g2, g3⟩ := comp_err he
        have hS := f_u156q_val (a := (compS e vs).1) (b := ⟨0, [], []⟩) (by simp only [big]; omega) (by simp only [big]; omega)
        rw [same_nil (by rw [g1]) (by rw [g1]) (by rw [g1])] at hS
        have hS' : f_u156q (compS e vs).1.ty (EV (compS e vs).1.vars) (EN (compS e vs).1.ins) 0 [] [] = some true := hS
        simp only [hS', ev_bi_some, ev_br, ev_at, cond_true]
        cases hq : (varsS vs != 0)
        · have hq' : varsS vs = 0 := by simpa using hq
          rw [g2 hq']
          simp
        · simp
    · rfl
noncomputable def exB (e f : Ex) : Bool := @decide (e = f) (Classical.propDecidable _)
end Go.Proofs.H12

/- Chapter 12: the laws over plain data. -/
import Derived.Test.YtlgbnjnkcoiceaaGreatDoorX12Cde
set_option linter.unusedVariables false
set_option linter.unusedSimpArgs false
set_option linter.unnecessarySimpa false
namespace Go.Proofs.H12
open Go Go.Eng Go.Tk
set_option maxRecDepth 20000
abbrev sE : Ex := .mk 19 0 [] [.mk 12 0 [] [.mk 4 0 [97, 103, 101] [], .mk 1 5 [] []], .mk 2 3 [] [], .mk 4 0 [97, 109, 111, 117, 110, 116] []]
abbrev sV : List Va := [⟨[97, 103, 101], 1⟩, ⟨[97, 109, 111, 117, 110, 116], 2⟩]
abbrev sI : List In := [⟨2, 0, 0⟩, ⟨1, 1, 5⟩, ⟨3, 12, 0⟩, ⟨5, 6, 0⟩, ⟨1, 2, 3⟩, ⟨4, 7, 0⟩, ⟨2, 1, 0⟩]
theorem sample_val : f_u115q = some (19, 0, [], EX sE.args, EV sV) := by rw [f_u115q_eq, tr_u115q]; rfl
theorem comp_s : compS sE sV = (⟨2, sV, sI⟩, 0) := by kernel_rfl
theorem comp_t : compS sE [⟨[97, 103, 101], 1⟩] = (⟨0, [], []⟩, 4) := by kernel_rfl
theorem run_s : runS ⟨2, sV, sI⟩ = (2, 0) := by kernel_rfl
theorem run_t : (runS ⟨2, [], [⟨1, 1, 1⟩]⟩).2 = 9 := by kernel_rfl
theorem itoa_d {k : Nat} (h : k < 10) : Lib.itoa (k : Int) = [UInt8.ofNat (48 + k)] := by rw [Lib.itoa_nonneg, Lib.decDigits_one h]
abbrev sT : Bs := [108, 111, 97, 100, 32, 97, 103, 101, 10, 112, 117, 115, 104, 32, 110, 117, 109, 98, 101, 114, 32, 53, 10, 108, 116, 10, 102, 97, 108, 115, 101, 32, 54, 10, 112, 117, 115, 104, 32, 97, 109, 111, 117, 110, 116, 32, 51, 10, 106, 117, 109, 112, 32, 55, 10, 108, 111, 97, 100, 32, 97, 109, 111, 117, 110, 116, 10]
theorem print_s : printS ⟨2, sV, sI⟩ = sT := by
  have h3 : Lib.itoa 3 = [51] := itoa_d (k := 3) (by decide)
  have h5 : Lib.itoa 5 = [53] := itoa_d (k := 5) (by decide)
  have h6 : Lib.itoa 6 = [54] := itoa_d (k := 6) (by decide)
  have h7 : Lib.itoa 7 = [55] := itoa_d (k := 7) (by decide)
  unfold printS
  rw [run_s]
  have e1 : lineS sV ⟨2, 0, 0⟩ = [108, 111, 97, 100, 32, 97, 103, 101] := rfl
  have e2 : lineS sV ⟨1, 1, 5⟩ = [112, 117, 115, 104, 32, 110, 117, 109, 98, 101, 114, 32, 53] := by
    show [112, 117, 115, 104, 32] ++ _ ++ [32] ++ Lib.itoa 5 = _
    rw [h5]; rfl
  have e3 : lineS sV ⟨3, 12, 0⟩ = [108, 116] := rfl
  have e4 : lineS sV ⟨5, 6, 0⟩ = [102, 97, 108, 115, 101, 32, 54] := by
    show [102, 97, 108, 115, 101, 32] ++ Lib.itoa 6 = _
    rw [h6]; rfl
  have e5 : lineS sV ⟨1, 2, 3⟩ = [112, 117, 115, 104, 32, 97, 109, 111, 117, 110, 116, 32, 51] := by
    show [112, 117, 115, 104, 32] ++ _ ++ [32] ++ Lib.itoa 3 = _
    rw [h3]; rfl
  have e6 : lineS sV ⟨4, 7, 0⟩ = [106, 117, 109, 112, 32, 55] := by
    show [106, 117, 109, 112, 32] ++ Lib.itoa 7 = _
    rw [h7]; rfl
  have e7 : lineS sV ⟨2, 1, 0⟩ = [108, 111, 97, 100, 32, 97, 109, 111, 117, 110, 116] := rfl
  show List.foldl (fun s x => s ++ (lineS sV x ++ [10])) [] sI = sT
  simp only [List.foldl_cons, List.foldl_nil, e1, e2, e3, e4, e5, e6, e7]
  rfl
theorem lives_val : f_u141q = some true := by
  have h1 := f_u80q_val (vs := sV) (by decide) (e := sE) (by decide)
  rw [comp_s] at h1
  have h2 := f_u57q_val (c := ⟨2, sV, sI⟩) (by decide)
  have h3 := f_u129q_val (c := ⟨2, sV, sI⟩) (by decide)
  rw [run_s] at h2 h3
  have h4 := f_u156q_val (a := ⟨2, sV, sI⟩) (b := ⟨2, sV, sI⟩) (by decide) (by decide)
  rw [same_refl] at h4
  have h5 := f_u80q_val (vs := [⟨[97, 103, 101], 1⟩]) (by decide) (e := sE) (by decide)
  rw [comp_t] at h5
  have h6 := f_Print_val (c := ⟨2, sV, sI⟩) (by decide) (by decide)
  rw [print_s] at h6
  have h7 := f_u57q_val (c := ⟨2, [], [⟨1, 1, 1⟩]⟩) (by decide)
  rw [run_t] at h7
  simp only [Ex.op, Ex.num, Ex.txt] at h1 h5
  have h7' : f_u57q 2 [] [AV.agg [AV.int IntKind.i64 1, AV.int IntKind.i64 1, AV.int IntKind.i64 1]] = some 9 := h7
  have h5' : f_u80q 19 0 [] (EX sE.args) (List.take 1 (EV sV)) = some (0, [], [], 4) := h5
  rw [f_u141q_eq, tr_u141q, sample_val]
  simp only [ev_bi_some, h1, h2, h3, h4, h5', h6, h7', sm_some, gv_some, br_eq]
  rfl
noncomputable def exB (e f : Ex) : Bool := @decide (e = f) (Classical.propDecidable _)
theorem Stops_law {c : Cd} (h64 : In64 c) (i t : Int) : f_u56q c.ty (EV c.vars) (EN c.ins) i t = some true := by
  rw [f_u56q_eq, tr_u56q, lives_val]
  simp only [List.length_map, br_eq]
  by_cases h1 : (c.ins.length : Int) > 120
  · simp [h1]
  by_cases h2 : (c.vars.length : Int) > 100
  · simp [h1, h2]
  by_cases h3 : i < 0
  · simp [h1, h2, h3]
  by_cases h4 : i ≥ (c.ins.length : Int)
  · simp [h1, h2, h3, h4]
  by_cases h5 : t > i ∧ t ≤ (c.ins.length : Int)
  · simp [h1, h2, h3, h4, h5.1, h5.2]
  have e5 : (bif decide (t > i) then some (decide (t ≤ (c.ins.length : Int))) else some false) = some false := by
    by_cases h : t > i
    · have : ¬ t ≤ (c.ins.length : Int) := fun q => h5 ⟨h, q⟩
      rw [decide_eq_true h, decide_eq_false this]; rfl
    · rw [decide_eq_false h]; rfl
  obtain ⟨n, rfl⟩ : ∃ n : Nat, i = (n : Int) := ⟨i.toNat, by omega⟩
  have hn : n < c.ins.length := by omega
  have hset : setE (EN c.ins) n 0 [.int .i64 4, .int .i64 t, .int .i64 0] = EN (c.ins.set n ⟨4, t, 0⟩) := setE_map hn rfl
  have hok : okS (EN c.ins) n 0 3 = true := by rw [okS_map hn]; rfl
  have d1 : decide ((c.ins.length : Int) > 120) = false := decide_eq_false h1
  have d2 : decide ((c.vars.length : Int) > 100) = false := decide_eq_false h2
  have d3 : decide ((n : Int) < 0) = false := decide_eq_false h3
  have d4 : decide ((n : Int) ≥ (c.ins.length : Int)) = false := decide_eq_false h4
  have d5 : decide (c.ins.length = 0) = false := decide_eq_false (by omega)
  have d6 : (decide (c.ins.length ≠ 0) && room c.ins.length 24) = true := by
    rw [decide_eq_true (by omega), roomN (by omega) 24 (by omega)]; rfl
  let c' : Cd := ⟨c.ty, c.vars, c.ins.set n ⟨4, t, 0⟩⟩
  have hlen : c'.ins.length = c.ins.length := by simp [c']
  have hget : c'.ins[n]'(by rw [hlen]; exact hn) = ⟨4, t, 0⟩ := by simp [c']
  obtain ⟨hs1, hs2⟩ := run_stop (c := c') (n := n) (by rw [hlen]; exact hn) (by rw [hget]) (by
    rw [hget, hlen]
    simp only
    intro q; exact h5 ⟨by omega, by omega⟩)
  have h64' : In64 c' := by
    intro x hx
    rcases List.mem_or_eq_of_mem_set hx with h | h
    · exact h64 x h
    · subst h; simp only; omega
  have hV := f_u57q_val (c := c') (show c.vars.length ≤ 100000 by omega)
  have hD := f_u129q_val (c := c') (show c.vars.length ≤ 100000 by omega)
  have hP := f_Print_val (c := c') (show c.vars.length ≤ 100000 by omega) h64'
  have hne : ((runS c').2 != 0) = true := by simpa using hs2
  have hp0 : printS c' = [] := by unfold printS; rw [hne]; rfl
  rw [hp0] at hP
  rw [hs1] at hD
  have hV' : f_u57q c.ty (EV c.vars) (EN (c.ins.set n ⟨4, t, 0⟩)) = some (runS c').2 := hV
  have hD' : f_u129q c.ty (EV c.vars) (EN (c.ins.set n ⟨4, t, 0⟩)) = some 0 := hD
  have hP' : f_u130q c.ty (EV c.vars) (EN (c.ins.set n ⟨4, t, 0⟩)) = some [] := hP
  simp only [d1, d2, d3, d4, e5, d5, d6, inB_at hn, Int.toNat_natCast, hok, hset, hV', hD', hP', hne, ev_bi_some, ev_br, ev_at, cond_true, cond_false, Bool.false_and, sm_some, gv_some, beq_self_eq_true]
end Go.Proofs.H12

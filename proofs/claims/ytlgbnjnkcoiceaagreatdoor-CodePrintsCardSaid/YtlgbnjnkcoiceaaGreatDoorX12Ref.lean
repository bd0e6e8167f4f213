/- The document's expressions (names, Validate): what the printed functions come to. -/
import Derived.Test.YtlgbnjnkcoiceaaGreatDoorX12Exp
set_option linter.unusedVariables false
set_option linter.unusedSimpArgs false
set_option linter.unnecessarySimpa false
namespace Go.Proofs.H12
open Go Go.Eng Go.Tk
set_option maxRecDepth 20000
theorem l_u116q_val {s : Bs} (hl : s.length ≤ big) : l_u116q (s, 0) = some (seek (fun c => !at8 namI c) (fun _ => 0) 1 s, s, ((s.findIdx (fun c => !at8 namI c) : Nat) : Int)) := by
  rw [l_u116q_eq]
  refine loop_search (hd := fun n => (s, (n : Int))) (jx := fun _ => 0) _ 1 (fun n h => ?_) ?_
  · simp only [st_u116q, st_u116q_0, lt_at h, inB_at h, byteAt_at h, wrap_succ h hl, br_eq, cond_true, ev_br, ev_at, cond_some, ev_bi_some, at8, namI, ltrI, digI]
    have e1 : decide ((s[n].toNat : Int) < 97) = !decide ((s[n].toNat : Int) ≥ 97) := by by_cases h : (s[n].toNat : Int) ≥ 97 <;> simp [h] <;> omega
    have e2 : decide ((s[n].toNat : Int) > 122) = !decide ((s[n].toNat : Int) ≤ 122) := by by_cases h : (s[n].toNat : Int) ≤ 122 <;> simp [h] <;> omega
    have e3 : decide ((s[n].toNat : Int) < 48) = !decide ((s[n].toNat : Int) ≥ 48) := by by_cases h : (s[n].toNat : Int) ≥ 48 <;> simp [h] <;> omega
    have e4 : decide ((s[n].toNat : Int) > 57) = !decide ((s[n].toNat : Int) ≤ 57) := by by_cases h : (s[n].toNat : Int) ≤ 57 <;> simp [h] <;> omega
    rw [e1, e2, e3, e4, bne]
    cases decide ((s[n].toNat : Int) ≥ 97) <;> cases decide ((s[n].toNat : Int) ≤ 122) <;> cases decide ((s[n].toNat : Int) ≥ 48) <;> cases decide ((s[n].toNat : Int) ≤ 57) <;> cases ((s[n].toNat : Int) == 95) <;> rfl
  · simp [st_u116q, st_u116q_0]
theorem f_u160q_val (s : Bs) : f_u160q s = some (nameB s) := by
  rw [f_u160q_eq, tr_u160q]
  cases s with
  | nil => rfl
  | cons c r =>
    have e0 : decide (((c :: r).length : Int) < 1) = false := by simp only [List.length_cons, decide_eq_false_iff_not]; omega
    have e1 : inB (c :: r).length 0 = true := by simp [inB]
    have e2 : byteAt (c :: r) 0 = (c.toNat : Int) := by simp [byteAt, atIdx]
    have e3 : decide (((c :: r).length : Int) > 16) = !decide ((c :: r).length ≤ 16) := by
      by_cases h : (c :: r).length ≤ 16 <;> simp only [h, decide_true, decide_false, Bool.not_true, Bool.not_false, decide_eq_true_eq, decide_eq_false_iff_not] <;> omega
    simp only [e0, e1, e2, e3, br_eq, cond_false, cond_true, cond_some, ev_bi_some, ev_br, ev_at, nameB, at8, ltrI]
    cases h16 : decide ((c :: r).length ≤ 16)
    · rfl
    · have hl : (c :: r).length ≤ big := Nat.le_trans (of_decide_eq_true h16) (by decide)
      rw [l_u116q_val hl, seek_const]
      have e4 : decide ((c.toNat : Int) < 97) = !decide ((c.toNat : Int) ≥ 97) := by by_cases h : (c.toNat : Int) ≥ 97 <;> simp [h] <;> omega
      have e5 : decide ((c.toNat : Int) > 122) = !decide ((c.toNat : Int) ≤ 122) := by by_cases h : (c.toNat : Int) ≤ 122 <;> simp [h] <;> omega
      rw [e4, e5]
      have e6 : (c :: r).any (fun c => !at8 namI c) = !(c :: r).all (at8 namI) := by rw [List.any_eq_not_all_not]; simp
      rw [e6]
      show _ = some (_ && (_ && (c :: r).all (at8 namI)))
      cases decide ((c.toNat : Int) ≥ 97) <;> cases decide ((c.toNat : Int) ≤ 122) <;> cases (c :: r).all (at8 namI) <;> simp
theorem f_u143q_val : f_u143q = some (ES wordsS) := by
  rw [f_u143q_eq, tr_u143q]; rfl
theorem l_u117q_val (s : Bs) : l_u117q (s, ES wordsS, 0) = some (seek (s == ·) (fun _ => 0) 1 wordsS, s, ES wordsS, ((wordsS.findIdx (s == ·) : Nat) : Int)) := by
  rw [l_u117q_eq]
  refine loop_search (hd := fun n => (s, ES wordsS, (n : Int))) (jx := fun _ => 0) _ 1 (fun n h => ?_) ?_
  · simp only [st_u117q, st_u117q_0, List.length_map, lt_at h, okS1 h, qs0 h, ev_br, ev_at, cond_true, wrap_succ h (show wordsS.length ≤ big by decide)]
    rw [BEq.comm (a := wordsS[n]) (b := s)]
    cases (s == wordsS[n]) <;> rfl
  · simp [st_u117q, st_u117q_0]
theorem f_u161q_val (s : Bs) : f_u161q s = some (wordB s) := by
  rw [f_u161q_eq, tr_u161q, f_u143q_val]
  simp only [ev_bi_some, l_u117q_val, seek_const, wordB, has]
  cases wordsS.any (s == ·) <;> simp
theorem f_u73q_val (s : Bs) : f_u73q s = some (varS s) := by
  rw [f_u73q_eq, tr_u73q, f_u160q_val, f_u161q_val, varS_eq]
  cases nameB s <;> simp
end Go.Proofs.H12

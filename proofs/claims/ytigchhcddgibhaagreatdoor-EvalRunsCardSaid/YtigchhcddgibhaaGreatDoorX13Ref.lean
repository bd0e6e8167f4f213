/- The document's expressions (names, Validate): what the printed functions come to. -/
import Derived.Test.YtigchhcddgibhaaGreatDoorX13Exp
set_option linter.unusedVariables false
set_option linter.unusedSimpArgs false
set_option linter.unnecessarySimpa false
namespace Go.Proofs.H13
open Go Go.Eng Go.Tk
set_option maxRecDepth 20000
theorem quY {s : Bs} (hl : s.length <= big) : qly (s, 0) = some (qf0 (fun c => !at8 qiP c) (fun _ => 0) 1 s, s, ((s.findIdx (fun c => !at8 qiP c) : Nat) : Int)) := by
 rw [qom]
 refine qaC (hd := fun n => (s, (n : Int))) (jx := fun _ => 0) _ 1 (fun n h => ?_) ?_
 ·simp only [qhe, qiq, qar h, qaO h, qdB h, qal h hl, br_eq, cond_true, ev_br, ev_at, cond_some, ev_bi_some, at8, qiP, qFP, qiR]
  have e1 : decide ((s[n].toNat : Int) < 97) = !decide ((s[n].toNat : Int) >= 97) := by by_cases h : (s[n].toNat : Int) >= 97 <;> simp [h] <;> omega
  have e2 : decide ((s[n].toNat : Int) > 122) = !decide ((s[n].toNat : Int) <= 122) := by by_cases h : (s[n].toNat : Int) <= 122 <;> simp [h] <;> omega
  have e3 : decide ((s[n].toNat : Int) < 48) = !decide ((s[n].toNat : Int) >= 48) := by by_cases h : (s[n].toNat : Int) >= 48 <;> simp [h] <;> omega
  have e4 : decide ((s[n].toNat : Int) > 57) = !decide ((s[n].toNat : Int) <= 57) := by by_cases h : (s[n].toNat : Int) <= 57 <;> simp [h] <;> omega
  rw [e1, e2, e3, e4, bne]
  cases decide ((s[n].toNat : Int) >= 97) <;> cases decide ((s[n].toNat : Int) <= 122) <;> cases decide ((s[n].toNat : Int) >= 48) <;> cases decide ((s[n].toNat : Int) <= 57) <;> cases ((s[n].toNat : Int) == 95) <;> rfl
 ·simp [qhe, qiq]
theorem quy (s : Bs) : qk5 s = some (qM5 s) := by
 rw [qyz, qjR]
 cases s with
 | nil => rfl
 | cons c r =>
  have e0 : decide (((c :: r).length : Int) < 1) = false := by simp only [List.length_cons, decide_eq_false_iff_not]; omega
  have e1 : inB (c :: r).length 0 = true := by simp [inB]
  have e2 : qaI (c :: r) 0 = (c.toNat : Int) := by simp [qaI, qiM]
  have e3 : decide (((c :: r).length : Int) > 16) = !decide ((c :: r).length <= 16) := by
   by_cases h : (c :: r).length <= 16 <;> simp only [h, decide_true, decide_false, Bool.not_true, Bool.not_false, decide_eq_true_eq, decide_eq_false_iff_not] <;> omega
  simp only [e0, e1, e2, e3, br_eq, cond_false, cond_true, cond_some, ev_bi_some, ev_br, ev_at, qM5, at8, qFP]
  cases h16 : decide ((c :: r).length <= 16)
  ·rfl
  ·have hl : (c :: r).length <= big := Nat.le_trans (of_decide_eq_true h16) (by decide)
   rw [quY hl, qaE]
   have e4 : decide ((c.toNat : Int) < 97) = !decide ((c.toNat : Int) >= 97) := by by_cases h : (c.toNat : Int) >= 97 <;> simp [h] <;> omega
   have e5 : decide ((c.toNat : Int) > 122) = !decide ((c.toNat : Int) <= 122) := by by_cases h : (c.toNat : Int) <= 122 <;> simp [h] <;> omega
   rw [e4, e5]
   have e6 : (c :: r).any (fun c => !at8 qiP c) = !(c :: r).all (at8 qiP) := by rw [List.any_eq_not_all_not]; simp
   rw [e6]
   show _ = some (_ && (_ && (c :: r).all (at8 qiP)))
   cases decide ((c.toNat : Int) >= 97) <;> cases decide ((c.toNat : Int) <= 122) <;> cases (c :: r).all (at8 qiP) <;> simp
theorem quq : qkZ = some (ES wordsS) := by
 rw [qyo, qjG]; rfl
theorem quZ (s : Bs) : qlz (s, ES wordsS, 0) = some (qf0 (s == ·) (fun _ => 0) 1 wordsS, s, ES wordsS, ((wordsS.findIdx (s == ·) : Nat) : Int)) := by
 rw [qon]
 refine qaC (hd := fun n => (s, ES wordsS, (n : Int))) (jx := fun _ => 0) _ 1 (fun n h => ?_) ?_
 ·simp only [qhf, qir, List.length_map, qar h, qLK h, qs0 h, ev_br, ev_at, cond_true, qal h (show wordsS.length <= big by decide)]
  rw [BEq.comm (a := wordsS[n]) (b := s)]
  cases (s == wordsS[n]) <;> rfl
 ·simp [qhf, qir]
theorem quz (s : Bs) : qhO s = some (qvi s) := by
 rw [qyA, qjS, quq]
 simp only [ev_bi_some, quZ, qaE, qvi, has]
 cases wordsS.any (s == ·) <;> simp
theorem qn6 (s : Bs) : qn5 s = some (qoK s) := by
 rw [qEJ, qqY, quy, quz, q3t]
 cases qM5 s <;> simp
theorem qn4 (op : Int) : qdm op = some (qaN op) := by
 rw [qEH, qqW]
 simp only [br_eq, cond_some, ev_bi_some, ev_br, ev_at, qaN]
 by_cases h0 : op < 1
 ·simp [h0]; rw [if_neg (by omega), if_neg (by omega), if_neg (by omega), if_neg (by omega)]
 by_cases h1 : op > 19
 ·simp [h0, h1]; rw [if_neg (by omega), if_neg (by omega), if_neg (by omega), if_neg (by omega)]
 by_cases h2 : op <= 4
 ·have e : op = 1 \/ op = 2 \/ op = 3 \/ op = 4 := by omega
  rw [if_pos e]; simp [h0, h1, h2]
 by_cases h3 : op = 9
 ·subst h3; simp
 by_cases h4 : op = 16
 ·subst h4; simp
 by_cases h5 : op = 19
 ·subst h5; simp
 simp [h0, h1, h2, h3, h4, h5]
 rw [if_neg (by omega), if_pos (by omega)]
end Go.Proofs.H13

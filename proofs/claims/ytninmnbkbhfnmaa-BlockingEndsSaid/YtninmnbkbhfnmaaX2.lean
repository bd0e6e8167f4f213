/- Names; lists that are accepted. -/
import Derived.Test.YtninmnbkbhfnmaaX1
set_option linter.unusedVariables false
set_option linter.unusedSimpArgs false
set_option linter.unnecessarySimpa false
namespace Go.Proofs.H23
open Go Go.Eng
set_option maxRecDepth 20000

def lettB (s : List UInt8) (n : Nat) : Bool := decide (((s[n]?.getD 0).toNat : Int) ≥ 97) && decide (((s[n]?.getD 0).toNat : Int) ≤ 122)
def otherB (s : List UInt8) (n : Nat) : Bool := (((s[n]?.getD 0).toNat : Int) != 95) && !(decide (((s[n]?.getD 0).toNat : Int) ≥ 48) && decide (((s[n]?.getD 0).toNat : Int) ≤ 57))
def badA (s : List UInt8) (n : Nat) : Bool := !lettB s n && (n == 0 || otherB s n)
def badB (s : List UInt8) (n : Nat) : Bool := !lettB s n && otherB s n
theorem byte_q {s : List UInt8} {n : Nat} (h : n < s.length) : byteAt s (n : Int) = ((s[n]?.getD 0).toNat : Int) := by
  rw [byteAt_at h, List.getElem?_eq_getElem h]; rfl
theorem eq0 (n : Nat) : ((n : Int) == 0) = (n == 0) := by cases n <;> simp <;> omega

theorem l26_val {s : List UInt8} (hl : s.length ≤ big) : l26_0 (s, (s.length : Int), 0) = some (seek (badA s) (fun _ => 0) 1 (List.range s.length), s, (s.length : Int), (((List.range s.length).findIdx (badA s) : Nat) : Int)) := by
  rw [l26_0_eq]
  refine loop_searchI (hd := fun n => (s, (s.length : Int), (n : Int))) (N := s.length) (jx := fun _ => 0) (badA s) 1 (fun n h => ?_) ?_
  · simp only [st26_0, st26_0_0, lt_at h, inB_at h, byte_q h, ev_br, ev_at, cond_true, wrap_succ h hl, br_eq, badA, lettB, otherB, eq0, lt_ge _ 48, gt_le _ 57]
    cases decide (((s[n]?.getD 0).toNat : Int) ≥ 97) <;> cases decide (((s[n]?.getD 0).toNat : Int) ≤ 122) <;> cases (n == 0) <;> cases (((s[n]?.getD 0).toNat : Int) != 95) <;>
      cases decide (((s[n]?.getD 0).toNat : Int) ≥ 48) <;> cases decide (((s[n]?.getD 0).toNat : Int) ≤ 57) <;> rfl
  · simp [st26_0, st26_0_0]
def nameB (s : List UInt8) : Bool := !(List.range s.length).any (badA s) && (decide ((s.length : Int) ≥ 1) && decide ((s.length : Int) ≤ 16))
theorem f26_val {s : List UInt8} (hl : s.length ≤ big) : f26 s = some (nameB s) := by
  rw [f26_eq, tr26, l26_val hl, seek_const, nameB]
  cases (List.range s.length).any (badA s) <;> simp <;> cases decide (1 ≤ s.length) <;> simp
theorem l28_val {s : List UInt8} (hl : s.length ≤ big) : l28_0 (s, 0) = some (seek (badB s) (fun _ => 0) 1 (List.range s.length), s, (((List.range s.length).findIdx (badB s) : Nat) : Int)) := by
  rw [l28_0_eq]
  refine loop_searchI (hd := fun n => (s, (n : Int))) (N := s.length) (jx := fun _ => 0) (badB s) 1 (fun n h => ?_) ?_
  · simp only [st28_0, st28_0_0, lt_at h, inB_at h, byte_q h, ev_br, ev_at, cond_true, wrap_succ h hl, br_eq, badB, lettB, otherB, lt_ge _ 48, gt_le _ 57, lt_ge _ 97, gt_le _ 122]
    cases decide (((s[n]?.getD 0).toNat : Int) ≥ 97) <;> cases decide (((s[n]?.getD 0).toNat : Int) ≤ 122) <;> cases (((s[n]?.getD 0).toNat : Int) != 95) <;>
      cases decide (((s[n]?.getD 0).toNat : Int) ≥ 48) <;> cases decide (((s[n]?.getD 0).toNat : Int) ≤ 57) <;> rfl
  · simp [st28_0, st28_0_0]
theorem any_bad {s : List UInt8} (h : 0 < s.length) : (List.range s.length).any (badA s) = (!lettB s 0 || (List.range s.length).any (badB s)) := by
  rw [Bool.eq_iff_iff]
  simp only [List.any_eq_true, List.mem_range, Bool.or_eq_true, badA, badB, Bool.and_eq_true]
  constructor
  · rintro ⟨n, hn, h1, h2⟩
    rcases h2 with h2 | h2
    · left; have : n = 0 := by simpa using h2
      subst this; exact h1
    · right; exact ⟨n, hn, h1, h2⟩
  · rintro (h1 | ⟨n, hn, h1, h2⟩)
    · exact ⟨0, h, h1, .inl rfl⟩
    · exact ⟨n, hn, h1, .inr h2⟩
theorem f28_val {s : List UInt8} (hl : s.length ≤ big) : f28 s = some (nameB s) := by
  rw [f28_eq, tr28, l28_val hl, seek_const]
  by_cases h0 : 0 < s.length
  · have e1 : inB s.length 0 = true := inB_at h0
    have e2 : byteAt s 0 = ((s[0]?.getD 0).toNat : Int) := byte_q h0
    have e3 : decide ((s.length : Int) ≥ 1) = true := by simp; omega
    have e4 : decide ((s.length : Int) < 1) = false := by simp; omega
    rw [nameB, any_bad h0]
    simp only [e1, e2, e3, e4, lettB, gt_le _ 16, lt_ge _ 97, gt_le _ 122, br_eq]
    cases decide (((s[0]?.getD 0).toNat : Int) ≥ 97) <;> cases decide (((s[0]?.getD 0).toNat : Int) ≤ 122) <;> cases (List.range s.length).any (badB s) <;> cases decide ((s.length : Int) ≤ 16) <;> rfl
  · have e0 : s.length = 0 := by omega
    rw [nameB, e0]; rfl

/-- What is wrong with the n-th order: the way out of the loop. -/
def wrong (l : List H) (n : Nat) : Nat := match l[n]? with
  | none => 9
  | some h => bif !goodB h then 0 else bif !nameB h.src then 1 else match n with
    | 0 => 9
    | m + 1 => match l[m]? with
      | some g => bif decide (h.id ≤ g.id) then 2 else 9
      | none => 9
def okS (l : List H) : Prop := l.length ≤ big ∧ ∀ h ∈ l, h.src.length ≤ big

theorem l10_val {l : List H} (hl : okS l) : l10_0 (E l, E l, (l.length : Int), 0) = some (seek (fun n => wrong l n != 9) (wrong l) 3 (List.range l.length), E l, E l, (l.length : Int), (((List.range l.length).findIdx (fun n => wrong l n != 9) : Nat) : Int)) := by
  rw [l10_0_eq]
  refine loop_searchI (hd := fun n => (E l, E l, (l.length : Int), (n : Int))) (N := l.length) (jx := wrong l) (fun n => wrong l n != 9) 3 (fun n h => ?_) ?_
  · have hm : l[n].src.length ≤ big := hl.2 _ (List.getElem_mem h)
    simp only [st10_0, st10_0_0, lt_at h, ok_at h, q0 h, q1 h, q2 h, q3 h, q4 h, q5 h, q6 h, ev_br, ev_at, cond_true, wrap_succ h hl.1, f25_val, f26_val hm, ev_bi_some, wrong, List.getElem?_eq_getElem h]
    cases goodB l[n] <;> cases nameB l[n].src <;> try rfl
    cases n with
    | zero => rfl
    | succ m =>
      have h' : m < l.length := by omega
      rw [wrap_pred (by omega) (by have := hl.1; omega)]
      simp only [Nat.add_sub_cancel, ok_at h', q0 h', List.getElem?_eq_getElem h']
      cases decide (l[m + 1].id ≤ l[m].id) <;> simp <;> omega
  · simp [st10_0, st10_0_0]
theorem l11_val {l : List H} (hl : okS l) : l11_0 (E l, 0) = some (seek (fun n => wrong l n != 9) (wrong l) 3 (List.range l.length), E l, (((List.range l.length).findIdx (fun n => wrong l n != 9) : Nat) : Int)) := by
  rw [l11_0_eq]
  refine loop_searchI (hd := fun n => (E l, (n : Int))) (N := l.length) (jx := wrong l) (fun n => wrong l n != 9) 3 (fun n h => ?_) ?_
  · have hm : l[n].src.length ≤ big := hl.2 _ (List.getElem_mem h)
    simp only [st11_0, st11_0_0, List.length_map, lt_at h, ok_at h, q0 h, q1 h, q2 h, q3 h, q4 h, q5 h, q6 h, ev_br, ev_at, cond_true, wrap_succ h hl.1, f27_val, f28_val hm, ev_bi_some, wrong, List.getElem?_eq_getElem h]
    cases goodB l[n] <;> cases nameB l[n].src <;> try rfl
    cases n with
    | zero => rfl
    | succ m =>
      have h' : m < l.length := by omega
      rw [wrap_pred (by omega) (by have := hl.1; omega)]
      simp only [Nat.add_sub_cancel, ok_at h', q0 h', List.getElem?_eq_getElem h']
      cases decide (l[m + 1].id ≤ l[m].id) <;> simp <;> omega
  · simp [st11_0, st11_0_0]

def codeOf (k : Nat) : Int := match k with
  | 0 => 1
  | 1 => 4
  | 2 => 10
  | _ => 0
/-- What Check says of a list. -/
def chk (l : List H) : Int := bif decide ((l.length : Int) > 64) then 5 else codeOf (seek (fun n => wrong l n != 9) (wrong l) 3 (List.range l.length))
theorem wrong_cases (l : List H) (n : Nat) : wrong l n = 0 ∨ wrong l n = 1 ∨ wrong l n = 2 ∨ wrong l n = 9 := by
  unfold wrong
  cases l[n]? with
  | none => simp
  | some h =>
    simp only
    cases goodB h <;> cases nameB h.src <;> simp
    cases n with
    | zero => simp
    | succ m =>
      simp only
      cases l[m]? with
      | none => simp
      | some g => by_cases hq : h.id ≤ g.id <;> simp [hq]
theorem seek_cases (l : List H) : seek (fun n => wrong l n != 9) (wrong l) 3 (List.range l.length) = 0 ∨ seek (fun n => wrong l n != 9) (wrong l) 3 (List.range l.length) = 1 ∨ seek (fun n => wrong l n != 9) (wrong l) 3 (List.range l.length) = 2 ∨ seek (fun n => wrong l n != 9) (wrong l) 3 (List.range l.length) = 3 := by
  unfold seek
  split
  · rename_i x hx
    have := List.find?_some hx
    rcases wrong_cases l x with h | h | h | h <;> simp [h] at this ⊢
  · simp
theorem f10_val {l : List H} (hl : okS l) : f10 (E l) = some (chk l) := by
  rw [f10_eq, tr10, List.length_map, l10_val hl, chk]
  rcases seek_cases l with h | h | h | h <;> rw [h] <;> cases decide ((l.length : Int) > 64) <;> rfl
theorem f11_val {l : List H} (hl : okS l) : f11 (E l) = some (chk l) := by
  rw [f11_eq, tr11, List.length_map, l11_val hl, chk]
  rcases seek_cases l with h | h | h | h <;> rw [h] <;> cases decide ((l.length : Int) > 64) <;> rfl

end Go.Proofs.H23

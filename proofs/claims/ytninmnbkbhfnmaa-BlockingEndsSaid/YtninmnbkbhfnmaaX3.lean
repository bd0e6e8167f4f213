/- Place; equality of lists; the law of Place. -/
import Derived.Test.YtninmnbkbhfnmaaX2
set_option linter.unusedVariables false
set_option linter.unusedSimpArgs false
set_option linter.unnecessarySimpa false
namespace Go.Proofs.H23
open Go Go.Eng
set_option maxRecDepth 20000

def sameH (a b : H) : Bool := (a.id == b.id && (a.acc == b.acc && (a.kind == b.kind && (a.amt == b.amt && (a.frm == b.frm && (a.to == b.to && (a.src == b.src && true)))))))
theorem sameH_eq (a b : H) : sameH a b = decide (a = b) := by
  rw [Bool.eq_iff_iff]
  cases a; cases b
  simp [sameH]
theorem l15_val {l m : List H} (hl : l.length ≤ big) (hm : l.length = m.length) : l15_0 (E l, E m, 0) = some (seek (fun n => !sameH (l[n]?.getD ⟨0,0,0,0,0,0,[]⟩) (m[n]?.getD ⟨0,0,0,0,0,0,[]⟩)) (fun _ => 0) 1 (List.range l.length), E l, E m, (((List.range l.length).findIdx (fun n => !sameH (l[n]?.getD ⟨0,0,0,0,0,0,[]⟩) (m[n]?.getD ⟨0,0,0,0,0,0,[]⟩)) : Nat) : Int)) := by
  rw [l15_0_eq]
  refine loop_searchI (hd := fun n => (E l, E m, (n : Int))) (N := l.length) (jx := fun _ => 0) (fun n => !sameH (l[n]?.getD ⟨0,0,0,0,0,0,[]⟩) (m[n]?.getD ⟨0,0,0,0,0,0,[]⟩)) 1 (fun n h => ?_) ?_
  · have h' : n < m.length := by omega
    simp only [st15_0, st15_0_0, List.length_map, lt_at h, ok_at h, ok_at h', q0 h, q1 h, q2 h, q3 h, q4 h, q5 h, q6 h, q0 h', q1 h', q2 h', q3 h', q4 h', q5 h', q6 h', ev_br, ev_at, cond_true, wrap_succ h hl, if_true, List.getElem?_eq_getElem h, List.getElem?_eq_getElem h', Option.getD_some]
    change (bif !(sameH l[n] m[n]) then _ else _) = _
    cases sameH l[n] m[n] <;> rfl
  · simp [st15_0, st15_0_0]
theorem f15_val {l m : List H} (hl : l.length ≤ big) : f15 (E l) (E m) = some (decide (l = m)) := by
  rw [f15_eq, tr15, List.length_map, List.length_map]
  by_cases hlen : l.length = m.length
  · rw [l15_val hl hlen, seek_const]
    have e : ((l.length : Int) != (m.length : Int)) = false := by simp [hlen]
    have key : (List.range l.length).any (fun n => !sameH (l[n]?.getD ⟨0,0,0,0,0,0,[]⟩) (m[n]?.getD ⟨0,0,0,0,0,0,[]⟩)) = !decide (l = m) := by
      rw [Bool.eq_iff_iff]
      simp only [List.any_eq_true, List.mem_range, sameH_eq, Bool.not_eq_true', decide_eq_false_iff_not]
      constructor
      · rintro ⟨n, hn, hx⟩ rfl; exact hx rfl
      · intro hne
        apply Classical.byContradiction
        intro hall
        apply hne
        apply List.ext_getElem hlen
        intro n h1 h2
        apply Classical.byContradiction
        intro hx
        exact hall ⟨n, h1, by simpa [h1, h2] using hx⟩
    rw [key]
    simp only [ev_br, e]
    cases decide (l = m) <;> rfl
  · have e : ((l.length : Int) != (m.length : Int)) = true := by simp; omega
    have e2 : decide (l = m) = false := decide_eq_false (fun h => hlen (by rw [h]))
    simp only [ev_br, e, e2]; rfl

/-- What Place gives. -/
def placeS (l : List H) (b : H) : List H × Int :=
  bif chk l != 0 then ([], 1) else bif chk [b] != 0 then ([], 1)
  else if h : 0 < l.length then (bif decide (b.id ≤ l[l.length - 1].id) then ([], 10) else bif (l.length : Int) == 64 then ([], 5) else (l ++ [b], 0))
  else (l ++ [b], 0)

theorem chk_le {l : List H} (h : chk l = 0) : l.length ≤ 64 := by
  unfold chk at h
  by_cases hq : (l.length : Int) > 64
  · simp [hq] at h
  · omega
theorem okS_one {b : H} (h : b.src.length ≤ big) : okS [b] := ⟨by simp [big], by simpa using h⟩
theorem len64 {n : Nat} (h : n ≤ 64) : decide ((n : Int) ≥ 64) = ((n : Int) == 64) := by
  rw [Bool.eq_iff_iff]; simp; omega
theorem isE (l : List H) : E l = [] ↔ l = [] := by simp

theorem f13_val {l : List H} {b : H} (hl : okS l) (hb : b.src.length ≤ big) : f13 (E l) b.id b.acc b.kind b.amt b.frm b.to b.src = some (E (placeS l b).1, (placeS l b).2) := by
  rw [f13_eq, tr13, f10_val hl]
  have e1 : f10 [AV.agg [AV.int IntKind.i64 b.id, AV.int IntKind.i64 b.acc, AV.int IntKind.i64 b.kind, AV.int IntKind.i64 b.amt, AV.int IntKind.i64 b.frm, AV.int IntKind.i64 b.to, AV.str b.src]] = some (chk [b]) := f10_val (okS_one hb)
  rw [e1]
  unfold placeS
  simp only [ev_bi_some, sm_some, gv_some, br_true, ev_br, ev_at, List.length_map]
  cases h1 : (chk l != 0)
  · have hle := chk_le (by simpa using h1)
    cases h2 : (chk [b] != 0)
    · by_cases h0 : 0 < l.length
      · have hlt : l.length - 1 < l.length := by omega
        have e3 : decide ((l.length : Int) > 0) = true := decide_eq_true (by omega)
        have e4 : decide (l.length = 0) = false := decide_eq_false (by omega)
        have e5 : decide (l.length ≠ 0) = true := decide_eq_true (by omega)
        have e6 : decide (l.length * 64 ≤ lim) = true := decide_eq_true (by simp only [lim]; omega)
        have e7 : room (l.length + 1) 64 = true := room_of (by simp only [lim]; omega)
        simp only [dif_pos h0, cond_false, e3, cond_true, wrap_pred h0 hl.1, ok_at hlt, q0 hlt, e4, e5, e6, e7, Bool.and_self]
        cases decide (b.id ≤ l[l.length - 1].id) <;> cases ((l.length : Int) == 64) <;> simp [H.av]
      · have h00 : l = [] := by apply List.eq_nil_of_length_eq_zero; omega
        subst h00
        simp [H.av]
    · rfl
  · rfl
theorem f14_val {l : List H} {b : H} (hl : okS l) (hb : b.src.length ≤ big) : f14 (E l) b.id b.acc b.kind b.amt b.frm b.to b.src = some (E (placeS l b).1, (placeS l b).2) := by
  rw [f14_eq, tr14, f11_val hl]
  have e1 : f11 [AV.agg [AV.int IntKind.i64 b.id, AV.int IntKind.i64 b.acc, AV.int IntKind.i64 b.kind, AV.int IntKind.i64 b.amt, AV.int IntKind.i64 b.frm, AV.int IntKind.i64 b.to, AV.str b.src]] = some (chk [b]) := f11_val (okS_one hb)
  rw [e1]
  unfold placeS
  simp only [ev_bi_some, sm_some, gv_some, br_true, ev_br, ev_at, List.length_map]
  cases h1 : (chk l != 0)
  · have hle := chk_le (by simpa using h1)
    cases h2 : (chk [b] != 0)
    · by_cases h0 : 0 < l.length
      · have hlt : l.length - 1 < l.length := by omega
        have e3 : decide ((l.length : Int) > 0) = true := decide_eq_true (by omega)
        have e4 : decide (l.length = 0) = false := decide_eq_false (by omega)
        have e5 : decide (l.length ≠ 0) = true := decide_eq_true (by omega)
        have e6 : room l.length 64 = true := room_of (by simp only [lim]; omega)
        have e7 : room (l.length + 1) 64 = true := room_of (by simp only [lim]; omega)
        simp only [dif_pos h0, cond_false, e3, cond_true, wrap_pred h0 hl.1, ok_at hlt, q0 hlt, e4, e5, e6, e7, Bool.and_self, len64 hle, Bool.false_and]
        cases decide (b.id ≤ l[l.length - 1].id) <;> cases ((l.length : Int) == 64) <;> simp [H.av]
      · have h00 : l = [] := by apply List.eq_nil_of_length_eq_zero; omega
        subst h00
        simp [H.av]
    · rfl
  · rfl

theorem chk_zero {l : List H} : chk l = 0 ↔ l.length ≤ 64 ∧ ∀ n < l.length, wrong l n = 9 := by
  unfold chk
  by_cases hq : (l.length : Int) > 64
  · simp [hq]; omega
  · have hle : l.length ≤ 64 := by omega
    have e : decide ((l.length : Int) > 64) = false := decide_eq_false hq
    rw [e, cond_false]
    constructor
    · intro h
      refine ⟨hle, fun n hn => ?_⟩
      apply Classical.byContradiction
      intro hw
      unfold seek at h
      cases hf : (List.range l.length).find? (fun n => wrong l n != 9) with
      | none =>
        have := List.find?_eq_none.1 hf n (by simpa using hn)
        simp at this; exact hw this
      | some x =>
        rw [hf] at h
        have hx := List.find?_some hf
        rcases wrong_cases l x with h' | h' | h' | h' <;> simp [h', codeOf] at h hx
    · rintro ⟨_, h⟩
      rw [seek_none]
      · rfl
      · simp only [List.any_eq_false, List.mem_range, bne_iff_ne, ne_eq, Decidable.not_not]
        exact h
theorem place_cases (l : List H) (b : H) : (placeS l b).1 = [] ∧ (placeS l b).2 ≠ 0 ∨ placeS l b = (l ++ [b], 0) ∧ chk l = 0 ∧ chk [b] = 0 ∧ l.length < 64 ∧ ∀ h0 : 0 < l.length, ¬ b.id ≤ l[l.length - 1].id := by
  unfold placeS
  cases h1 : (chk l != 0)
  · have h1' : chk l = 0 := by simpa using h1
    have hle := chk_le h1'
    cases h2 : (chk [b] != 0)
    · have h2' : chk [b] = 0 := by simpa using h2
      by_cases h0 : 0 < l.length
      · simp only [cond_false, dif_pos h0]
        by_cases h3 : b.id ≤ l[l.length - 1].id
        · simp [h3]
        · cases h4 : ((l.length : Int) == 64)
          · have h4' : l.length ≠ 64 := by intro h; rw [h] at h4; simp at h4
            simp only [h3, decide_false, cond_false]
            exact .inr ⟨trivial, h1', h2', by omega, fun _ => by simp⟩
          · simp [h3]
      · simp only [cond_false, dif_neg h0]
        exact .inr ⟨trivial, h1', h2', by omega, fun h => absurd h h0⟩
    · simp
  · simp
theorem chk_app {l : List H} {b : H} (h1 : chk l = 0) (h2 : chk [b] = 0) (hlt : l.length < 64) (hid : ∀ h0 : 0 < l.length, ¬ b.id ≤ l[l.length - 1].id) : chk (l ++ [b]) = 0 := by
  have h1' := chk_zero.1 h1
  have h2' := chk_zero.1 h2
  have hb : wrong [b] 0 = 9 := h2'.2 0 (by simp)
  simp only [wrong, List.getElem?_cons_zero] at hb
  refine chk_zero.2 ⟨by simp; omega, fun n hn => ?_⟩
  simp only [List.length_append, List.length_cons, List.length_nil] at hn
  by_cases hn' : n < l.length
  · have := h1'.2 n hn'
    unfold wrong at this ⊢
    rw [List.getElem?_append_left hn']
    cases n with
    | zero => exact this
    | succ m => simp only [List.getElem?_append_left (show m < l.length by omega)]; exact this
  · have hn2 : n = l.length := by omega
    subst hn2
    unfold wrong
    rw [List.getElem?_append_right (Nat.le_refl _)]
    simp only [Nat.sub_self, List.getElem?_cons_zero]
    cases hg : goodB b <;> simp [hg] at hb ⊢
    cases hnm : nameB b.src <;> simp [hnm] at hb ⊢
    cases hl : l.length with
    | zero => rfl
    | succ m =>
      have hm : m < l.length := by omega
      simp only [List.getElem?_append_left hm, List.getElem?_eq_getElem hm]
      have := hid (by omega)
      have e : l[l.length - 1] = l[m] := by congr 1; omega
      rw [e] at this
      rw [decide_eq_false this]; rfl
theorem chk_place {l : List H} {b : H} (h : (placeS l b).2 = 0) : chk (placeS l b).1 = 0 := by
  rcases place_cases l b with ⟨_, h'⟩ | ⟨he, h1, h2, h3, h4⟩
  · exact absurd h h'
  · rw [he]; exact chk_app h1 h2 h3 h4
theorem okS_place {l : List H} {b : H} (hl : okS l) (hb : b.src.length ≤ big) : okS (placeS l b).1 := by
  rcases place_cases l b with ⟨h', _⟩ | ⟨he, h1, h2, h3, h4⟩
  · rw [h']; exact ⟨by simp [big], by simp⟩
  · rw [he]
    refine ⟨by simp [big]; omega, fun x hx => ?_⟩
    simp only [List.mem_append, List.mem_singleton] at hx
    rcases hx with hx | rfl
    · exact hl.2 x hx
    · exact hb

theorem f12_val : f12 = some true := by rw [f12_eq]; rfl
theorem f4_val {l : List H} {b : H} (hl : okS l) (hb : b.src.length ≤ big) : f4 (E l) b.id b.acc b.kind b.amt b.frm b.to b.src = some true := by
  have e : f15 (E (placeS l b).1) (E (placeS l b).1) = some true := by
    rw [f15_val (okS_place hl hb).1]; simp
  rw [f4_eq, tr4, f9_val hl.1, f12_val, f13_val hl hb, f14_val hl hb]
  have e2 := f10_val (okS_place hl hb)
  have e3 := @chk_place l b
  simp only [sm_some, gv_some, br_eq, cond_true, cond_some, ev_bi_some, ev_br, ev_at, List.length_map, e, e2, beq_self_eq_true]
  cases (bif bif decide ((l.length : Int) > 100) then true else !!l.any long then true else decide ((b.src.length : Int) > 100))
  · simp only [cond_false]
    by_cases h : (placeS l b).2 = 0
    · rw [e3 h, h]; rfl
    · have e4 : ((placeS l b).2 != 0) = true := by simpa using h
      rw [e4]; rfl
  · rfl

end Go.Proofs.H23

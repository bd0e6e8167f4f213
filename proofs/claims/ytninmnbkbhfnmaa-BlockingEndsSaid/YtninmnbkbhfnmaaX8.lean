/- The law of Lift's ends. -/
import Derived.Test.YtninmnbkbhfnmaaX7
set_option linter.unusedVariables false
set_option linter.unusedSimpArgs false
set_option linter.unnecessarySimpa false
namespace Go.Proofs.H23
open Go Go.Eng
set_option maxRecDepth 20000

theorem adj_pair : ∀ (xs : List Int), (∀ n (h : n + 1 < xs.length), xs[n] < xs[n + 1]) → xs.Pairwise (· < ·)
  | [], _ => List.Pairwise.nil
  | [x], _ => by simp
  | x :: y :: xs, h => by
    have h1 : (y :: xs).Pairwise (· < ·) := adj_pair (y :: xs) fun n hn => by
      have := h (n + 1) (by simp at hn ⊢; omega)
      simpa using this
    have h0 : x < y := h 0 (by simp)
    refine List.Pairwise.cons (fun z hz => ?_) h1
    rcases List.mem_cons.1 hz with rfl | hz
    · exact h0
    · exact Int.lt_trans h0 (List.rel_of_pairwise_cons h1 hz)
theorem chk_iff {l : List H} : chk l = 0 ↔ l.length ≤ 64 ∧ (∀ h ∈ l, goodB h = true ∧ nameB h.src = true) ∧ (l.map H.id).Pairwise (· < ·) := by
  rw [chk_zero]
  constructor
  · rintro ⟨h1, h2⟩
    refine ⟨h1, fun h hh => ?_, adj_pair _ fun n hn => ?_⟩
    · obtain ⟨n, hn, rfl⟩ := List.mem_iff_getElem.1 hh
      have := h2 n hn
      unfold wrong at this
      rw [List.getElem?_eq_getElem hn] at this
      simp only at this
      cases hg : goodB l[n] <;> cases hq : nameB l[n].src <;> simp [hg, hq] at this ⊢
    · simp only [List.length_map] at hn
      have := h2 (n + 1) hn
      unfold wrong at this
      rw [List.getElem?_eq_getElem hn] at this
      simp only [List.getElem?_eq_getElem (show n < l.length by omega)] at this
      simp only [List.getElem_map]
      cases hg : goodB l[n + 1] <;> cases hq : nameB l[n + 1].src <;> simp [hg, hq] at this
      by_cases hle : l[n + 1].id ≤ l[n].id
      · simp [hle] at this
      · omega
  · rintro ⟨h1, h2, h3⟩
    refine ⟨h1, fun n hn => ?_⟩
    unfold wrong
    rw [List.getElem?_eq_getElem hn]
    obtain ⟨g1, g2⟩ := h2 _ (List.getElem_mem hn)
    simp only [g1, g2, Bool.not_true, cond_false]
    cases n with
    | zero => rfl
    | succ m =>
      have hm : m < l.length := by omega
      simp only [List.getElem?_eq_getElem hm]
      have := List.pairwise_iff_getElem.1 h3 m (m + 1) (by simpa using hm) (by simpa using hn) (by omega)
      simp only [List.getElem_map] at this
      rw [decide_eq_false (by omega)]; rfl
theorem dayB_le {d : Int} (h : dayB d = true) : 0 ≤ d ∧ d ≤ 73048 := by simpa [dayB] using h
theorem l8_val {m : List H} (hm : m.length ≤ big) (L : List AV) (id acc day amt : Int) : l8_0 (L, id, E m, 0, acc, day, amt) = some (seek (fun h => idB id h && decide (h.to ≥ day)) (fun _ => 0) 1 m, L, id, E m, ((m.findIdx (fun h => idB id h && decide (h.to ≥ day)) : Nat) : Int), acc, day, amt) := by
  rw [l8_0_eq]
  refine loop_search (hd := fun n => (L, id, E m, (n : Int), acc, day, amt)) (jx := fun _ => 0) (fun h => idB id h && decide (h.to ≥ day)) 1 (fun n h => ?_) ?_
  · simp only [st8_0, st8_0_0, List.length_map, lt_at h, ok_at h, q0 h, q5 h, ev_br, ev_at, cond_true, wrap_succ h hm]
    rw [show (m[n].id == id) = idB id m[n] from rfl]
    cases idB id m[n] <;> cases decide (m[n].to ≥ day) <;> rfl
  · simp [st8_0, st8_0_0]
/-- The two ways in which an order is ended. -/
theorem lift_cases {l : List H} {id day : Int} (hd : dayB day = true) : (liftS l id day).1 = [] ∧ ((liftS l id day).2 = 11 ∨ (liftS l id day).2 = 23) ∨
    ∃ i, ∃ hi : i < l.length, l[i].id = id ∧ day ≤ l[i].to ∧ (liftS l id day = (l.take i ++ l.drop (i + 1), 0) ∧ l[i].frm > day - 1 ∨ liftS l id day = (l.take i ++ setTo l[i] (day - 1) :: l.drop (i + 1), 0) ∧ l[i].frm ≤ day - 1) := by
  obtain ⟨d0, d1⟩ := dayB_le hd
  unfold liftS
  rw [wrap64 (n := day - 1) (by omega) (by omega)]
  by_cases hi : l.findIdx (idB id) < l.length
  · have hid : idB id l[l.findIdx (idB id)] = true := List.findIdx_getElem
    generalize l.findIdx (idB id) = i at hi hid
    rw [dif_pos hi, hd]
    by_cases h2 : l[i].to < day
    · simp [h2]
    · by_cases h3 : l[i].frm > day - 1
      · refine .inr ⟨i, hi, by simpa [idB] using hid, by omega, .inl ⟨?_, h3⟩⟩
        rw [decide_eq_false h2, decide_eq_true h3]; rfl
      · refine .inr ⟨i, hi, by simpa [idB] using hid, by omega, .inr ⟨?_, by omega⟩⟩
        rw [decide_eq_false h2, decide_eq_false h3]
        simp only [Bool.not_true, cond_false, setTo]
        rw [List.set_eq_take_append_cons_drop, if_pos hi]
  · rw [dif_neg hi]; simp
theorem split_at {l : List H} {i : Nat} (hi : i < l.length) : l = l.take i ++ l[i] :: l.drop (i + 1) := by
  rw [← drop_at hi, List.take_append_drop]
theorem ends {A B : List H} {h : H} {id day : Int} (hd : dayB day = true) (hc : chk (A ++ h :: B) = 0) (hid : h.id = id) (hto : day ≤ h.to) {m : List H} (hm : m = A ++ B ∧ h.frm > day - 1 ∨ m = A ++ setTo h (day - 1) :: B ∧ h.frm ≤ day - 1) :
    m.any (fun h => idB id h && decide (h.to ≥ day)) = false ∧ chk m = 0 ∧ m.length ≤ (A ++ h :: B).length ∧ ∀ acc amt, (m.filter (actB acc (day - 1))).any (denB amt) = ((A ++ h :: B).filter (actB acc (day - 1))).any (denB amt) ∧
      (m.filter (actB acc (day - 1))).foldl resA 0 = ((A ++ h :: B).filter (actB acc (day - 1))).foldl resA 0 := by
  obtain ⟨d0, d1⟩ := dayB_le hd
  obtain ⟨c1, c2, c3⟩ := chk_iff.1 hc
  have hne : ∀ x, x ∈ A ∨ x ∈ B → x.id ≠ id := by
    intro x hx
    rw [List.map_append, List.map_cons, List.pairwise_append, List.pairwise_cons] at c3
    obtain ⟨p1, ⟨p2, p3⟩, p4⟩ := c3
    rcases hx with hx | hx
    · have := p4 x.id (List.mem_map.2 ⟨x, hx, rfl⟩) h.id (by simp)
      omega
    · have := p2 x.id (List.mem_map.2 ⟨x, hx, rfl⟩)
      omega
  rcases hm with ⟨rfl, hf⟩ | ⟨rfl, hf⟩
  · refine ⟨?_, ?_, by simp, ?_⟩
    · simp only [List.any_eq_false, Bool.and_eq_true, idB, beq_iff_eq, not_and]
      intro x hx he
      exact absurd he (hne x (List.mem_append.1 hx))
    · refine chk_iff.2 ⟨by simp at c1 ⊢; omega, fun x hx => c2 x ?_, ?_⟩
      · simp only [List.mem_append, List.mem_cons] at hx ⊢
        rcases hx with hx | hx
        · exact .inl hx
        · exact .inr (.inr hx)
      · refine c3.sublist ?_
        rw [List.map_append, List.map_append, List.map_cons]
        exact List.Sublist.append (List.Sublist.refl _) (List.sublist_cons_self _ _)
    · intro acc amt
      have : actB acc (day - 1) h = false := by simp [actB]; omega
      simp [List.filter_append, List.filter_cons, this]
  · have hset : (setTo h (day - 1)).id = h.id := rfl
    refine ⟨?_, ?_, by simp, ?_⟩
    · simp only [List.any_eq_false, Bool.and_eq_true, idB, beq_iff_eq, not_and, decide_eq_true_eq]
      intro x hx he
      simp only [List.mem_append, List.mem_cons] at hx
      rcases hx with hx | rfl | hx
      · exact absurd he (hne x (.inl hx))
      · simp [setTo]; omega
      · exact absurd he (hne x (.inr hx))
    · refine chk_iff.2 ⟨by simpa using c1, fun x hx => ?_, by simpa [setTo] using c3⟩
      simp only [List.mem_append, List.mem_cons] at hx
      rcases hx with hx | rfl | hx
      · exact c2 x (by simp [hx])
      · obtain ⟨g1, g2⟩ := c2 h (by simp)
        refine ⟨?_, g2⟩
        simp only [goodB, setTo, Bool.and_eq_true, Bool.not_eq_true', Bool.or_eq_false_iff] at g1 ⊢
        obtain ⟨⟨⟨⟨⟨⟨⟨a1, a2⟩, a3⟩, a4⟩, a5⟩, a6⟩, a7⟩, a8⟩ := g1
        have f0 : 0 ≤ h.frm := (dayB_le (by simpa using a5)).1
        refine ⟨⟨⟨⟨⟨⟨⟨a1, a2⟩, a3⟩, a4⟩, a5⟩, ?_⟩, ?_⟩, a8⟩
        · simp [dayB]; omega
        · simp; omega
      · exact c2 x (by simp [hx])
    · intro acc amt
      have e : actB acc (day - 1) (setTo h (day - 1)) = actB acc (day - 1) h := by
        have e1 : decide (day - 1 ≤ (setTo h (day - 1)).to) = true := by simp [setTo]
        have e2 : decide (day - 1 ≤ h.to) = true := by simp; omega
        unfold actB
        rw [e1, e2]; rfl
      have e3 : denB amt (setTo h (day - 1)) = denB amt h := rfl
      have e4 : ∀ s, resA s (setTo h (day - 1)) = resA s h := fun _ => rfl
      simp only [List.filter_append, List.filter_cons, e, List.any_append, List.foldl_append]
      cases actB acc (day - 1) h
      · simp
      · simp [e3, e4]
theorem okS_sub {l m : List H} (hl : okS l) (h1 : m.length ≤ l.length) (h2 : ∀ x ∈ m, ∃ y ∈ l, x.src = y.src) : okS m :=
  ⟨Nat.le_trans h1 hl.1, fun x hx => by obtain ⟨y, hy, he⟩ := h2 x hx; rw [he]; exact hl.2 y hy⟩
theorem f8_val {l : List H} (hl : okS l) (id acc day amt : Int) : f8 (E l) id acc day amt = some true := by
  rw [f8_eq, tr8, f9_val hl.1, f12_val, f11_val hl, f24_val]
  simp only [sm_some, gv_some, br_eq, cond_true, cond_some, ev_bi_some, ev_br, ev_at, List.length_map]
  cases hc : (bif (bif (bif decide ((l.length : Int) > 100) then true else !!l.any long) then true else chk l != 0) then true else !dayB day)
  · simp only [cond_false]
    have hchk : chk l = 0 := by
      cases h1 : (chk l != 0)
      · simpa using h1
      · rw [h1] at hc
        cases hq : (bif decide ((l.length : Int) > 100) then true else !!l.any long) <;> rw [hq] at hc <;> simp at hc
    have hd : dayB day = true := by
      cases h1 : dayB day
      · rw [h1] at hc
        cases hq : (bif (bif decide ((l.length : Int) > 100) then true else !!l.any long) then true else chk l != 0) <;> rw [hq] at hc <;> simp at hc
      · rfl
    obtain ⟨d0, d1⟩ := dayB_le hd
    have hlen := chk_le hchk
    have g1 : few l := few_of (by omega)
    have hw : IntKind.i64.wrap (day - 1) = day - 1 := wrap64 (by omega) (by omega)
    rw [f16_val g1]
    simp only [ev_bi_some, ev_br, ev_at]
    rcases lift_cases (l := l) (id := id) hd with ⟨h1, h2⟩ | ⟨i, hi, hid, hto, hcase⟩
    · rcases h2 with h2 | h2 <;> rw [h1, h2] <;> simp
    · have hsp := split_at hi
      have hm : ∃ m, liftS l id day = (m, 0) ∧ (m = l.take i ++ l.drop (i + 1) ∧ l[i].frm > day - 1 ∨ m = l.take i ++ setTo l[i] (day - 1) :: l.drop (i + 1) ∧ l[i].frm ≤ day - 1) := by
        rcases hcase with ⟨h, hf⟩ | ⟨h, hf⟩
        · exact ⟨_, h, .inl ⟨rfl, hf⟩⟩
        · exact ⟨_, h, .inr ⟨rfl, hf⟩⟩
      obtain ⟨m, hme, hmc⟩ := hm
      obtain ⟨k1, k2, k3, k4⟩ := ends hd (by rw [← hsp]; exact hchk) hid hto hmc
      rw [← hsp] at k3 k4
      have g2 : few m := few_of (by omega)
      have okm : okS m := okS_sub hl k3 (by
        intro x hx
        rcases hmc with ⟨rfl, _⟩ | ⟨rfl, _⟩
        · simp only [List.mem_append] at hx
          rcases hx with hx | hx
          · exact ⟨x, List.mem_of_mem_take hx, rfl⟩
          · exact ⟨x, List.mem_of_mem_drop hx, rfl⟩
        · simp only [List.mem_append, List.mem_cons] at hx
          rcases hx with hx | rfl | hx
          · exact ⟨x, List.mem_of_mem_take hx, rfl⟩
          · exact ⟨l[i], List.getElem_mem hi, rfl⟩
          · exact ⟨x, List.mem_of_mem_drop hx, rfl⟩)
      rw [hme]
      have e0 : ((0 : Int) != 0) = false := rfl
      simp only [e0, cond_false, l8_val (few_big g2), seek_const, k1]
      simp only [cond_false, pj_some, ev_bi_some, ev_br, ev_at, f10_val okm, k2, f20_val g2, f20_val g1, f22_val g2, f22_val g1, hw, k4, if_true]
      simp [f10_val okm, k2, f20_val g2, f20_val g1, f22_val g2, f22_val g1, hw, (k4 _ _).1, (k4 _ 0).2]
  · rfl

end Go.Proofs.H23

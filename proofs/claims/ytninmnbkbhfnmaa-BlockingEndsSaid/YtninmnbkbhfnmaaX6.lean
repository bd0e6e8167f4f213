/- Lift: what both give; the law of Lift. -/
import Derived.Test.YtninmnbkbhfnmaaX5
set_option linter.unusedVariables false
set_option linter.unusedSimpArgs false
set_option linter.unnecessarySimpa false
namespace Go.Proofs.H23
open Go Go.Eng
set_option maxRecDepth 20000

def setTo (h : H) (d : Int) : H := { h with to := d }
theorem snapB_own {h : Heap} {id sz k n : Nat} {es : List AV} {fz : Bool} {kd : IntKind} {x : Int} (hl : hlook h id = some (.arr sz es fz)) (hk : k ≤ es.length) : snapB h (n + 2) (.tup [.own id 0 (some k), .int kd x]) = true := by
  simp [snapB, hl, hk]
theorem f16_val {l : List H} (hl : few l) (id day : Int) : f16 (E l) id day = some (E (liftS l id day).1, (liftS l id day).2) := by
  have hb := few_big hl
  rw [f16_eq, tr16, f30_val hb]
  unfold liftS
  by_cases hi : l.findIdx (idB id) < l.length
  · generalize l.findIdx (idB id) = i at hi
    rw [if_pos hi, dif_pos hi]
    have e0 : decide ((i : Int) < 0) = false := decide_eq_false (by omega)
    have e1 : decide (l.length = 0) = false := decide_eq_false (by omega)
    have e2 : decide (l.length ≠ 0) = true := decide_eq_true (by omega)
    have e3 : decide (l.length * 64 ≤ lim) = true := decide_eq_true (by simp only [few, lim] at hl ⊢; omega)
    have e4 : Go.Eng.okS (E l) i 5 1 = true := by rw [okS_map hi]; rfl
    have e5 : setE (E l) i 5 [AV.int IntKind.i64 (IntKind.i64.wrap (day - 1))] = E (l.set i (setTo l[i] (IntKind.i64.wrap (day - 1)))) := setE_map hi rfl
    have hi' : i < (l.set i (setTo l[i] (IntKind.i64.wrap (day - 1)))).length := by simpa using hi
    have e6 : okP [CS.int IntKind.i64] (E (l.set i (setTo l[i] (IntKind.i64.wrap (day - 1))))) i 4 = true := by rw [okP_map hi']; rfl
    have e7 : okP [CS.int IntKind.i64] (E (l.set i (setTo l[i] (IntKind.i64.wrap (day - 1))))) i 5 = true := by rw [okP_map hi']; rfl
    have e8 : intOf (cellN (E (l.set i (setTo l[i] (IntKind.i64.wrap (day - 1))))) i 4) = l[i].frm := by rw [cellN_map hi', List.getElem_set_self]; rfl
    have e9 : intOf (cellN (E (l.set i (setTo l[i] (IntKind.i64.wrap (day - 1))))) i 5) = IntKind.i64.wrap (day - 1) := by rw [cellN_map hi', List.getElem_set_self]; rfl
    simp only [ev_bi_some, ev_br, ev_at, e0, cond_false, f32_val, ok_at hi, cond_true, q5 hi, List.length_map, e1, e2, e3, Bool.and_self, inB_at hi, Int.toNat_natCast, e4, e5, inB_at hi', e6, e7, e8, e9, wrap_succ hi hb, List.length_set]
    cases dayB day
    · rfl
    · cases decide (l[i].to < day)
      · cases decide (l[i].frm > IntKind.i64.wrap (day - 1))
        · rfl
        · obtain ⟨D, hD, hD2, hD3⟩ := f33_val (L := E (l.set i (setTo l[i] (IntKind.i64.wrap (day - 1))))) (i := i) (by simpa using hi)
          simp only [Bool.not_true, cond_false, cond_true, hD, pl_inl, pr_inr, pl_inr, ev_bi_none, ev_bi_some, ev_br, ev_at]
          have e10 : snapB [(368, Blk.arr 7 D false), (0, Blk.box [AV.int IntKind.i64 id] false)] purse (AV.tup [AV.own 368 0 (some ((E (l.set i (setTo l[i] (IntKind.i64.wrap (day - 1))))).length - 1)), AV.int IntKind.i64 0]) = true :=
            snapB_own (n := 198) (sz := 7) (fz := false) rfl hD3
          rw [e10, cond_true, hD2]
          simp [List.take_set, List.drop_set]
          rw [List.set_eq_of_length_le (by simp; omega)]
      · rfl
  · rw [if_neg hi, dif_neg hi]; rfl

/-- Where the last walk back has stopped. -/
def atP (l : List H) (id : Int) (n : Nat) : Int := match (l.drop n).findIdx? (idB id) with
  | some j => ((n + j : Nat) : Int)
  | none => -1
theorem atP_step {l : List H} {id : Int} {n : Nat} (h : n < l.length) : atP l id n = if idB id l[n] then (n : Int) else atP l id (n + 1) := by
  unfold atP
  rw [drop_at h, List.findIdx?_cons]
  cases hh : idB id l[n]
  · simp only [Bool.false_eq_true, if_false]
    cases (l.drop (n + 1)).findIdx? (idB id) with
    | none => rfl
    | some j => simp; omega
  · simp
theorem atP_end {l : List H} {id : Int} : atP l id l.length = -1 := by simp [atP]
theorem atP_zero {l : List H} {id : Int} : atP l id 0 = if l.findIdx (idB id) < l.length then ((l.findIdx (idB id) : Nat) : Int) else -1 := by
  unfold atP
  rw [List.drop_zero]
  cases hq : l.findIdx? (idB id) with
  | none =>
    have : ∀ x ∈ l, idB id x = false := by simpa using hq
    rw [if_neg]
    rw [List.findIdx_lt_length]
    rintro ⟨x, hx, hp⟩
    rw [this x hx] at hp; cases hp
  | some j =>
    have h1 := List.findIdx?_eq_some_iff_getElem.1 hq
    obtain ⟨hj, hp, hn⟩ := h1
    have : l.findIdx (idB id) = j := by
      rw [List.findIdx_eq hj]
      exact ⟨hp, fun k hk => by simpa using hn k hk⟩
    rw [this, if_pos hj]; simp
theorem wrap_back {n : Nat} (h : n ≤ big) : IntKind.i64.wrap ((n : Int) - 1) = (n : Int) - 1 := by
  simp only [big] at h
  exact wrap64 (by omega) (by omega)
theorem l17_val {l : List H} (hl : l.length ≤ big) (id day : Int) : l17_0 (E l, id, day, -1, IntKind.i64.wrap ((l.length : Int) - 1)) = some (0, E l, id, day, atP l id 0, -1) := by
  rw [l17_0_eq, wrap_back hl]
  have key := loop_steps (st := fun v => (st17_0 v).ev) (fun k => (E l, id, day, atP l id (l.length - k), ((l.length - k : Nat) : Int) - 1)) l.length 0 0 (Nat.zero_le _) ?_ ?_
  · simpa [atP_end] using key
  · intro k _ hk
    obtain ⟨n, hn⟩ : ∃ n, l.length - k = n + 1 := ⟨l.length - k - 1, by omega⟩
    have h : n < l.length := by omega
    have e1 : l.length - (k + 1) = n := by omega
    have e2 : ((n + 1 : Nat) : Int) - 1 = (n : Int) := by omega
    have e3 : decide ((n : Int) ≥ 0) = true := decide_eq_true (by omega)
    rw [hn, e1, e2, atP_step h]
    simp only [st17_0, st17_0_0, e3, ok_at h, q0 h, ev_br, ev_at, cond_true, wrap_back (show n ≤ big by omega)]
    rw [show (l[n].id == id) = idB id l[n] from rfl]
    cases idB id l[n] <;> rfl
  · simp [st17_0, st17_0_0]

/-- What replaces the order that is lifted. -/
def repl (day : Int) (h : H) : List H := bif decide (h.frm ≤ IntKind.i64.wrap (day - 1)) then [setTo h (IntKind.i64.wrap (day - 1))] else []
def liftF (i : Nat) (day : Int) (n : Nat) (o : List H) (h : H) : List H := bif (n : Int) == (i : Int) then o ++ repl day h else o ++ [h]
theorem liftF_after {i : Nat} {day : Int} : ∀ (l : List H) (n : Nat) (o : List H), i < n → foldI (liftF i day) n o l = o ++ l
  | [], n, o, _ => by simp [foldI]
  | h :: l, n, o, hn => by
    have e : ((n : Int) == (i : Int)) = false := by simp; omega
    rw [foldI, liftF_after l (n + 1) _ (by omega), liftF, e]; simp
theorem liftF_at {i : Nat} {day : Int} : ∀ (l : List H) (n : Nat) (o : List H) (hn : n ≤ i) (hi : i - n < l.length), foldI (liftF i day) n o l = o ++ (l.take (i - n) ++ repl day l[i - n] ++ l.drop (i - n + 1))
  | [], n, o, _, hi => by simp at hi
  | h :: l, n, o, hn, hi => by
    by_cases he : n = i
    · subst he
      have e : ((n : Int) == (n : Int)) = true := by simp
      rw [foldI, liftF_after l (n + 1) _ (by omega), liftF, e]; simp
    · have e : ((n : Int) == (i : Int)) = false := by simp; omega
      have hi' : i - (n + 1) < l.length := by simp at hi; omega
      rw [foldI, liftF_at l (n + 1) _ (by omega) hi', liftF, e]
      have e2 : i - n = i - (n + 1) + 1 := by omega
      simp [e2]
def hdL (l : List H) (day : Int) (i : Nat) (n : Nat) (o : List H) : TT17_1 := match o with
  | [] => .inl (E l, day, (i : Int), (n : Int))
  | o => .inr (E l, day, (i : Int), (n : Int), E o)
theorem l171_val {l : List H} (hl : few l) (day : Int) {i : Nat} (hi : i < l.length) : l17_1 (.inl (E l, day, (i : Int), 0)) = some (outJ (l.take i ++ repl day l[i] ++ l.drop (i + 1)), hdL l day i l.length (l.take i ++ repl day l[i] ++ l.drop (i + 1))) := by
  rw [l17_1_eq]
  have hb := few_big hl
  have key := loop_foldI (st := fun v => (st17_1 v).ev) (l := l) (hdL l day i) (liftF i day) outJ (fun n o => o.length ≤ n) (a := []) (by simp) ?_ ?_ ?_
  · rw [liftF_at l 0 [] (Nat.zero_le _) (by simpa using hi)] at key
    simp only [List.nil_append, Nat.sub_zero] at key
    exact key
  · intro n a h ha
    unfold liftF repl
    cases ((n : Int) == (i : Int)) <;> cases decide (l[n].frm ≤ IntKind.i64.wrap (day - 1)) <;> simp <;> omega
  · intro n a h ha
    have hr : room (a.length + 1) 64 = true := room_of (by simp only [few, lim] at hl ⊢; omega)
    have e : ((n : Int) != (i : Int)) = !((n : Int) == (i : Int)) := rfl
    have e2 : AV.agg [AV.int IntKind.i64 l[n].id, AV.int IntKind.i64 l[n].acc, AV.int IntKind.i64 l[n].kind, AV.int IntKind.i64 l[n].amt, AV.int IntKind.i64 l[n].frm, AV.int IntKind.i64 (IntKind.i64.wrap (day - 1)), AV.str l[n].src] = (setTo l[n] (IntKind.i64.wrap (day - 1))).av := rfl
    cases a with
    | nil =>
      simp only [hdL, st17_1, Sum.elim_inl, st17_1_0, List.length_map, lt_at h, ok_at h, q0 h, q1 h, q2 h, q3 h, q4 h, q5 h, q6 h, ev_br, ev_at, cond_true, br_eq, cond_some, ev_bi_some, wrap_succ h hb, av_eq, e, e2]
      unfold liftF repl
      cases ((n : Int) == (i : Int)) <;> cases decide (l[n].frm ≤ IntKind.i64.wrap (day - 1)) <;> rfl
    | cons x a =>
      simp only [hdL, st17_1, Sum.elim_inr, st17_1_1, List.length_map, lt_at h, ok_at h, q0 h, q1 h, q2 h, q3 h, q4 h, q5 h, q6 h, ev_br, ev_at, cond_true, br_eq, cond_some, ev_bi_some, wrap_succ h hb, av_eq, e, e2, hr, map_one]
      unfold liftF repl
      cases ((n : Int) == (i : Int)) <;> cases decide (l[n].frm ≤ IntKind.i64.wrap (day - 1)) <;> simp
  · intro a ha
    cases a <;> simp [hdL, st17_1, st17_1_0, st17_1_1, outJ]
theorem f17_val {l : List H} (hl : few l) (id day : Int) : f17 (E l) id day = some (E (liftS l id day).1, (liftS l id day).2) := by
  have hb := few_big hl
  rw [f17_eq, tr17, List.length_map, l17_val hb, atP_zero]
  unfold liftS
  simp only [pj_some, if_true, ev_bi_some, ev_br, ev_at]
  by_cases hi : l.findIdx (idB id) < l.length
  · generalize l.findIdx (idB id) = i at hi
    rw [if_pos hi, dif_pos hi]
    have e0 : decide ((i : Int) < 0) = false := decide_eq_false (by omega)
    have e1 : decide (l[i].frm ≤ IntKind.i64.wrap (day - 1)) = !decide (l[i].frm > IntKind.i64.wrap (day - 1)) := by rw [gt_le]; simp
    simp only [e0, cond_false, f24_val, ev_bi_some, ev_br, ev_at, ok_at hi, cond_true, q5 hi, l171_val hl day hi]
    cases dayB day
    · rfl
    · cases decide (l[i].to < day)
      · have e3 : (bif decide (l[i].frm > IntKind.i64.wrap (day - 1)) then ((l.take i ++ l.drop (i + 1), 0) : List H × Int) else (l.set i { l[i] with to := IntKind.i64.wrap (day - 1) }, 0)) = (l.take i ++ repl day l[i] ++ l.drop (i + 1), 0) := by
          unfold repl
          rw [e1]
          cases decide (l[i].frm > IntKind.i64.wrap (day - 1))
          · simp only [cond_false, Bool.not_false, cond_true, Prod.mk.injEq, and_true]
            rw [List.set_eq_take_append_cons_drop, if_pos hi]; simp [setTo]
          · simp
        simp only [cond_false, Bool.not_true, e3]
        cases l.take i ++ repl day l[i] ++ l.drop (i + 1) <;> rfl
      · rfl
  · rw [if_neg hi, dif_neg hi]; rfl

theorem lift_len (l : List H) (id day : Int) : (liftS l id day).1.length ≤ l.length := by
  unfold liftS
  by_cases hi : l.findIdx (idB id) < l.length
  · rw [dif_pos hi]
    cases dayB day
    · simp
    · cases decide (l[l.findIdx (idB id)].to < day)
      · cases decide (l[l.findIdx (idB id)].frm > IntKind.i64.wrap (day - 1))
        · simp
        · simp; omega
      · simp
  · rw [dif_neg hi]; simp
theorem f5_val (l : List H) (id day : Int) : f5 (E l) id day = some true := by
  rw [f5_eq, tr5, f12_val]
  simp only [ev_br, ev_bi_some, ev_at, List.length_map]
  by_cases hq : (l.length : Int) > 100
  · simp [hq]
  · have hl : few l := by simp only [few, lim]; omega
    rw [decide_eq_false hq]
    simp only [cond_false, f16_val hl, f17_val hl, ev_bi_some, f15_val (l := (liftS l id day).1) (Nat.le_trans (lift_len l id day) (few_big hl)), ev_br, ev_at, decide_true, br_true, cond_true, beq_self_eq_true, sm_some, gv_some]

end Go.Proofs.H23

/- Stand-in never accepts more than it knows to be available: the law of limits. -/
import Derived.Test.YtpoebijgpbaccaaX4
set_option linter.unusedVariables false
set_option linter.unusedSimpArgs false
set_option linter.unnecessarySimpa false
namespace Go.Proofs.H53
open Go Go.Eng
set_option maxRecDepth 20000

theorem seek_all {p : Nat → Bool} {f : Nat → Nat} {je N : Nat} (h : ∀ n < N, p n = false) : seek p f je (List.range N) = je := by
  apply seek_none
  simp only [List.any_eq_false, List.mem_range]
  intro x hx
  rw [h x hx]; exact Bool.false_ne_true
theorem eQ_all {a : List Avl} {q : List Wai} (h : eQ a q = 3) : ∀ n < q.length, wrongQ a q n = 9 := by
  intro n hn
  have : ∀ x ∈ List.range q.length, (wrongQ a q x != 9) = false := by
    unfold eQ seek at h
    split at h
    · rename_i x hx
      have := List.find?_some hx
      rcases wrongQ_cases a q x with h' | h' | h' | h' <;> simp [h'] at this h
    · rename_i hx
      intro x hxm
      have := List.find?_eq_none.1 hx x hxm
      simpa using this
  simpa using this n (by simpa using hn)
theorem chk_mk {lm : Int} {a : List Avl} {q : List Wai} (h1 : a.length ≤ 64) (h2 : q.length ≤ 64) (h3 : 0 ≤ lm) (h4 : lm ≤ 1000000000000) (h5 : ∀ n < a.length, wrongA a n = 9) (h6 : ∀ n < q.length, wrongQ a q n = 9) (h7 : ∀ x ∈ a, corr lm q x = false) : chk lm a q = 0 := by
  have e1 : (decide ((a.length : Int) > 64) || decide ((q.length : Int) > 64)) = false := by simp; omega
  have e2 : (decide (lm < 0) || decide (lm > 1000000000000)) = false := by simp; omega
  have e3 : eA a = 2 := seek_all fun n hn => by rw [h5 n hn]; rfl
  have e4 : eQ a q = 3 := seek_all fun n hn => by rw [h6 n hn]; rfl
  have e5 : a.any (corr lm q) = false := by
    rw [List.any_eq_false]; intro x hx; rw [h7 x hx]; exact Bool.false_ne_true
  unfold chk
  rw [e1, e2, e3, e4, e5]; rfl
theorem accs {a : List Avl} (h : ∀ n < a.length, wrongA a n = 9) : (a.map Avl.acc).Pairwise (· < ·) := by
  refine adj_pair _ fun n hn => ?_
  simp only [List.length_map] at hn
  have := h (n + 1) hn
  unfold wrongA at this
  rw [List.getElem?_eq_getElem hn] at this
  simp only [List.getElem?_eq_getElem (show n < a.length by omega)] at this
  simp only [List.getElem_map]
  by_cases hle : a[n + 1].acc ≤ a[n].acc
  · cases hb : (decide (a[n + 1].acc < 1000) || decide (a[n + 1].amt < 0) || decide (a[n + 1].used < 0)) <;> simp [hb, hle] at this
  · omega
theorem acc_inj {a : List Avl} (h : (a.map Avl.acc).Pairwise (· < ·)) {n m : Nat} (hn : n < a.length) (hm : m < a.length) (he : a[n].acc = a[m].acc) : n = m := by
  apply Classical.byContradiction
  intro hne
  rcases Nat.lt_or_gt_of_ne hne with hlt | hlt
  · have := List.pairwise_iff_getElem.1 h n m (by simpa using hn) (by simpa using hm) hlt
    simp only [List.getElem_map] at this; omega
  · have := List.pairwise_iff_getElem.1 h m n (by simpa using hm) (by simpa using hn) hlt
    simp only [List.getElem_map] at this; omega
theorem drawn_app (q : List Wai) (w : Wai) (id : Int) : drawn (q ++ [w]) id = addR id (drawn q id) w := by simp [drawn]

/-- An element behind the change. -/
theorem wrongA_same {a b : List Avl} (hl : b.length = a.length) (h : ∀ n (h1 : n < a.length) (h2 : n < b.length), b[n].acc = a[n].acc ∧ b[n].amt = a[n].amt ∧ 0 ≤ b[n].used) (ha : ∀ n < a.length, wrongA a n = 9) : ∀ n < b.length, wrongA b n = 9 := by
  intro n hn
  have hn' : n < a.length := by omega
  have h9 := ha n hn'
  unfold wrongA at h9 ⊢
  rw [List.getElem?_eq_getElem hn'] at h9
  rw [List.getElem?_eq_getElem hn]
  obtain ⟨g1, g2, g3⟩ := h n hn' hn
  cases hb : (decide (a[n].acc < 1000) || decide (a[n].amt < 0) || decide (a[n].used < 0))
  · have hb2 : (decide (b[n].acc < 1000) || decide (b[n].amt < 0) || decide (b[n].used < 0)) = false := by
      simp only [Bool.or_eq_false_iff, decide_eq_false_iff_not] at hb ⊢
      rw [g1, g2]; exact ⟨hb.1, by omega⟩
    simp only [hb, cond_false] at h9
    simp only [hb2, cond_false]
    cases n with
    | zero => rfl
    | succ m =>
      have hm : m < a.length := by omega
      have hm' : m < b.length := by omega
      simp only [List.getElem?_eq_getElem hm] at h9
      simp only [List.getElem?_eq_getElem hm', g1, (h m hm hm').1]
      exact h9
  · simp [hb] at h9
/-- Authorize, where it accepts. -/
theorem auth_cases (lm : Int) (a : List Avl) (q : List Wai) (id amt : Int) (key : List UInt8) :
    (∃ e, e ≠ 0 ∧ authS lm a q id amt key = (0, [], [], e)) ∨
    ∃ b, authS lm a q id amt key = (lm, b, q ++ [⟨id, amt, key⟩], 0) ∧ chk lm a q = 0 ∧ chk lm b (q ++ [⟨id, amt, key⟩]) = 0 ∧ b.length = a.length ∧ ∀ n (h1 : n < a.length) (h2 : n < b.length), b[n].acc = a[n].acc ∧ b[n].amt = a[n].amt := by
  unfold authS
  by_cases h1 : chk lm a q ≠ 0 ∨ shapedB amt key = false
  · rw [if_pos h1]; exact .inl ⟨1, by decide, rfl⟩
  · rw [if_neg h1]
    have hc : chk lm a q = 0 := Classical.byContradiction fun h => h1 (.inl h)
    have hs : shapedB amt key = true := by cases hq : shapedB amt key <;> simp [hq] at h1 ⊢
    obtain ⟨k1, k2, k3, k4, k5, k6, k7⟩ := chk_ok hc
    have hA := eA_ok k5
    have hQ := eQ_all k6
    have hpw := accs hA
    have hamt : -1000000000000 ≤ amt ∧ amt ≤ 1000000000000 := by
      unfold shapedB at hs
      simp only [Bool.and_eq_true] at hs
      simpa [amtB] using hs.2.1
    by_cases hi : a.findIdx (accB id) < a.length
    · rw [dif_pos hi]
      have hid : accB id a[a.findIdx (accB id)] = true := List.findIdx_getElem
      have hany : a.any (accB id) = true := by rw [any_idx]; exact decide_eq_true hi
      generalize a.findIdx (accB id) = i at hi hid
      have hid' : a[i].acc = id := by simpa [accB] using hid
      cases hk : q.any (keyIs key)
      · simp only [Bool.false_eq_true, if_false]
        by_cases h64 : 64 ≤ q.length
        · rw [if_pos h64]; exact .inl ⟨5, by decide, rfl⟩
        · rw [if_neg h64]
          obtain ⟨u1, u2, u3, u4, u5⟩ := used_ok hc hi
          -- the queue stays in order
          have hQ2 : ∀ b : List Avl, (∀ id, b.any (accB id) = a.any (accB id)) → ∀ n < (q ++ [(⟨id, amt, key⟩ : Wai)]).length, wrongQ b (q ++ [⟨id, amt, key⟩]) n = 9 := by
            intro b hb n hn
            simp only [List.length_append, List.length_cons, List.length_nil] at hn
            by_cases hn' : n < q.length
            · have := hQ n hn'
              unfold wrongQ at this ⊢
              rw [List.getElem?_append_left hn', List.take_append_of_le_length (by omega)]
              cases hg : q[n]? with
              | none => rfl
              | some w => rw [hg] at this; simp only [hb]; exact this
            · have hn2 : n = q.length := by omega
              subst hn2
              unfold wrongQ
              rw [List.getElem?_append_right (Nat.le_refl _), List.take_append_of_le_length (Nat.le_refl _), List.take_length]
              simp only [Nat.sub_self, List.getElem?_cons_zero, hs, hb, hany, hk]
              rfl
          by_cases hneg : amt < 0
          · rw [if_pos hneg]
            by_cases hg : a[i].used - amt > a[i].amt ∨ a[i].used - amt > lm
            · rw [if_pos hg]; exact .inl ⟨18, by decide, rfl⟩
            · rw [if_neg hg]
              have hsame : ∀ n (h1 : n < a.length) (h2 : n < (a.set i (setUsed a[i] (a[i].used - amt))).length), (a.set i (setUsed a[i] (a[i].used - amt)))[n].acc = a[n].acc ∧ (a.set i (setUsed a[i] (a[i].used - amt)))[n].amt = a[n].amt ∧ 0 ≤ (a.set i (setUsed a[i] (a[i].used - amt)))[n].used := by
                intro n h1 h2
                rw [List.getElem_set]
                split
                · rename_i he
                  subst he
                  exact ⟨rfl, rfl, by simp only [setUsed]; omega⟩
                · exact ⟨rfl, rfl, (used_ok hc h1).1⟩
              refine .inr ⟨_, rfl, hc, chk_mk (by simpa using k1) (by simp; omega) k3 k4 (wrongA_same (by simp) hsame hA) (hQ2 _ fun id' => ?_) fun x hx => ?_, by simp, fun n h1 h2 => ⟨(hsame n h1 h2).1, (hsame n h1 h2).2.1⟩⟩
              · rw [Bool.eq_iff_iff, List.any_eq_true, List.any_eq_true]
                constructor
                · rintro ⟨x, hx, hp⟩
                  obtain ⟨n, hn, rfl⟩ := List.mem_iff_getElem.1 hx
                  have hn' : n < a.length := by simpa using hn
                  exact ⟨a[n], List.getElem_mem hn', by simp only [accB, (hsame n hn' hn).1] at hp ⊢; exact hp⟩
                · rintro ⟨x, hx, hp⟩
                  obtain ⟨n, hn, rfl⟩ := List.mem_iff_getElem.1 hx
                  have hn' : n < (a.set i (setUsed a[i] (a[i].used - amt))).length := by simpa using hn
                  exact ⟨_, List.getElem_mem hn', by simp only [accB, (hsame n hn hn').1] at hp ⊢; exact hp⟩
              · obtain ⟨n, hn, rfl⟩ := List.mem_iff_getElem.1 hx
                have hn' : n < a.length := by simpa using hn
                rw [List.getElem_set]
                split
                · rename_i he
                  subst he
                  have e1 : drawn (q ++ [⟨id, amt, key⟩]) a[i].acc = a[i].used - amt := by
                    rw [drawn_app, ← u4, addR]
                    simp only [hid', beq_self_eq_true, Bool.true_and, decide_eq_true hneg, cond_true]
                    exact wrap64 (by omega) (by omega)
                  simp only [corr, setUsed, e1]
                  simp; omega
                · rename_i hne
                  have hacc : a[n].acc ≠ id := fun he => hne (acc_inj hpw hn' hi (by rw [he, hid'])).symm
                  have e1 : drawn (q ++ [⟨id, amt, key⟩]) a[n].acc = drawn q a[n].acc := by
                    rw [drawn_app, addR]
                    have : (id == a[n].acc) = false := by simpa using fun h => hacc h.symm
                    simp [this]
                  have := k7 a[n] (List.getElem_mem hn')
                  simp only [corr, e1] at this ⊢
                  exact this
          · rw [if_neg hneg]
            refine .inr ⟨a, rfl, hc, chk_mk k1 (by simp; omega) k3 k4 hA (hQ2 a fun _ => rfl) fun x hx => ?_, rfl, fun n h1 h2 => ⟨rfl, rfl⟩⟩
            have e1 : drawn (q ++ [⟨id, amt, key⟩]) x.acc = drawn q x.acc := by
              rw [drawn_app, addR, decide_eq_false hneg]; simp
            have := k7 x hx
            simp only [corr, e1] at this ⊢
            exact this
      · simp only [if_true]; exact .inl ⟨12, by decide, rfl⟩
    · rw [dif_neg hi]; exact .inl ⟨11, by decide, rfl⟩

/-- What stays true, transaction by transaction. -/
def Inv6 (l : List Wai) (lm : Int) (a : List Avl) (q : List Wai) (n : Nat) (v : TT6_0) : Prop := ∃ b r, v = (EW l, (n : Int), lm, EA b, EW r, lm, EA a, EW q) ∧ chk lm b r = 0 ∧ okL r ∧ b.length = a.length ∧ ∀ n (h1 : n < a.length) (h2 : n < b.length), b[n].acc = a[n].acc ∧ b[n].amt = a[n].amt
theorem l60_val {l : List Wai} (hl : okL l) {lm : Int} {a : List Avl} {q : List Wai} (hc : chk lm a q = 0) (hq : okL q) : ∃ j w, l6_0 (EW l, 0, lm, EA a, EW q, lm, EA a, EW q) = some (j, w) ∧ (j = 0 ∨ j = 2 ∧ Inv6 l lm a q l.length w) := by
  rw [l6_0_eq]
  refine loop_inv (st := fun v => (st6_0 v).ev) l.length (Inv6 l lm a q) (fun j w => j = 0 ∨ j = 2 ∧ Inv6 l lm a q l.length w) (fun n v h hp => ?_) (fun v hp => ?_) ⟨a, q, rfl, hc, hq, rfl, fun n h1 h2 => ⟨rfl, rfl⟩⟩
  · obtain ⟨b, r, rfl, hcb, hr, hbl, hsame⟩ := hp
    obtain ⟨k1, k2, _⟩ := chk_ok hcb
    have hkey := hl.2 _ (List.getElem_mem h)
    have hbb : b.length ≤ big := by simp only [big]; omega
    by_cases hlong : (l[n].key.length : Int) > 100
    · refine .inr ⟨0, ?_, .inl rfl⟩
      simp only [st6_0, st6_0_0, List.length_map, lt_at h, okW h, qw2 h, ev_br, ev_at, cond_true, decide_eq_true hlong, f8_val, ev_bi_some]
    · left
      rcases auth_cases lm b r l[n].acc l[n].amt l[n].key with ⟨e, he, hA⟩ | ⟨b', hA, _, hc', hbl', hsame'⟩
      · refine ⟨(EW l, ((n + 1 : Nat) : Int), lm, EA b, EW r, lm, EA a, EW q), ?_, b, r, rfl, hcb, hr, hbl, hsame⟩
        have he' : (e != 0) = true := by simpa using he
        have h15 : f15 0 [] [] 0 [] [] = some true := f15_val (a := []) (b := []) (q := []) (r := []) (by simp [big]) (by simp [big]) 0 0
        simp only [st6_0, st6_0_0, List.length_map, lt_at h, okW h, qw0 h, qw1 h, qw2 h, ev_br, ev_at, cond_true, decide_eq_false hlong, cond_false, f13_val hbb hr lm l[n].acc l[n].amt hkey, hA, ev_bi_some, he', List.map_nil, h15, Bool.not_true, wrap_succ h hl.1]
      · refine ⟨(EW l, ((n + 1 : Nat) : Int), lm, EA b', EW (r ++ [⟨l[n].acc, l[n].amt, l[n].key⟩]), lm, EA a, EW q), ?_, b', _, rfl, hc', ⟨?_, ?_⟩, by omega, fun m h1 h2 => ?_⟩
        · have hlt : r.length < (r ++ [l[n]]).length := by simp
          have hgl : (r ++ [l[n]])[r.length] = l[n] := by simp
          have ew : (⟨l[n].acc, l[n].amt, l[n].key⟩ : Wai) = l[n] := rfl
          have e0 : ((0 : Int) != 0) = false := rfl
          have e1 : (((r.length + 1 : Nat) : Int) != ((r.length + 1 : Nat) : Int)) = false := by simp
          have e2 : (((b'.length : Nat) : Int) != (b.length : Int)) = false := by simp [hbl']
          have e3 : (lm != lm) = false := by simp
          rw [ew] at hA ⊢
          simp only [st6_0, st6_0_0, List.length_map, lt_at h, okW h, qw0 h, qw1 h, qw2 h, ev_br, ev_at, cond_true, decide_eq_false hlong, cond_false, f13_val hbb hr lm l[n].acc l[n].amt hkey, hA, ev_bi_some, e0, List.length_append, List.length_cons, List.length_nil, Nat.zero_add, wrap_succ (show r.length < big by simp only [big]; omega) (Nat.le_refl _), e1, okW hlt, qw0 hlt, qw1 hlt, qw2 hlt, hgl, beq_self_eq_true, Bool.and_self, Bool.not_true, if_true, e2, e3, wrap_succ h hl.1]
        · simp only [List.length_append, List.length_cons, List.length_nil, big]; omega
        · intro w hw
          simp only [List.mem_append, List.mem_singleton] at hw
          rcases hw with hw | rfl
          · exact hr.2 w hw
          · exact hkey
        · have h3 : m < b.length := by omega
          obtain ⟨g1, g2⟩ := hsame' m h3 h2
          obtain ⟨g3, g4⟩ := hsame m h1 h3
          exact ⟨g1.trans g3, g2.trans g4⟩
  · have hp' := hp
    obtain ⟨b, r, rfl, _⟩ := hp
    refine ⟨2, ?_, .inr ⟨rfl, hp'⟩⟩
    simp [st6_0, st6_0_0]

theorem l62_val {r : List Wai} (hr : r.length ≤ big) (s x0 x3 : Int) (X4 : List AV) (x6 : Int) (X7 X8 : List AV) (id x10 x11 : Int) : l6_2 (x0, s, 0, x3, X4, EW r, x6, X7, X8, id, x10, x11) = some (0, x0, r.foldl (addR id) s, (r.length : Int), x3, X4, EW r, x6, X7, X8, id, x10, x11) := by
  rw [l6_2_eq]
  refine loop_fold (st := fun v => (st6_2 v).ev) (l := r) (fun n s => (x0, s, (n : Int), x3, X4, EW r, x6, X7, X8, id, x10, x11)) (addR id) (fun _ => 0) (fun _ _ => True) trivial (fun _ _ _ _ => trivial) (fun n a h _ => ?_) (fun a _ => ?_)
  · simp only [st6_2, st6_2_0, List.length_map, lt_at h, okW h, qw0 h, qw1 h, ev_br, ev_at, cond_true, wrap_succ h hr, addR]
    cases (r[n].acc == id) <;> cases decide (r[n].amt < 0) <;> rfl
  · simp [st6_2, st6_2_0]
theorem used_at {b : List Avl} (h : (b.map Avl.acc).Pairwise (· < ·)) {n : Nat} (hn : n < b.length) : usedS b b[n].acc = b[n].used := by
  unfold usedS
  have hlt : b.findIdx (accB b[n].acc) < b.length := List.findIdx_lt_length.2 ⟨b[n], List.getElem_mem hn, by simp [accB]⟩
  rw [find_idx hlt]
  have hp : accB b[n].acc b[b.findIdx (accB b[n].acc)] = true := List.findIdx_getElem
  have := acc_inj h hlt hn (by simpa [accB] using hp)
  simp only [this]
theorem l61_val {lm : Int} {a b : List Avl} {r : List Wai} (hc : chk lm b r = 0) (hr : okL r) (hbl : b.length = a.length) (hsame : ∀ n (h1 : n < a.length) (h2 : n < b.length), b[n].acc = a[n].acc ∧ b[n].amt = a[n].amt) (lm0 : Int) (Q : List AV) :
    l6_1 (0, lm, EA b, EW r, lm0, EA a, Q) = some (1, (a.length : Int), lm, EA b, EW r, lm0, EA a, Q) := by
  rw [l6_1_eq]
  obtain ⟨k1, k2, k3, k4, k5, k6, k7⟩ := chk_ok hc
  have hpw := accs (eA_ok k5)
  have hbb : b.length ≤ big := by simp only [big]; omega
  have hab : a.length ≤ big := by simp only [big]; omega
  refine loop_steps (st := fun v => (st6_1 v).ev) (fun n => ((n : Int), lm, EA b, EW r, lm0, EA a, Q)) a.length 1 0 (Nat.zero_le _) (fun n _ h => ?_) ?_
  · have h' : n < b.length := by omega
    obtain ⟨u1, u2, u3, u4, u5⟩ := used_ok hc h'
    obtain ⟨g1, g2⟩ := hsame n h h'
    have hd : r.foldl (addR b[n].acc) 0 = b[n].used := u4.symm
    have c1 : decide (b[n].used > b[n].amt) = false := decide_eq_false (by omega)
    have c2 : decide (b[n].used > lm) = false := decide_eq_false (by omega)
    simp only [st6_1, st6_1_0, List.length_map, lt_at h, okA h, okA h', qa0 h, qa1 h, qa0 h', qa1 h', qa2 h', ev_br, ev_at, cond_true, l62_val hr.1, pj_some, if_true, ev_bi_some, hd, ← g1, ← g2, bne_self_eq_false, cond_false, c1, c2, f11_val hbb, used_at hpw h', wrap_succ h hab]
  · simp [st6_1, st6_1_0]
theorem f6_val {a : List Avl} {q l : List Wai} (ha : a.length ≤ big) (hq : okL q) (hl : okL l) (lm : Int) : f6 lm (EA a) (EW q) (EW l) = some true := by
  rw [f6_eq, tr6, f7_val hq.1, f8_val, f9_val ha hq, f10_val ha hq]
  simp only [ev_bi_some, br_eq, cond_some, sm_some, gv_some, cond_true, ev_br, ev_at]
  by_cases hc : chk lm a q = 0
  · obtain ⟨j, w, hj, hR⟩ := l60_val hl hc hq
    rw [hj]
    have e1 : (chk lm a q != 0) = false := by simpa using hc
    rw [e1]
    cases (bif bif bif !fewB a q then true else decide (((EW l).length : Int) > 40) then true else false then true else false)
    · rcases hR with rfl | ⟨rfl, b, r, rfl, hcb, hr, hbl, hsame⟩
      · simp
      · obtain ⟨k1, _⟩ := chk_ok hcb
        have h9 := f9_val (a := b) (q := r) (by simp only [big]; omega) hr lm
        simp only [cond_false, pj_some, show (2 : Nat) = 0 ↔ False by simp, show (2 : Nat) = 1 ↔ False by simp, if_false, if_true, ev_bi_none, ev_bi_some, l61_val hcb hr hbl hsame, show (1 : Nat) = 0 ↔ False by simp, h9, hcb]
        simp
    · rfl
  · have e1 : (chk lm a q != 0) = true := by simpa using hc
    rw [e1]
    cases (bif !fewB a q then true else decide (((EW l).length : Int) > 40)) <;> rfl

end Go.Proofs.H53

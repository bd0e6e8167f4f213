/- Chapter 11: the laws TypingVars, TypingOf, TypingParts, TypingOrder. -/
import Derived.Test.YtbhffafppahmjaaGreatDoorX11Typ
set_option linter.unusedVariables false
set_option linter.unusedSimpArgs false
set_option linter.unnecessarySimpa false
namespace Go.Proofs.H11
open Go Go.Eng Go.Tk
set_option maxRecDepth 20000
theorem short_val {vs : List Va} (hl : vs.length ≤ big) : ∃ b, f_u96q (EV vs) = some b ∧ (b = true → vs.length ≤ 100) := by
  have hloop : ∃ j w, l_u64q (EV vs, 0) = some (j, EV vs, w) ∧ (j = 0 ∨ j = 1) := by
    rw [l_u64q_eq]
    have h := loop_searchI (st := fun v => (st_u64q v).ev) (N := min vs.length 101) (hd := fun i => (EV vs, (i : Int))) (jx := fun _ => 0) (fun i => match vs[i]? with | some v => decide ((v.name.length : Int) > 100) | none => false) 1 (fun i hn => ?_) ?_
    · refine ⟨_, _, h, ?_⟩
      rw [seek_const]
      cases (List.range (min vs.length 101)).any _ <;> simp
    · have h1 : i < vs.length := by omega
      have h2 : decide ((i : Int) < 101) = true := by simp; omega
      simp only [st_u64q, st_u64q_0, List.length_map, lt_at h1, h2, okV h1, qv0 h1, br_eq, cond_true, ev_bi_some, ev_br, ev_at, wrap_succ h1 hl, List.getElem?_eq_getElem h1]
      cases decide ((vs[i].name.length : Int) > 100) <;> rfl
    · by_cases h : vs.length ≤ 101
      · have : min vs.length 101 = vs.length := by omega
        rw [this]; simp [st_u64q, st_u64q_0]
      · have : min vs.length 101 = 101 := by omega
        rw [this]
        have h1 : decide (((101 : Nat) : Int) < ((EV vs).length : Int)) = true := by simp; omega
        simp only [st_u64q, st_u64q_0, h1, br_eq, cond_true]; rfl
  obtain ⟨j, w, h, hj⟩ := hloop
  rw [f_u96q_eq, tr_u96q, h]
  rcases hj with rfl | rfl
  · exact ⟨false, rfl, fun h => by cases h⟩
  · exact ⟨decide (((EV vs).length : Int) ≤ 100), by simp, fun h => by simp at h; omega⟩
theorem live_val : f_u106q = some true := by
  have h1 : f_u43q 7 [AV.int IntKind.i64 2, AV.int IntKind.i64 3] = some (2, true) := (f_u43q_val (l := [2, 3]) (by decide) 7).trans (by kernel_rfl)
  have h2 : f_u43q 7 [AV.int IntKind.i64 2, AV.int IntKind.i64 2] = some (0, false) := (f_u43q_val (l := [2, 2]) (by decide) 7).trans (by kernel_rfl)
  have h3 : f_u43q 6 [AV.int IntKind.i64 4, AV.int IntKind.i64 4] = some (1, true) := (f_u43q_val (l := [4, 4]) (by decide) 6).trans (by kernel_rfl)
  have h4 := f_u104q_val (vs := []) (by decide) (e := .mk 5 0 [] [.mk 5 0 [] [.mk 4 0 [120] [], .mk 2 1 [] []], .mk 1 1 [] []]) (by decide)
  have h5 := f_u104q_val (vs := []) (by decide) (e := .mk 5 0 [] [.mk 5 0 [] [.mk 1 1 [] [], .mk 2 1 [] []], .mk 4 0 [120] []]) (by decide)
  have h6 := f_u104q_val (vs := [⟨[120], 1⟩]) (by decide) (e := .mk 12 0 [] [.mk 4 0 [120] [], .mk 1 1 [] []]) (by decide)
  have h7 := f_u77q_val (vs := [⟨[120], 1⟩, ⟨[120], 1⟩]) (by decide)
  rw [show ofS (.mk 5 0 [] [.mk 5 0 [] [.mk 4 0 [120] [], .mk 2 1 [] []], .mk 1 1 [] []]) [] = (0, 4) by kernel_rfl] at h4
  rw [show ofS (.mk 5 0 [] [.mk 5 0 [] [.mk 1 1 [] [], .mk 2 1 [] []], .mk 4 0 [120] []]) [] = (0, 3) by kernel_rfl] at h5
  rw [show ofS (.mk 12 0 [] [.mk 4 0 [120] [], .mk 1 1 [] []]) [⟨[120], 1⟩] = (5, 0) by kernel_rfl] at h6
  rw [show varsS [⟨[120], 1⟩, ⟨[120], 1⟩] = 12 by kernel_rfl] at h7
  simp only [Ex.op, Ex.num, Ex.txt, Ex.args, List.map_cons, List.map_nil, Ex.av, Ex.avs, Va.av] at h4 h5 h6 h7
  rw [f_u106q_eq, tr_u106q]
  simp only [h1, h2, h3, h4, h5, h6, h7, ev_bi_some, br_eq]
  rfl
theorem Vars_law {vs : List Va} (hl : vs.length ≤ big) : f_u28q (EV vs) = some true := by
  obtain ⟨b, hb, _⟩ := short_val hl
  rw [f_u28q_eq, tr_u28q, hb, f_u77q_val hl, f_u111q_val hl, live_val]
  cases b <;> simp
theorem f_u62q_val {vs : List Va} (hv : vs.length ≤ big) {e : Ex} (h : e.nodes ≤ big) (want : Int) : f_u62q e.op e.num e.txt (EX e.args) (EV vs) want = some (checkS e vs want) := by
  rw [f_u62q_eq, tr_u62q, f_u104q_val hv h, checkS]
  cases h1 : ((ofS e vs).2 == 0)
  · simp [bne, h1]
  · have h2 : (ofS e vs).2 = 0 := by simpa using h1
    cases h3 : ((ofS e vs).1 != want) <;> simp [h2, h3]
theorem f_u103q_val {vs : List Va} (hv : vs.length ≤ big) {e : Ex} (hw : Wd e) (want : Int) : f_u103q e.op e.num e.txt (EX e.args) (EV vs) want = some (checkS e vs want) := by
  rw [f_u103q_eq, tr_u103q, f_u115q_val hv hw, checkS]
  cases h1 : ((ofS e vs).2 != 0) <;> cases h3 : ((ofS e vs).1 != want) <;> simp [h1, h3]
theorem great_val {e : Ex} (hw : Wd e) : f_u99q e.op e.num e.txt (EX e.args) 200 = some (decide (e.nodes > 200)) := f_u99q_val hw (most := 200) (by omega)
theorem Of_law {vs : List Va} (hl : vs.length ≤ big) {e : Ex} (hw : Wd e) (want : Int) : f_u46q e.op e.num e.txt (EX e.args) (EV vs) want = some true := by
  obtain ⟨b, hb, _⟩ := short_val hl
  rw [f_u46q_eq, tr_u46q, great_val hw, hb, live_val]
  by_cases hg : e.nodes > 200
  · simp [hg]
  · have hn : e.nodes ≤ big := by simp only [big]; omega
    rw [f_u104q_val hl hn, f_u115q_val hl hw, f_u62q_val hl hn, f_u103q_val hl hw, decide_eq_false hg]
    cases b <;> simp
theorem ofS_valid {e : Ex} {vs : List Va} (h : validS e = 0) : ofS e vs = e.ty vs := by unfold ofS; simp [h]
theorem aft_step {o : Int} {vs : List Va} {acc : List Int} {x : Ex} {l : List Ex} (h : (Ex.ty vs x).2 = 0) : aftT o acc (Ex.tys vs (x :: l)) = aftT o (acc ++ [(Ex.ty vs x).1]) (Ex.tys vs l) := by
  simp only [Ex.tys, h, aftT, finT]
  cases hz : ((Ex.tys vs l).2 != 0)
  · simp at hz; simp [hz]
  · simp [hz]
theorem aft_err {o : Int} {vs : List Va} {acc : List Int} {x : Ex} {l : List Ex} (h : (Ex.ty vs x).2 ≠ 0) : aftT o acc (Ex.tys vs (x :: l)) = (0, (Ex.ty vs x).2) := by
  have : ((Ex.ty vs x).2 != 0) = true := by simpa using h
  simp only [Ex.tys, this, aftT, finT, cond_true]
def hdL (vs : List Va) (e : Ex) (i : Int) : List Int → TT_u15q
  | [] => .inl (EV vs, i, e.op, e.num, e.txt, EX e.args)
  | acc => .inr (EV vs, i, e.op, e.num, e.txt, EX e.args, EI acc)
theorem Parts_law {vs : List Va} (hl : vs.length ≤ big) {e : Ex} (hw : Wd e) : f_u22q e.op e.num e.txt (EX e.args) (EV vs) = some true := by
  obtain ⟨b, hb, _⟩ := short_val hl
  rw [f_u22q_eq, tr_u22q, great_val hw, hb, live_val, f_u48q_val hw]
  by_cases hg : e.nodes > 200
  · simp [hg]
  · rw [decide_eq_false hg]
    cases b
    · simp
    · by_cases hz : validS e = 0
      · by_cases ho : e.op < 5
        · simp [hz, ho]
        · simp only [ev_bi_some, br_eq, sm_some, gv_some, cond_false, cond_true, Bool.not_true, hz, bne_self_eq_false, decide_eq_false ho, ev_br]
          have hn : e.nodes ≤ big := by simp only [big]; omega
          have hOf := f_u104q_val hl hn
          rw [ofS_valid hz] at hOf
          have hty : e.ty vs = finT e.op (Ex.tys vs e.args) := by
            cases e
            simp only [Ex.op] at ho
            simp only [Ex.ty, Ex.op, Ex.args]
            rw [if_neg (by omega), if_neg (by omega), if_neg (by omega), if_neg (by omega)]
          have hal := args_len e
          have key : ∀ (r i : Nat) (acc : List Int), i + r = e.args.length → acc.length = i → e.ty vs = aftT e.op acc (Ex.tys vs (e.args.drop i)) →
              ∃ j w, iterO (fun v => (st_u15q v).ev) (hdL vs e (i : Int) acc) = some (j, w) ∧ ((∃ (n : Nat) (a : List Int) (h : n < e.args.length), w = hdL vs e (n : Int) a ∧ j = (if a = [] then 0 else 2) ∧ (e.ty vs).1 = 0 ∧ (e.ty vs).2 = (Ex.ty vs e.args[n]).2) ∨ (∃ a, a.length ≤ e.args.length ∧ w = hdL vs e (e.args.length : Int) a ∧ j = (if a = [] then 1 else 3) ∧ e.ty vs = finT e.op (a, 0))) := by
            intro r
            induction r with
            | zero =>
              intro i acc hi hacc hinv
              have : i = e.args.length := by omega
              subst this
              rw [List.drop_length] at hinv
              have hinv' : e.ty vs = finT e.op (acc, 0) := by rw [hinv]; simp [aftT, Ex.tys]
              cases acc with
              | nil => exact ⟨1, _, iterO_done (by simp [hdL, st_u15q, st_u15q_0]), .inr ⟨[], by simp, rfl, by simp, hinv'⟩⟩
              | cons a acc => exact ⟨3, _, iterO_done (by simp [hdL, st_u15q, st_u15q_1]), .inr ⟨a :: acc, by omega, rfl, by simp, hinv'⟩⟩
            | succ r ihr =>
              intro i acc hi hacc hinv
              have hi' : i < e.args.length := by omega
              have hx : e.args[i] ∈ e.args := List.getElem_mem hi'
              have hxn := nodes_arg hx
              have hxO := f_u104q_val hl (e := e.args[i]) (by simp only [big]; omega)
              rw [ofS_valid (validS_arg hz hx)] at hxO
              rw [drop_at hi'] at hinv
              by_cases he : (Ex.ty vs e.args[i]).2 = 0
              · rw [aft_step he] at hinv
                have heb : ((Ex.ty vs e.args[i]).2 != 0) = false := by simp [he]
                have hroom : room (acc.length + 1) 8 = true := room_of (by simp only [lim]; omega)
                have hst : (st_u15q (hdL vs e (i : Int) acc)).ev = some (.next (hdL vs e ((i + 1 : Nat) : Int) (acc ++ [(Ex.ty vs e.args[i]).1]))) := by
                  cases acc with
                  | nil => simp only [hdL, st_u15q, Sum.elim_inl, st_u15q_0, List.length_map, lt_at hi', okX hi', qx0 hi', qx1 hi', qx2 hi', qx3 hi', hxO, heb, ev_br, ev_at, ev_bi_some, cond_true, cond_false, wrap_succ hi' (show e.args.length ≤ big by simp only [big]; omega)]; rfl
                  | cons a acc =>
                    simp only [List.length_cons] at hroom
                    simp only [hdL, st_u15q, Sum.elim_inr, st_u15q_1, List.length_map, lt_at hi', okX hi', qx0 hi', qx1 hi', qx2 hi', qx3 hi', hxO, heb, ev_br, ev_at, ev_bi_some, cond_true, cond_false, wrap_succ hi' (show e.args.length ≤ big by simp only [big]; omega), List.length_cons, hroom]
                    simp [hdL]
                rw [iterO_next hst]
                exact ihr (i + 1) _ (by omega) (by simp [hacc]) hinv
              · rw [aft_err he] at hinv
                have heb : ((Ex.ty vs e.args[i]).2 != 0) = true := by simpa using he
                have hB : (bif (e.ty vs).1 == 0 then some ((e.ty vs).2 == (Ex.ty vs e.args[i]).2) else some false) = some true := by simp [hinv]
                cases acc with
                | nil =>
                  refine ⟨0, _, iterO_done ?_, .inl ⟨i, [], hi', rfl, by simp, by rw [hinv], by rw [hinv]⟩⟩
                  simp only [hdL, st_u15q, Sum.elim_inl, st_u15q_0, List.length_map, lt_at hi', okX hi', qx0 hi', qx1 hi', qx2 hi', qx3 hi', hxO, hOf, heb, hB, live_val, sm_some, gv_some, br_eq, ev_br, ev_at, ev_bi_some, cond_true]
                | cons a acc =>
                  refine ⟨2, _, iterO_done ?_, .inl ⟨i, a :: acc, hi', rfl, by simp, by rw [hinv], by rw [hinv]⟩⟩
                  simp only [hdL, st_u15q, Sum.elim_inr, st_u15q_1, List.length_map, lt_at hi', okX hi', qx0 hi', qx1 hi', qx2 hi', qx3 hi', hxO, hOf, heb, hB, live_val, sm_some, gv_some, br_eq, ev_br, ev_at, ev_bi_some, cond_true]
          obtain ⟨j, w, hit, hc⟩ := key e.args.length 0 [] (by omega) rfl (by rw [hty]; simp [aftT])
          have hloop : l_u15q (.inl (EV vs, 0, e.op, e.num, e.txt, EX e.args)) = some (j, w) := by rw [l_u15q_eq]; exact hit
          rw [hloop]
          rcases hc with ⟨n, a, hn', rfl, rfl, h1, h2⟩ | ⟨a, ha, rfl, rfl, h1⟩
          · have hx : e.args[n] ∈ e.args := List.getElem_mem hn'
            have hxn := nodes_arg hx
            have hxO := f_u104q_val hl (e := e.args[n]) (by simp only [big]; omega)
            rw [ofS_valid (validS_arg hz hx)] at hxO
            cases a with
            | nil => simp (decide := true) only [hdL, pj_some, if_true, ev_bi_some, sl_inl, qx0 hn', qx1 hn', qx2 hn', qx3 hn', hOf, hxO, gv_some, h1, h2, beq_self_eq_true, br_eq, cond_true, sm_some, ev_at]
            | cons a acc => simp (decide := true) only [hdL, pj_some, if_true, if_false, reduceCtorEq, ev_bi_none, ev_bi_some, sr_inr, qx0 hn', qx1 hn', qx2 hn', qx3 hn', hOf, hxO, gv_some, h1, h2, beq_self_eq_true, br_eq, cond_true, sm_some, ev_at]
          · have hR := f_u43q_val (l := a) (by simp only [big]; omega) e.op
            have hend : ∀ (p : Int × Bool) (q : Int × Int), q = (bif p.2 then (p.1, 0) else (0, 3)) → ((p.2 && (q.1 == p.1 && q.2 == 0)) || (!p.2 && (q.1 == 0 && q.2 == 3))) = true := by
              rintro ⟨t, ok⟩ q rfl
              cases ok <;> simp
            have hq : e.ty vs = bif (resS e.op a).2 then ((resS e.op a).1, 0) else (0, 3) := by rw [h1]; simp [finT]
            cases a with
            | nil =>
              have hR' : f_u43q e.op [] = some (resS e.op []) := hR
              simp (decide := true) only [hdL, pj_some, if_true, if_false, ev_bi_none, ev_bi_some, sl_inl, hR', hOf, hq, br_eq, sm_some, gv_some]
              cases (resS e.op []).2 <;> simp
            | cons a acc =>
              simp (decide := true) only [hdL, pj_some, if_true, if_false, reduceCtorEq, ev_bi_none, ev_bi_some, sr_inr, hR, hOf, hq, br_eq, sm_some, gv_some]
              cases (resS e.op (a :: acc)).2 <;> simp
      · have : (validS e != 0) = true := by simpa using hz
        simp [this]
theorem varTy_perm {vs ws : List Va} (h : ∀ s, varTy vs s = varTy ws s) : (∀ e : Ex, e.ty vs = e.ty ws) := by
  intro e
  induction e using Ex.ind with
  | h o n s l ih =>
    have hl : ∀ l : List Ex, (∀ x ∈ l, x.ty vs = x.ty ws) → Ex.tys vs l = Ex.tys ws l := by
      intro l
      induction l with
      | nil => intro _; rfl
      | cons x l ihl =>
        intro hx
        simp only [Ex.tys, hx x (by simp), ihl fun y hy => hx y (by simp [hy])]
    simp only [Ex.ty, h, hl l ih]
theorem vars_ok {vs : List Va} (h : varsS vs = 0) : vs.length ≤ 64 ∧ ∀ n, (hn : n < vs.length) → varS vs[n].name = true ∧ goodB vs[n].ty = true ∧ ∀ m, (hm : m < n) → vs[m].name ≠ vs[n].name := by
  unfold varsS at h
  split at h
  · cases h
  · rename_i h64
    refine ⟨by omega, fun n hn => ?_⟩
    have h3 : eV vs = 3 := by
      rcases eV_cases vs with h' | h' | h' | h' <;> rw [h'] at h <;> simp at h
      exact h'
    have h9 : wrongV vs n = 9 := by
      unfold eV seek at h3
      split at h3
      · rename_i x hx
        have := List.find?_some hx
        rcases wrongV_cases vs x with h' | h' | h' | h' <;> simp [h'] at this h3
      · rename_i hx
        have := List.find?_eq_none.1 hx n (by simpa using hn)
        simpa using this
    unfold wrongV at h9
    rw [List.getElem?_eq_getElem hn] at h9
    simp only at h9
    cases h1 : varS vs[n].name <;> cases h2 : (vs.take n).any (fun w => w.name == vs[n].name) <;> cases h4 : goodB vs[n].ty <;> simp [h1, h2, h4] at h9
    refine ⟨rfl, rfl, fun m hm he => ?_⟩
    rw [List.any_eq_false] at h2
    refine h2 vs[m] ?_ (by simpa using he)
    rw [List.mem_take_iff_getElem]
    exact ⟨m, by omega, rfl⟩
theorem vars_of {vs : List Va} (h64 : vs.length ≤ 64) (h : ∀ n, (hn : n < vs.length) → varS vs[n].name = true ∧ goodB vs[n].ty = true ∧ ∀ m, (hm : m < n) → vs[m].name ≠ vs[n].name) : varsS vs = 0 := by
  have h9 : ∀ n, n < vs.length → wrongV vs n = 9 := by
    intro n hn
    obtain ⟨h1, h2, h3⟩ := h n hn
    have h4 : (vs.take n).any (fun w => w.name == vs[n].name) = false := by
      rw [List.any_eq_false]
      intro x hx
      obtain ⟨m, hm, rfl⟩ := List.mem_take_iff_getElem.1 hx
      simpa using h3 m (by omega)
    unfold wrongV
    rw [List.getElem?_eq_getElem hn]
    simp [h1, h2, h4]
  have h3 : eV vs = 3 := seek_none (by
    rw [List.any_eq_false]
    intro n hn
    rw [h9 n (by simpa using hn)]; simp)
  unfold varsS
  rw [if_neg (by omega), h3]
  rfl
theorem varTy_rev {vs : List Va} (h : varsS vs = 0) (s : Bs) : varTy vs s = varTy vs.reverse s := by
  obtain ⟨_, hv⟩ := vars_ok h
  have : vs.find? (fun v => v.name == s) = vs.reverse.find? (fun v => v.name == s) := by
    cases h1 : vs.find? (fun v => v.name == s) with
    | none =>
      cases h2 : vs.reverse.find? (fun v => v.name == s) with
      | none => rfl
      | some w =>
        have := List.find?_eq_none.1 h1 w (by simpa using List.mem_of_find?_eq_some h2)
        exact absurd (List.find?_some h2) this
    | some v =>
      cases h2 : vs.reverse.find? (fun v => v.name == s) with
      | none =>
        have := List.find?_eq_none.1 h2 v (by simpa using List.mem_of_find?_eq_some h1)
        exact absurd (List.find?_some h1) this
      | some w =>
        have e1 : v.name = s := by simpa using List.find?_some h1
        have e2 : w.name = s := by simpa using List.find?_some h2
        obtain ⟨i, hi, rfl⟩ := List.mem_iff_getElem.1 (List.mem_of_find?_eq_some h1)
        obtain ⟨j, hj, rfl⟩ := List.mem_iff_getElem.1 (show w ∈ vs by simpa using List.mem_of_find?_eq_some h2)
        rcases Nat.lt_trichotomy i j with hl | rfl | hl
        · exact absurd (e1.trans e2.symm) ((hv j hj).2.2 i hl)
        · rfl
        · exact absurd (e2.trans e1.symm) ((hv i hi).2.2 j hl)
  unfold varTy
  rw [this]
theorem vars_rev {vs : List Va} (h : varsS vs = 0) : varsS vs.reverse = 0 := by
  obtain ⟨h64, hv⟩ := vars_ok h
  refine vars_of (by simpa using h64) fun n hn => ?_
  have hn' : n < vs.length := by simpa using hn
  simp only [List.getElem_reverse]
  obtain ⟨h1, h2, _⟩ := hv (vs.length - 1 - n) (by omega)
  exact ⟨h1, h2, fun m hm he => (hv (vs.length - 1 - m) (by omega)).2.2 (vs.length - 1 - n) (by omega) he.symm⟩
def hdB (vs : List Va) (e : Ex) (i : Int) : List Va → TT_u14q
  | [] => .inl (EV vs, i, e.op, e.num, e.txt, EX e.args)
  | acc => .inr (EV vs, i, e.op, e.num, e.txt, EX e.args, EV acc)
theorem Order_law {vs : List Va} (hl : vs.length ≤ big) {e : Ex} (hw : Wd e) : f_u21q e.op e.num e.txt (EX e.args) (EV vs) = some true := by
  obtain ⟨b, hb, _⟩ := short_val hl
  rw [f_u21q_eq, tr_u21q, great_val hw, hb, live_val, f_u111q_val hl]
  by_cases hg : e.nodes > 200
  · simp [hg]
  · rw [decide_eq_false hg]
    cases b
    · simp
    · by_cases hz : varsS vs = 0
      · simp only [ev_bi_some, br_eq, sm_some, gv_some, cond_false, cond_true, Bool.not_true, hz, bne_self_eq_false, ev_br]
        have hn : e.nodes ≤ big := by simp only [big]; omega
        have h64 := (vars_ok hz).1
        have hOf := f_u104q_val hl hn
        have hOb := f_u104q_val (vs := vs.reverse) (by simpa using hl) hn
        have hsame : ofS e vs.reverse = ofS e vs := by
          unfold ofS
          rw [varTy_perm (fun s => varTy_rev hz s) e]
        rw [hsame] at hOb
        have hVb := f_u77q_val (vs := vs.reverse) (by simpa using hl)
        rw [vars_rev hz] at hVb
        have key : ∀ (k : Nat) (hk : k ≤ vs.length), iterO (fun v => (st_u14q v).ev) (hdB vs e ((k : Int) - 1) (vs.drop k).reverse) = some (if vs.reverse = [] then 0 else 1, hdB vs e (-1) vs.reverse) := by
          intro k
          induction k with
          | zero =>
            intro _
            rw [List.drop_zero]
            cases hr : vs.reverse with
            | nil => exact iterO_done (by simp [hdB, st_u14q, st_u14q_0])
            | cons a acc => exact iterO_done (by simp [hdB, st_u14q, st_u14q_1])
          | succ k ih =>
            intro hk
            have hk' : k < vs.length := by omega
            have e1 : ((k + 1 : Nat) : Int) - 1 = (k : Int) := by omega
            have e2 : decide ((k : Int) ≥ 0) = true := by simp
            have e3 : IntKind.i64.wrap ((k : Int) - 1) = (k : Int) - 1 := wrap64 (by omega) (by omega)
            have e4 : (vs.drop k).reverse = (vs.drop (k + 1)).reverse ++ [vs[k]] := by rw [drop_at hk', List.reverse_cons]
            have hlen : (vs.drop (k + 1)).reverse.length ≤ 64 := by simp; omega
            have hst : (st_u14q (hdB vs e (((k + 1 : Nat) : Int) - 1) (vs.drop (k + 1)).reverse)).ev = some (.next (hdB vs e ((k : Int) - 1) (vs.drop k).reverse)) := by
              rw [e1, e4]
              generalize (vs.drop (k + 1)).reverse = acc at hlen
              cases acc with
              | nil => simp only [hdB, st_u14q, Sum.elim_inl, st_u14q_0, e2, e3, okV hk', qv0 hk', qv1 hk', ev_br, ev_at, cond_true]; rfl
              | cons a acc =>
                have hroom : room ((EV (a :: acc)).length + 1) 24 = true := room_of (by simp only [lim, List.length_map]; omega)
                simp only [hdB, st_u14q, Sum.elim_inr, st_u14q_1, e2, e3, okV hk', qv0 hk', qv1 hk', hroom, ev_br, ev_at, cond_true]
                simp [hdB, Va.av]
            rw [iterO_next hst]
            exact ih (by omega)
        have hw1 : IntKind.i64.wrap (((EV vs).length : Int) - 1) = (vs.length : Int) - 1 := by rw [List.length_map, wrap64 (by omega) (by omega)]
        have h0 := key vs.length (Nat.le_refl _)
        rw [List.drop_length] at h0
        have hloop : l_u14q (.inl (EV vs, (vs.length : Int) - 1, e.op, e.num, e.txt, EX e.args)) = some (if vs.reverse = [] then 0 else 1, hdB vs e (-1) vs.reverse) := by rw [l_u14q_eq]; exact h0
        rw [hw1, hloop]
        cases hr : vs.reverse with
        | nil =>
          rw [hr] at hOb hVb
          have hOb' : f_u104q e.op e.num e.txt (EX e.args) [] = some (ofS e vs) := hOb
          have hVb' : f_u77q [] = some 0 := hVb
          simp (decide := true) only [hdB, pj_some, if_true, ev_bi_some, sl_inl, hOf, hOb', hVb', sm_some, gv_some, beq_self_eq_true, cond_true, br_eq, ev_at]
        | cons a acc =>
          rw [hr] at hOb hVb
          simp (decide := true) only [hdB, pj_some, reduceCtorEq, if_true, if_false, ev_bi_none, ev_bi_some, sr_inr, hOf, hOb, hVb, sm_some, gv_some, beq_self_eq_true, cond_true, br_eq, ev_at]
      · have : (varsS vs != 0) = true := by simpa using hz
        simp [this]
end Go.Proofs.H11

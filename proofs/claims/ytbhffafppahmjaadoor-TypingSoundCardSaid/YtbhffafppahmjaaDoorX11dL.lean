/- Chapter 11: the laws TypingResults, TypingSound. -/
import Derived.Test.YtbhffafppahmjaaDoorX11dTyp
set_option linter.unusedVariables false
set_option linter.unusedSimpArgs false
set_option linter.unnecessarySimpa false
namespace Go.Proofs.H11d
open Go Go.Eng Go.Tk
set_option maxRecDepth 20000
theorem short_val {vs : List Va} (hl : vs.length ≤ big) : ∃ b, f_u80q (EV vs) = some b ∧ (b = true → vs.length ≤ 100) := by
  have hloop : ∃ j w, l_u56q (EV vs, 0) = some (j, EV vs, w) ∧ (j = 0 ∨ j = 1) := by
    rw [l_u56q_eq]
    have h := loop_searchI (st := fun v => (st_u56q v).ev) (N := min vs.length 101) (hd := fun i => (EV vs, (i : Int))) (jx := fun _ => 0) (fun i => match vs[i]? with | some v => decide ((v.name.length : Int) > 100) | none => false) 1 (fun i hn => ?_) ?_
    · refine ⟨_, _, h, ?_⟩
      rw [seek_const]
      cases (List.range (min vs.length 101)).any _ <;> simp
    · have h1 : i < vs.length := by omega
      have h2 : decide ((i : Int) < 101) = true := by simp; omega
      simp only [st_u56q, st_u56q_0, List.length_map, lt_at h1, h2, okV h1, qv0 h1, br_eq, cond_true, ev_bi_some, ev_br, ev_at, wrap_succ h1 hl, List.getElem?_eq_getElem h1]
      cases decide ((vs[i].name.length : Int) > 100) <;> rfl
    · by_cases h : vs.length ≤ 101
      · have : min vs.length 101 = vs.length := by omega
        rw [this]; simp [st_u56q, st_u56q_0]
      · have : min vs.length 101 = 101 := by omega
        rw [this]
        have h1 : decide (((101 : Nat) : Int) < ((EV vs).length : Int)) = true := by simp; omega
        simp only [st_u56q, st_u56q_0, h1, br_eq, cond_true]; rfl
  obtain ⟨j, w, h, hj⟩ := hloop
  rw [f_u80q_eq, tr_u80q, h]
  rcases hj with rfl | rfl
  · exact ⟨false, rfl, fun h => by cases h⟩
  · exact ⟨decide (((EV vs).length : Int) ≤ 100), by simp, fun h => by simp at h; omega⟩
theorem live_val : f_u85q = some true := by
  have h1 : f_u39q 7 [AV.int IntKind.i64 2, AV.int IntKind.i64 3] = some (2, true) := (f_u39q_val (l := [2, 3]) (by decide) 7).trans (by kernel_rfl)
  have h2 : f_u39q 7 [AV.int IntKind.i64 2, AV.int IntKind.i64 2] = some (0, false) := (f_u39q_val (l := [2, 2]) (by decide) 7).trans (by kernel_rfl)
  have h3 : f_u39q 6 [AV.int IntKind.i64 4, AV.int IntKind.i64 4] = some (1, true) := (f_u39q_val (l := [4, 4]) (by decide) 6).trans (by kernel_rfl)
  have h4 := f_u83q_val (vs := []) (by decide) (e := .mk 5 0 [] [.mk 5 0 [] [.mk 4 0 [120] [], .mk 2 1 [] []], .mk 1 1 [] []]) (by decide)
  have h5 := f_u83q_val (vs := []) (by decide) (e := .mk 5 0 [] [.mk 5 0 [] [.mk 1 1 [] [], .mk 2 1 [] []], .mk 4 0 [120] []]) (by decide)
  have h6 := f_u83q_val (vs := [⟨[120], 1⟩]) (by decide) (e := .mk 12 0 [] [.mk 4 0 [120] [], .mk 1 1 [] []]) (by decide)
  have h7 := f_u65q_val (vs := [⟨[120], 1⟩, ⟨[120], 1⟩]) (by decide)
  rw [show ofS (.mk 5 0 [] [.mk 5 0 [] [.mk 4 0 [120] [], .mk 2 1 [] []], .mk 1 1 [] []]) [] = (0, 4) by kernel_rfl] at h4
  rw [show ofS (.mk 5 0 [] [.mk 5 0 [] [.mk 1 1 [] [], .mk 2 1 [] []], .mk 4 0 [120] []]) [] = (0, 3) by kernel_rfl] at h5
  rw [show ofS (.mk 12 0 [] [.mk 4 0 [120] [], .mk 1 1 [] []]) [⟨[120], 1⟩] = (5, 0) by kernel_rfl] at h6
  rw [show varsS [⟨[120], 1⟩, ⟨[120], 1⟩] = 12 by kernel_rfl] at h7
  simp only [Ex.op, Ex.num, Ex.txt, Ex.args, List.map_cons, List.map_nil, Ex.av, Ex.avs, Va.av] at h4 h5 h6 h7
  rw [f_u85q_eq, tr_u85q]
  simp only [h1, h2, h3, h4, h5, h6, h7, ev_bi_some, br_eq]
  rfl
theorem Results_law {l : List Int} (hl : l.length ≤ big) (op : Int) : f_u14q op (EI l) = some true := by
  rw [f_u14q_eq, tr_u14q, f_u39q_val hl, f_u68q_val, live_val]
  simp only [List.length_map]
  by_cases h : l.length > 100
  · have : decide ((l.length : Int) > 100) = true := by simp; omega
    simp [this]
  · have : decide ((l.length : Int) > 100) = false := by simp; omega
    simp [this]
theorem great_val {e : Ex} (hw : Wd e) : f_u81q e.op e.num e.txt (EX e.args) 200 = some (decide (e.nodes > 200)) := f_u81q_val hw (most := 200) (by omega)
def filV (vs : List Va) (n : Int) (e : Ex) : Ex := match vs.find? fun v => v.name == e.txt with
  | none => e
  | some v => if v.ty = 1 then .mk 1 n [] [] else if v.ty = 2 then .mk 2 n [] [] else if v.ty = 3 then .mk 3 n [] [] else e
mutual
def fil (vs : List Va) (n : Int) : Ex → Ex
  | .mk o k s l => if o = 4 then filV vs n (.mk o k s l) else .mk o k s (filL vs n l)
def filL (vs : List Va) (n : Int) : List Ex → List Ex
  | [] => []
  | e :: l => fil vs n e :: filL vs n l
end
theorem filL_eq (vs : List Va) (n : Int) : ∀ l : List Ex, filL vs n l = l.map (fil vs n)
  | [] => rfl
  | e :: l => by simp [filL, filL_eq vs n l]
def outX (x : Ex) : Int × Int × List UInt8 × List AV := (x.op, x.num, x.txt, EX x.args)
def wayV (v : Va) : Nat := if v.ty = 1 then 0 else if v.ty = 2 then 1 else if v.ty = 3 then 2 else 3
theorem l_u43q_val {vs : List Va} (hl : vs.length ≤ big) (n : Int) (o k : Int) (s : Bs) (A : List AV) (x y : Int) (z : Bs) :
    ∃ w, l_u43q (EV vs, n, 0, o, k, s, A, x, y, z) = some (seek (fun v => v.name == s) wayV 4 vs, w) ∧ w.2.1 = n ∧ w.2.2.2.1 = o ∧ w.2.2.2.2.1 = k ∧ w.2.2.2.2.2.1 = s ∧ w.2.2.2.2.2.2.1 = A := by
  rw [l_u43q_eq]
  have h := loop_search (st := fun v => (st_u43q v).ev) (l := vs) (hd := fun i => (EV vs, n, (i : Int), o, k, s, A, x, y, z)) (jx := wayV) (fun v => v.name == s) 4 (fun i hn => ?_) ?_
  · exact ⟨_, h, rfl, rfl, rfl, rfl, rfl⟩
  · simp only [st_u43q, st_u43q_0, List.length_map, lt_at hn, okV hn, qv0 hn, qv1 hn, br_eq, cond_true, ev_br, ev_at, wrap_succ hn hl, wayV]
    cases h0 : (vs[i].name == s)
    · rfl
    · by_cases h1 : vs[i].ty = 1
      · simp [h1]
      · by_cases h2 : vs[i].ty = 2
        · simp [h2]
        · by_cases h3 : vs[i].ty = 3
          · simp [h3]
          · have e1 : (vs[i].ty == 1) = false := by simpa using h1
            have e2 : (vs[i].ty == 2) = false := by simpa using h2
            have e3 : (vs[i].ty == 3) = false := by simpa using h3
            simp only [e1, e2, e3, if_neg h1, if_neg h2, if_neg h3, cond_false, cond_true, Bool.not_true]
  · simp [st_u43q, st_u43q_0]
theorem filV_val {vs : List Va} (hl : vs.length ≤ big) (n : Int) (G : GT_u67q) (e : Ex) (ho : e.op = 4) : (tr_u67q G e.op e.num e.txt (EX e.args) (EV vs) n).ev = some (outX (filV vs n e)) := by
  obtain ⟨w, h, h1, h2, h3, h4, h5⟩ := l_u43q_val hl n e.op e.num e.txt (EX e.args) 0 0 []
  have hne : (e.op != 4) = false := by simp [ho]
  rw [tr_u67q, h, hne]
  simp only [ev_br, br_eq, cond_false]
  unfold filV
  cases hf : vs.find? (fun v => v.name == e.txt) with
  | none =>
    have hs : seek (fun v => v.name == e.txt) wayV 4 vs = 4 := by unfold seek; rw [hf]
    rw [hs]
    simp (decide := true) [h2, h3, h4, h5, outX]
  | some v =>
    have hs : seek (fun v => v.name == e.txt) wayV 4 vs = wayV v := by unfold seek; rw [hf]
    rw [hs]
    unfold wayV
    by_cases g1 : v.ty = 1
    · simp (decide := true) [g1, h1, outX, Ex.op, Ex.num, Ex.txt, Ex.args]
    · by_cases g2 : v.ty = 2
      · simp (decide := true) [g2, h1, outX, Ex.op, Ex.num, Ex.txt, Ex.args]
      · by_cases g3 : v.ty = 3
        · simp (decide := true) [g3, h1, outX, Ex.op, Ex.num, Ex.txt, Ex.args]
        · simp (decide := true) [g1, g2, g3, h2, h3, h4, h5, outX]
def hdF (vs : List Va) (n : Int) (e : Ex) (i : Int) : List Ex → TT_u42q
  | [] => .inl (EV vs, n, i, e.op, e.num, e.txt, EX e.args, 0, 0, [], e.op, e.num, e.txt)
  | acc => .inr (EV vs, n, i, e.op, e.num, e.txt, EX e.args, 0, 0, [], e.op, e.num, e.txt, EX acc)
theorem op_mk (o n : Int) (s : Bs) (l : List Ex) : (Ex.mk o n s l).op = o := rfl
theorem num_mk (o n : Int) (s : Bs) (l : List Ex) : (Ex.mk o n s l).num = n := rfl
theorem txt_mk (o n : Int) (s : Bs) (l : List Ex) : (Ex.mk o n s l).txt = s := rfl
theorem args_mk (o n : Int) (s : Bs) (l : List Ex) : (Ex.mk o n s l).args = l := rfl
theorem filled_key {vs : List Va} (hv : vs.length ≤ big) (n : Int) : ∀ (e : Ex), e.nodes ≤ 1000000 → ∀ k, e.dep ≤ k → N_u67q k e.op e.num e.txt (EX e.args) (EV vs) n = some (outX (fil vs n e)) := by
  intro e
  induction e using Ex.ind with
  | h o m s l ih =>
    intro hn k hk
    have hd := Ex.dep_pos (.mk o m s l)
    obtain ⟨k, rfl⟩ : ∃ k', k = k' + 1 := ⟨k - 1, by omega⟩
    show (tr_u67q (N_u67q k) o m s (EX l) (EV vs) n).ev = _
    by_cases ho : o = 4
    · rw [show fil vs n (.mk o m s l) = filV vs n (.mk o m s l) by simp [fil, ho]]
      exact filV_val hv n _ (.mk o m s l) ho
    · have hne : (o != 4) = true := by simpa using ho
      have hlen := args_len (.mk o m s l)
      simp only [Ex.args] at hlen
      have key : ∀ (r i : Nat), i + r = l.length → ∃ w, iterO (fun v => (st_u42q (N_u67q k) v).ev) (hdF vs n (.mk o m s l) (i : Int) ((l.take i).map (fil vs n))) = some (if l = [] then 0 else 1, w) ∧ w = hdF vs n (.mk o m s l) (l.length : Int) (l.map (fil vs n)) := by
        intro r
        induction r with
        | zero =>
          intro i hi
          have : i = l.length := by omega
          subst this
          rw [List.take_length]
          cases l with
          | nil => exact ⟨_, iterO_done (by simp [hdF, st_u42q, st_u42q_0, Ex.args]), rfl⟩
          | cons x l => exact ⟨_, iterO_done (by simp [hdF, st_u42q, st_u42q_1, Ex.args]), rfl⟩
        | succ r ihr =>
          intro i hi
          have hi' : i < l.length := by omega
          have hx : l[i] ∈ l := List.getElem_mem hi'
          have hxn := nodes_arg (e := .mk o m s l) (x := l[i]) hx
          have hxd := dep_arg (e := .mk o m s l) (x := l[i]) hx
          have hxv := ih l[i] hx (by omega) k (by omega)
          have hst : (st_u42q (N_u67q k) (hdF vs n (.mk o m s l) (i : Int) ((l.take i).map (fil vs n)))).ev = some (.next (hdF vs n (.mk o m s l) ((i + 1 : Nat) : Int) ((l.take (i + 1)).map (fil vs n)))) := by
            have e4 : (l.take (i + 1)).map (fil vs n) = (l.take i).map (fil vs n) ++ [fil vs n l[i]] := by rw [List.take_succ_eq_append_getElem hi', List.map_append]; rfl
            have hlen2 : ((l.take i).map (fil vs n)).length ≤ 1000000 := by simp; omega
            rw [e4]
            generalize (l.take i).map (fil vs n) = acc at hlen2
            cases acc with
            | nil =>
              simp only [hdF, st_u42q, Sum.elim_inl, st_u42q_0, args_mk, op_mk, num_mk, txt_mk, List.length_map, lt_at hi', okX hi', qx0 hi', qx1 hi', qx2 hi', qx3 hi', hxv, ev_br, ev_at, ev_bi_some, cond_true, wrap_succ hi' (show l.length ≤ big by simp only [big]; omega), outX]
              simp [hdF, av_eq, args_mk, op_mk, num_mk, txt_mk]
            | cons a acc =>
              have hroom : room ((EX (a :: acc)).length + 1) 56 = true := room_of (by simp only [lim, List.length_map]; omega)
              simp only [hdF, st_u42q, Sum.elim_inr, st_u42q_1, args_mk, op_mk, num_mk, txt_mk, List.length_map, lt_at hi', okX hi', qx0 hi', qx1 hi', qx2 hi', qx3 hi', hxv, ev_br, ev_at, ev_bi_some, cond_true, wrap_succ hi' (show l.length ≤ big by simp only [big]; omega), outX]
              simp only [List.length_map, List.length_cons] at hroom
              simp [hdF, av_eq, args_mk, op_mk, num_mk, txt_mk, hroom]
          obtain ⟨w, h1, h2⟩ := ihr (i + 1) (by omega)
          exact ⟨w, by rw [iterO_next hst]; exact h1, h2⟩
      obtain ⟨w, h1, rfl⟩ := key l.length 0 (by omega)
      have hloop : l_u42q (N_u67q k) (.inl (EV vs, n, 0, o, m, s, EX l, 0, 0, [], o, m, s)) = some (if l = [] then 0 else 1, hdF vs n (.mk o m s l) (l.length : Int) (l.map (fil vs n))) := by rw [l_u42q_eq]; exact h1
      rw [tr_u67q, hloop, hne]
      have hfil : fil vs n (.mk o m s l) = .mk o m s (l.map (fil vs n)) := by simp [fil, ho, filL_eq]
      rw [hfil]
      cases l with
      | nil => simp (decide := true) [hdF, outX, Ex.args, Ex.op, Ex.num, Ex.txt]
      | cons x l => simp (decide := true) [hdF, outX, Ex.args, Ex.op, Ex.num, Ex.txt]
theorem f_u67q_val {vs : List Va} (hv : vs.length ≤ big) {e : Ex} (h : e.nodes ≤ 1000000) (n : Int) : f_u67q e.op e.num e.txt (EX e.args) (EV vs) n = some (outX (fil vs n e)) := limO_of (filled_key hv n e h)
theorem filV_cases (vs : List Va) (n : Int) (e : Ex) : filV vs n e = e ∨ ∃ v t, vs.find? (fun v => v.name == e.txt) = some v ∧ v.ty = t ∧ (t = 1 ∨ t = 2 ∨ t = 3) ∧ filV vs n e = .mk t n [] [] := by
  unfold filV
  cases hf : vs.find? (fun v => v.name == e.txt) with
  | none => exact .inl rfl
  | some v =>
    by_cases g1 : v.ty = 1
    · exact .inr ⟨v, 1, rfl, g1, by simp, by simp [g1]⟩
    · by_cases g2 : v.ty = 2
      · exact .inr ⟨v, 2, rfl, g2, by simp, by simp [g2]⟩
      · by_cases g3 : v.ty = 3
        · exact .inr ⟨v, 3, rfl, g3, by simp, by simp [g3]⟩
        · exact .inl (by simp [g1, g2, g3])
theorem leaf_le (e : Ex) : 1 ≤ e.nodes ∧ 1 ≤ e.dep := ⟨Ex.nodes_pos e, Ex.dep_pos e⟩
theorem fil_nodes (vs : List Va) (n : Int) : ∀ e : Ex, (fil vs n e).nodes ≤ e.nodes ∧ (fil vs n e).dep ≤ e.dep := by
  intro e
  induction e using Ex.ind with
  | h o m s l ih =>
    by_cases ho : o = 4
    · rw [show fil vs n (.mk o m s l) = filV vs n (.mk o m s l) by simp [fil, ho]]
      rcases filV_cases vs n (.mk o m s l) with h | ⟨v, t, _, _, _, h⟩
      · rw [h]; exact ⟨Nat.le_refl _, Nat.le_refl _⟩
      · rw [h]
        exact leaf_le _
    · have hfil : fil vs n (.mk o m s l) = .mk o m s (l.map (fil vs n)) := by simp [fil, ho, filL_eq]
      rw [hfil]
      have hl : ∀ l : List Ex, (∀ x ∈ l, (fil vs n x).nodes ≤ x.nodes ∧ (fil vs n x).dep ≤ x.dep) → Ex.nodesL (l.map (fil vs n)) ≤ Ex.nodesL l ∧ Ex.depL (l.map (fil vs n)) ≤ Ex.depL l := by
        intro l
        induction l with
        | nil => intro _; exact ⟨Nat.le_refl _, Nat.le_refl _⟩
        | cons x l ihl =>
          intro hx
          have h1 := hx x (by simp)
          have h2 := ihl fun y hy => hx y (by simp [hy])
          simp only [List.map_cons, Ex.nodesL, Ex.depL]
          omega
      have := hl l ih
      simp only [Ex.nodes, Ex.dep]
      omega
theorem fil_all (vs : List Va) {n : Int} (h0 : 0 ≤ n) (h1 : n ≤ 255) : ∀ e : Ex, (e.allX formedB = true → (fil vs n e).allX formedB = true) ∧ (e.allX namedB = true → (fil vs n e).allX namedB = true) := by
  intro e
  induction e using Ex.ind with
  | h o m s l ih =>
    by_cases ho : o = 4
    · rw [show fil vs n (.mk o m s l) = filV vs n (.mk o m s l) by simp [fil, ho]]
      rcases filV_cases vs n (.mk o m s l) with h | ⟨v, t, _, _, ht, h⟩
      · rw [h]; exact ⟨id, id⟩
      · rw [h]
        refine ⟨fun _ => ?_, fun _ => ?_⟩
        · have e1 : decide (n ≥ 0) = true := by simpa using h0
          have e2 : decide (n ≤ mostS t) = true := by
            rcases ht with rfl | rfl | rfl <;> simp [mostS] <;> omega
          have e3 : (operandsS t == 0) = true := by rcases ht with rfl | rfl | rfl <;> simp [operandsS]
          have e5 : formedB (.mk t n [] []) = true := by
            show (operandsS t == ((([] : List Ex).length : Nat) : Int) && (decide (n ≥ 0) && (decide (n ≤ mostS t) && (([] : Bs) == [] || t == 4)))) = true
            rw [e1, e2, show (operandsS t == ((([] : List Ex).length : Nat) : Int)) = true from e3]; rfl
          rw [Ex.allX_eq, e5]; rfl
        · rw [Ex.allX_eq]
          have : (t != 4) = true := by rcases ht with rfl | rfl | rfl <;> rfl
          simp [namedB, Ex.op, Ex.args, this]
    · have hfil : fil vs n (.mk o m s l) = .mk o m s (l.map (fil vs n)) := by simp [fil, ho, filL_eq]
      rw [hfil]
      simp only [Ex.allX_eq (e := .mk o m s l), Ex.allX_eq (e := .mk o m s (l.map (fil vs n))), Bool.and_eq_true, List.all_eq_true]
      refine ⟨fun h => ⟨?_, ?_⟩, fun h => ⟨?_, ?_⟩⟩
      · have := h.1
        simp only [formedB, op_mk, num_mk, txt_mk, args_mk, List.length_map] at this ⊢
        exact this
      · intro x hx
        obtain ⟨y, hy, rfl⟩ := List.mem_map.1 hx
        exact (ih y hy).1 (h.2 y hy)
      · simp [namedB, Ex.op, ho]
      · intro x hx
        obtain ⟨y, hy, rfl⟩ := List.mem_map.1 hx
        exact (ih y hy).2 (h.2 y hy)
theorem fil_valid (vs : List Va) {n : Int} (h0 : 0 ≤ n) (h1 : n ≤ 255) {e : Ex} (h : validS e = 0) : validS (fil vs n e) = 0 := by
  obtain ⟨g1, g2, g3, g4⟩ := validS_ok h
  have := fil_nodes vs n e
  have h5 := fil_all vs h0 h1 e
  exact validS_of (by omega) (by omega) (h5.1 g3) (h5.2 g4)
theorem tys_ok {vs : List Va} : ∀ {l : List Ex}, (Ex.tys vs l).2 = 0 → ∀ x ∈ l, (Ex.ty vs x).2 = 0
  | [], _, x, hx => by cases hx
  | e :: l, h, x, hx => by
    simp only [Ex.tys] at h
    cases h1 : ((Ex.ty vs e).2 != 0)
    · rw [h1] at h
      simp only [cond_false] at h
      cases h2 : ((Ex.tys vs l).2 != 0)
      · rcases List.mem_cons.1 hx with rfl | hx
        · simpa using h1
        · exact tys_ok (by simpa using h2) x hx
      · rw [h2] at h
        simp only [cond_true] at h
        rw [h] at h2; simp at h2
    · rw [h1] at h
      simp only [cond_true] at h
      rw [h] at h1; simp at h1
theorem fil_ty (vs : List Va) (n : Int) : ∀ e : Ex, (e.ty vs).2 = 0 → (fil vs n e).ty vs = e.ty vs := by
  intro e
  induction e using Ex.ind with
  | h o m s l ih =>
    intro h
    by_cases ho : o = 4
    · subst ho
      rw [show fil vs n (.mk 4 m s l) = filV vs n (.mk 4 m s l) by simp [fil]]
      rcases filV_cases vs n (.mk 4 m s l) with h | ⟨v, t, hf, hv, ht, h⟩
      · rw [h]
      · rw [h]
        have hf' : vs.find? (fun v => v.name == s) = some v := hf
        have : varTy vs s = (t, 0) := by
          unfold varTy
          rw [hf']
          have : goodB v.ty = true := by rw [hv]; rcases ht with rfl | rfl | rfl <;> rfl
          simp only [this, cond_true]
          rw [hv]
        simp only [Ex.ty, this]
        rcases ht with rfl | rfl | rfl <;> simp
    · have hfil : fil vs n (.mk o m s l) = .mk o m s (l.map (fil vs n)) := by simp [fil, ho, filL_eq]
      rw [hfil]
      by_cases h3 : o = 1 ∨ o = 2 ∨ o = 3
      · simp only [Ex.ty]
        rcases h3 with rfl | rfl | rfl <;> simp
      · have hty : ∀ l, Ex.ty vs (.mk o m s l) = finT o (Ex.tys vs l) := fun l => by
          simp only [Ex.ty]
          rw [if_neg (by omega), if_neg (by omega), if_neg (by omega), if_neg ho]
        rw [hty, hty]
        rw [hty] at h
        have h2 : (Ex.tys vs l).2 = 0 := by
          cases hz : ((Ex.tys vs l).2 != 0)
          · simpa using hz
          · rw [finT, hz] at h
            simp only [cond_true] at h
            exact h
        have hl : ∀ l : List Ex, (∀ x ∈ l, (fil vs n x).ty vs = x.ty vs) → Ex.tys vs (l.map (fil vs n)) = Ex.tys vs l := by
          intro l
          induction l with
          | nil => intro _; rfl
          | cons x l ihl =>
            intro hx
            simp only [List.map_cons, Ex.tys, hx x (by simp), ihl fun y hy => hx y (by simp [hy])]
        rw [hl l fun x hx => ih x hx (tys_ok h2 x hx)]
theorem two_good {op a b : Int} (ha : goodB a = true) (hb : goodB b = true) (h : (twoS op a b).2 = true) : goodB (twoS op a b).1 = true := by
  unfold twoS at h ⊢
  have hari : ∀ t, ariT op a b = some t → goodB t = true := by
    intro t ht
    unfold ariT at ht
    cases hf : (ariL.find? fun p => p.1 == (op, a, b)) with
    | none => rw [hf] at ht; cases ht
    | some p =>
      rw [hf] at ht; cases ht
      have : ∀ p ∈ ariL, goodB p.2 = true := by decide
      exact this p (List.mem_of_find?_eq_some hf)
  by_cases h1 : op = 10 ∨ op = 11
  · rw [if_pos h1] at h ⊢
    cases hc : (a == b) <;> rw [hc] at h <;> first | rfl | cases h
  rw [if_neg h1] at h ⊢
  by_cases h2 : op = 12 ∨ op = 13
  · rw [if_pos h2] at h ⊢
    cases hc : (a == b && a != 5) <;> rw [hc] at h <;> first | rfl | cases h
  rw [if_neg h2] at h ⊢
  by_cases h3 : op = 14 ∨ op = 15
  · rw [if_pos h3] at h ⊢
    cases hc : (a == b && a == 5) <;> rw [hc] at h <;> first | rfl | cases h
  rw [if_neg h3] at h ⊢
  by_cases h4 : op = 17 ∨ op = 18
  · rw [if_pos h4] at h ⊢
    cases hc : (a == b && a != 5) <;> rw [hc] at h <;> first | exact ha | cases h
  rw [if_neg h4] at h ⊢
  cases hc : ariT op a b with
  | none => rw [hc] at h; cases h
  | some t => exact hari t hc
theorem res_good {op : Int} {l : List Int} (h : (resS op l).2 = true) : goodB (resS op l).1 = true := by
  unfold resS at h ⊢
  cases hg : l.all goodB with
  | false => rw [hg] at h; simp at h
  | true =>
    rw [hg] at h
    simp only [Bool.not_true, cond_false] at h ⊢
    simp only [List.all_eq_true] at hg
    match l, hg, h with
    | [a], hg, h =>
      simp only at h ⊢
      unfold oneS at h ⊢
      have := hg a (by simp)
      repeat' split at h
      all_goals first
        | (cases h1 : (a == 5) <;> simp_all <;> done)
        | (cases h1 : (a == 1 || (a == 2 || a == 3)) <;> simp_all <;> done)
        | simp_all
    | [a, b], hg, h => exact two_good (hg a (by simp)) (hg b (by simp)) h
    | [a, b, c], hg, h =>
      simp only at h ⊢
      unfold threeS at h ⊢
      cases h1 : (op == 19 && (a == 5 && b == c)) with
      | false => rw [h1] at h; simp at h
      | true => simpa using hg b (by simp)
theorem ty_good (vs : List Va) : ∀ e : Ex, (e.ty vs).2 = 0 → goodB (e.ty vs).1 = true := by
  intro e h
  obtain ⟨o, m, s, l⟩ := e
  simp only [Ex.ty] at h ⊢
  split
  · rfl
  split
  · rfl
  split
  · rfl
  split
  · rename_i h1 h2 h3 h4
    rw [if_neg h1, if_neg h2, if_neg h3, if_pos h4] at h
    unfold varTy at h ⊢
    cases hf : vs.find? (fun v => v.name == s) with
    | none => rw [hf] at h; simp at h
    | some v =>
      rw [hf] at h
      simp only at h ⊢
      cases hg : goodB v.ty with
      | false => rw [hg] at h; simp at h
      | true => simpa using hg
  · rename_i h1 h2 h3 h4
    rw [if_neg h1, if_neg h2, if_neg h3, if_neg h4] at h
    unfold finT at h ⊢
    cases hz : ((Ex.tys vs l).2 != 0) with
    | true => rw [hz] at h; simp only [cond_true] at h; rw [h] at hz; simp at hz
    | false =>
      rw [hz] at h
      simp only [cond_false] at h ⊢
      cases hr : (resS o (Ex.tys vs l).1).2 with
      | false => rw [hr] at h; simp at h
      | true => simpa using res_good hr
theorem Sound_law {vs : List Va} (hl : vs.length ≤ big) {e : Ex} (hw : Wd e) {n : Int} (h0 : 0 ≤ n) (h1 : n ≤ 255) : f_u20q e.op e.num e.txt (EX e.args) (EV vs) n = some true := by
  obtain ⟨b, hb, _⟩ := short_val hl
  rw [f_u20q_eq, tr_u20q, great_val hw, hb, live_val]
  by_cases hg : e.nodes > 200
  · simp [hg]
  · have hn : e.nodes ≤ big := by simp only [big]; omega
    have hw1 : IntKind.i64.wrap n = n := wrap64 (by omega) (by omega)
    have hn2 : (fil vs n e).nodes ≤ big := by have := fil_nodes vs n e; omega
    have hO2 := f_u83q_val hl hn2
    rw [hw1, f_u83q_val hl hn, f_u67q_val hl (by omega), decide_eq_false hg]
    cases b
    · simp
    · simp only [ev_bi_some, br_eq, sm_some, gv_some, cond_false, cond_true, Bool.not_true, ev_br, outX, hO2, f_u86q_val]
      cases hf : ((ofS e vs).2 != 0)
      · have hz : (ofS e vs).2 = 0 := by simpa using hf
        have hv : validS e = 0 := by
          cases hq : (validS e != 0)
          · simpa using hq
          · rw [ofS, hq] at hz; simp only [cond_true] at hz; exact hz
        have hof : ofS e vs = e.ty vs := by unfold ofS; simp [hv]
        have hof2 : ofS (fil vs n e) vs = (fil vs n e).ty vs := by unfold ofS; simp [fil_valid vs h0 h1 hv]
        rw [hof] at hz
        have h3 := fil_ty vs n e hz
        have h4 := ty_good vs e hz
        simp only [hof, hof2, h3, h4, hz]
        simp
      · simp
end Go.Proofs.H11d

/- Expressions: what the printed functions come to. -/
import Derived.Test.YtlgbnjnkcoiceaaGreatDoorX12Tok
import Derived.Test.YtlgbnjnkcoiceaaGreatDoorExA
set_option linter.unusedVariables false
set_option linter.unusedSimpArgs false
set_option linter.unnecessarySimpa false
namespace Go.Proofs.H12
open Go Go.Eng Go.Tk
set_option maxRecDepth 20000
theorem f_u131q_val {e : Ex} (h : e.nodes ≤ big) : f_u131q e.op e.num e.txt (EX e.args) = some (e.nodes : Int) := by
  refine limO_of (n := e.dep) ?_
  induction e using Ex.ind with
  | h o n s l ih =>
    intro m hm
    cases m with
    | zero => simp [Ex.dep] at hm
    | succ k =>
      simp only [Ex.op, Ex.num, Ex.txt, Ex.args, N_u131q, tr_u131q]
      simp only [Ex.nodes, Ex.dep] at h hm
      have hll := Ex.nodesL_len l
      have key : l_u84q (N_u131q k) (1, EX l, ((EX l).length : Int), 0) = some (0, ((l.foldl (fun a x => a + Ex.nodes x) 1 : Nat) : Int), EX l, (l.length : Int), (l.length : Int)) := by
        rw [l_u84q_eq]
        refine loop_fold (l := l) (hd := fun n a => (((a : Nat) : Int), EX l, ((EX l).length : Int), (n : Int))) (f := fun a x => a + Ex.nodes x) (jx := fun _ => 0) (inv := fun n a => a = 1 + Ex.nodesL (l.take n)) ?_ ?_ ?_ ?_ |>.trans ?_
        · simp [Ex.nodesL]
        · intro n a hn ha
          rw [ha, List.take_succ_eq_append_getElem hn, Ex.nodesL_app]; simp [Ex.nodesL]; omega
        · intro n a hn ha
          have hx : l[n] ∈ l := List.getElem_mem hn
          have h1 := Ex.nodesL_mem hx
          have h2 := Ex.depL_mem hx
          have hs : Ex.nodesL (l.take (n + 1)) ≤ Ex.nodesL l := by
            conv => rhs; rw [← List.take_append_drop (n + 1) l, Ex.nodesL_app]
            omega
          rw [List.take_succ_eq_append_getElem hn, Ex.nodesL_app] at hs
          simp only [Ex.nodesL] at hs
          have hw : IntKind.i64.wrap ((a : Int) + (l[n].nodes : Int)) = ((a + l[n].nodes : Nat) : Int) := by
            simp only [big] at h
            rw [wrap64 (by omega) (by omega)]; simp
          have hg := ih l[n] hx (by omega) k (by omega)
          simp only [st_u84q, st_u84q_0, List.length_map, lt_at hn, okX hn, qx0 hn, qx1 hn, qx2 hn, qx3 hn, hg, ev_br, ev_at, ev_bi_some, cond_true, hw, wrap_succ hn (show l.length ≤ big by omega)]
        · intro a ha
          simp [st_u84q, st_u84q_0]
        · simp
      rw [key, Ex.nodes_fold]
      simp only [pj_some, if_true, ev_bi_some, ev_at, Ex.nodes]
      congr 2; omega
theorem f_u132q_val {e : Ex} (h : e.nodes ≤ big) : f_u132q e.op e.num e.txt (EX e.args) = some (e.dep : Int) := by
  refine limO_of (n := e.dep) ?_
  induction e using Ex.ind with
  | h o n s l ih =>
    intro m hm
    cases m with
    | zero => simp [Ex.dep] at hm
    | succ k =>
      have hdl := Ex.dep_le (.mk o n s l)
      simp only [Ex.op, Ex.num, Ex.txt, Ex.args, N_u132q, tr_u132q]
      simp only [Ex.nodes, Ex.dep] at h hm hdl
      have hll := Ex.nodesL_len l
      have key : l_u85q (N_u132q k) (0, EX l, ((EX l).length : Int), 0) = some (0, ((l.foldl (fun a x => max a (Ex.dep x)) 0 : Nat) : Int), EX l, (l.length : Int), (l.length : Int)) := by
        rw [l_u85q_eq]
        refine loop_fold (l := l) (hd := fun n a => (((a : Nat) : Int), EX l, ((EX l).length : Int), (n : Int))) (f := fun a x => max a (Ex.dep x)) (jx := fun _ => 0) (inv := fun _ _ => True) trivial (fun _ _ _ _ => trivial) ?_ ?_ |>.trans ?_
        · intro n a hn _
          have hx : l[n] ∈ l := List.getElem_mem hn
          have h1 := Ex.nodesL_mem hx
          have h2 := Ex.depL_mem hx
          have hg := ih l[n] hx (by omega) k (by omega)
          have hm : (if (l[n].dep : Int) > (a : Int) then (l[n].dep : Int) else (a : Int)) = ((max a l[n].dep : Nat) : Int) := by
            by_cases hc : a < l[n].dep
            · rw [if_pos (by omega), Nat.max_eq_right (by omega)]
            · rw [if_neg (by omega), Nat.max_eq_left (by omega)]
          simp only [st_u85q, st_u85q_0, List.length_map, lt_at hn, okX hn, qx0 hn, qx1 hn, qx2 hn, qx3 hn, hg, ev_br, ev_at, ev_bi_some, cond_true, hm, wrap_succ hn (show l.length ≤ big by omega)]
        · intro a _
          simp [st_u85q, st_u85q_0]
        · simp
      rw [key, Ex.dep_fold]
      have hw : IntKind.i64.wrap (((max 0 (Ex.depL l) : Nat) : Int) + 1) = ((Ex.depL l + 1 : Nat) : Int) := by
        simp only [big] at h
        rw [Nat.zero_max, wrap64 (by omega) (by omega)]; simp
      simp only [pj_some, if_true, ev_bi_some, ev_at, Ex.dep, hw]
theorem f_u62q_val (op : Int) : f_u62q op = some (operandsS op) := by
  rw [f_u62q_eq, tr_u62q]
  by_cases h1 : op = 1
  · subst h1; rfl
  by_cases h2 : op = 2
  · subst h2; rfl
  by_cases h3 : op = 3
  · subst h3; rfl
  by_cases h4 : op = 4
  · subst h4; rfl
  by_cases h5 : op = 9
  · subst h5; rfl
  by_cases h6 : op = 16
  · subst h6; rfl
  by_cases h7 : op = 19
  · subst h7; rfl
  have e1 : (op == 1) = false := by simpa using h1
  have e2 : (op == 2) = false := by simpa using h2
  have e3 : (op == 3) = false := by simpa using h3
  have e4 : (op == 4) = false := by simpa using h4
  have e5 : (op == 9) = false := by simpa using h5
  have e6 : (op == 16) = false := by simpa using h6
  have e7 : (op == 19) = false := by simpa using h7
  simp only [e1, e2, e3, e4, e5, e6, e7, ev_br, ev_at, cond_false, operandsS, h1, h2, h3, h4, h5, h6, h7, or_self, if_false, br_eq, cond_some, ev_bi_some]
  by_cases h8 : 5 ≤ op <;> by_cases h9 : op ≤ 18 <;> simp [h8, h9]
theorem f_u108q_val (e : Ex) : f_u108q e.op e.num e.txt (EX e.args) = some (formedB e) := by
  rw [f_u108q_eq, tr_u108q]
  simp only [f_u62q_val, ev_bi_some, ev_br, ev_at, cond_some, formedB, mostS, List.length_map]
  by_cases h1 : e.op = 1
  · simp only [h1]; cases (operandsS 1 == (e.args.length : Int)) <;> cases decide (e.num ≥ 0) <;> cases (e.txt == []) <;> simp
  by_cases h2 : e.op = 2
  · simp only [h2]; cases (operandsS 2 == (e.args.length : Int)) <;> cases decide (e.num ≥ 0) <;> cases (e.txt == []) <;> simp
  by_cases h3 : e.op = 3
  · simp only [h3]; cases (operandsS 3 == (e.args.length : Int)) <;> cases decide (e.num ≥ 0) <;> cases (e.txt == []) <;> simp
  have e1 : (e.op == 1) = false := by simpa using h1
  have e2 : (e.op == 2) = false := by simpa using h2
  have e3 : (e.op == 3) = false := by simpa using h3
  simp only [e1, e2, e3, h1, h2, h3, if_false, cond_false]
  cases (operandsS e.op == (e.args.length : Int)) <;> cases decide (e.num ≥ 0) <;> cases decide (e.num ≤ 0) <;> cases (e.txt == []) <;> rfl
theorem f_u63q_val (s : Bs) : f_u63q s = some (varS s) := by
  rw [f_u63q_eq, tr_u63q, f_u51q_val, varS]
  simp only [ev_bi_some, br_eq, cond_some, List.length_map]
  cases h0 : ((toksS s).2.2 == 0)
  · simp
  · cases hl : (toksS s).1 with
    | nil => simp
    | cons t l =>
      cases l with
      | nil =>
        have e1 : okAt ksT (ET [t]) 0 = true := okT (l := [t]) (n := 0) (by simp)
        have e2 : intOf (cellAt (ET [t]) 0 0) = t.kind := qt0 (l := [t]) (n := 0) (by simp)
        have e3 : strOf (cellAt (ET [t]) 0 2) = t.text := qt2 (l := [t]) (n := 0) (by simp)
        simp only [cond_true, e1, e2, e3, List.length_cons, List.length_nil, List.head?_cons]
        cases hk : (t.kind == 1) <;> simp
      | cons u l =>
        have : (((t :: u :: l).length : Int) == 1) = false := by simp; omega
        simp only [this, cond_true, cond_false, ev_bi_some, ev_at]
        simp
theorem f_u134q_val (e : Ex) : f_u134q e.op e.num e.txt (EX e.args) = some (namedB e) := by
  rw [f_u134q_eq, tr_u134q, f_u63q_val, namedB]
  cases (e.op != 4) <;> simp
theorem every_key : ∀ (e : Ex), e.nodes ≤ big → ∀ n, 4 * e.dep ≤ n → (N_u133q n).1 e.op e.num e.txt (EX e.args) = some (e.allX formedB) := by
  intro e
  induction e using Ex.ind with
  | h o n s l ih =>
    intro h m hm
    have hll := Ex.nodesL_len l
    have hal := Ex.allX_eq formedB (.mk o n s l)
    simp only [Ex.nodes, Ex.dep] at h hm
    obtain ⟨k, rfl⟩ : ∃ k, m = k + 4 := ⟨m - 4, by omega⟩
    have hloop : l_u3q ((N_u133q (k + 1)).1) ((N_u133q (k + 1)).2.1) ((N_u133q (k + 1)).2.2.1) ((N_u133q (k + 1)).2.2.2) (EX l, ((EX l).length : Int), 0) = some (seek (fun x => !Ex.allX formedB x) (fun _ => 0) 1 l, EX l, ((EX l).length : Int), ((l.findIdx (fun x => !Ex.allX formedB x) : Nat) : Int)) := by
      rw [l_u3q_eq]
      refine loop_search (hd := fun n => (EX l, ((EX l).length : Int), (n : Int))) (jx := fun _ => 0) _ 1 (fun n hn => ?_) ?_
      · have hx : l[n] ∈ l := List.getElem_mem hn
        have h1 := Ex.nodesL_mem hx
        have h2 := Ex.depL_mem hx
        have hg := ih l[n] hx (by omega) k (by omega)
        have hg1 : (N_u133q (k + 1)).2.2.2 l[n].op l[n].num l[n].txt (EX l[n].args) = some (!l[n].allX formedB) := by
          simp only [N_u133q, tr_u86q, hg, ev_bi_some, ev_at]
        simp only [st_u3q, st_u3q_0, List.length_map, lt_at hn, okX hn, qx0 hn, qx1 hn, qx2 hn, qx3 hn, hg1, ev_br, ev_at, ev_bi_some, cond_true, wrap_succ hn (show l.length ≤ big by omega)]
        cases l[n].allX formedB <;> rfl
      · simp [st_u3q, st_u3q_0]
    have hidx : (N_u133q (k + 2)).2.2.1 (EX l) = some (if l.any (fun x => !Ex.allX formedB x) then ((l.findIdx (fun x => !Ex.allX formedB x) : Nat) : Int) else -1) := by
      rw [N_u133q]
      simp only [tr_u6q, hloop, seek_const]
      cases l.any (fun x => !Ex.allX formedB x) <;> simp
    have hcon : (N_u133q (k + 3)).2.1 (EX l) = some (l.any (fun x => !Ex.allX formedB x)) := by
      rw [N_u133q]
      simp only [tr_u1q, hidx, ev_bi_some, ev_at]
      cases l.any (fun x => !Ex.allX formedB x) <;> simp
    rw [N_u133q]
    have hf := f_u108q_val (.mk o n s l)
    simp only [Ex.op, Ex.num, Ex.txt, Ex.args] at hf ⊢
    simp only [tr_u133q, hf, hcon, ev_bi_some, sm_some, gv_some, br_eq, cond_true]
    rw [hal, Ex.args]
    have hna : (!l.any (fun x => !Ex.allX formedB x)) = l.all (Ex.allX formedB) := by
      rw [List.not_any_eq_all_not]; simp
    cases formedB (.mk o n s l) <;> simp [hna]
theorem f_u133q_val {e : Ex} (h : e.nodes ≤ big) : f_u133q e.op e.num e.txt (EX e.args) = some (e.allX formedB) :=
  limO_of (every_key e h)
theorem everya_key : ∀ (e : Ex), e.nodes ≤ big → ∀ n, 4 * e.dep ≤ n → (N_u107q n).1 e.op e.num e.txt (EX e.args) = some (e.allX namedB) := by
  intro e
  induction e using Ex.ind with
  | h o n s l ih =>
    intro h m hm
    have hll := Ex.nodesL_len l
    have hal := Ex.allX_eq namedB (.mk o n s l)
    simp only [Ex.nodes, Ex.dep] at h hm
    obtain ⟨k, rfl⟩ : ∃ k, m = k + 4 := ⟨m - 4, by omega⟩
    have hloop : l_u2q ((N_u107q (k + 1)).1) ((N_u107q (k + 1)).2.1) ((N_u107q (k + 1)).2.2.1) ((N_u107q (k + 1)).2.2.2) (EX l, ((EX l).length : Int), 0) = some (seek (fun x => !Ex.allX namedB x) (fun _ => 0) 1 l, EX l, ((EX l).length : Int), ((l.findIdx (fun x => !Ex.allX namedB x) : Nat) : Int)) := by
      rw [l_u2q_eq]
      refine loop_search (hd := fun n => (EX l, ((EX l).length : Int), (n : Int))) (jx := fun _ => 0) _ 1 (fun n hn => ?_) ?_
      · have hx : l[n] ∈ l := List.getElem_mem hn
        have h1 := Ex.nodesL_mem hx
        have h2 := Ex.depL_mem hx
        have hg := ih l[n] hx (by omega) k (by omega)
        have hg1 : (N_u107q (k + 1)).2.2.2 l[n].op l[n].num l[n].txt (EX l[n].args) = some (!l[n].allX namedB) := by
          simp only [N_u107q, tr_u61q, hg, ev_bi_some, ev_at]
        simp only [st_u2q, st_u2q_0, List.length_map, lt_at hn, okX hn, qx0 hn, qx1 hn, qx2 hn, qx3 hn, hg1, ev_br, ev_at, ev_bi_some, cond_true, wrap_succ hn (show l.length ≤ big by omega)]
        cases l[n].allX namedB <;> rfl
      · simp [st_u2q, st_u2q_0]
    have hidx : (N_u107q (k + 2)).2.2.1 (EX l) = some (if l.any (fun x => !Ex.allX namedB x) then ((l.findIdx (fun x => !Ex.allX namedB x) : Nat) : Int) else -1) := by
      rw [N_u107q]
      simp only [tr_u4q, hloop, seek_const]
      cases l.any (fun x => !Ex.allX namedB x) <;> simp
    have hcon : (N_u107q (k + 3)).2.1 (EX l) = some (l.any (fun x => !Ex.allX namedB x)) := by
      rw [N_u107q]
      simp only [tr_u0q, hidx, ev_bi_some, ev_at]
      cases l.any (fun x => !Ex.allX namedB x) <;> simp
    rw [N_u107q]
    have hf := f_u134q_val (.mk o n s l)
    simp only [Ex.op, Ex.num, Ex.txt, Ex.args] at hf ⊢
    simp only [tr_u107q, hf, hcon, ev_bi_some, sm_some, gv_some, br_eq, cond_true]
    rw [hal, Ex.args]
    have hna : (!l.any (fun x => !Ex.allX namedB x)) = l.all (Ex.allX namedB) := by
      rw [List.not_any_eq_all_not]; simp
    cases namedB (.mk o n s l) <;> simp [hna]
theorem f_u107q_val {e : Ex} (h : e.nodes ≤ big) : f_u107q e.op e.num e.txt (EX e.args) = some (e.allX namedB) :=
  limO_of (everya_key e h)
theorem f_u60q_val {e : Ex} (h : e.nodes ≤ big) : f_u60q e.op e.num e.txt (EX e.args) = some (validS e) := by
  rw [f_u60q_eq, tr_u60q, f_u131q_val h, f_u132q_val h, f_u133q_val h, f_u107q_val h, validS]
  have e1 : decide ((e.nodes : Int) > 64) = decide (e.nodes > 64) := by
    by_cases h : e.nodes > 64 <;> simp [h] <;> omega
  have e2 : decide (gv (some (e.dep : Int)) > 8) = decide (e.dep > 8) := by
    show decide ((e.dep : Int) > 8) = _
    by_cases h : e.dep > 8 <;> simp [h] <;> omega
  simp only [ev_bi_some, br_eq, sm_some, e1, e2]
  cases decide (e.nodes > 64) <;> cases decide (e.dep > 8) <;> cases e.allX formedB <;> cases e.allX namedB <;> rfl
end Go.Proofs.H12

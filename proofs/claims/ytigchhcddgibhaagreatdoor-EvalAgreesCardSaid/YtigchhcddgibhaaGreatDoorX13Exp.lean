/- Expressions: what the printed functions come to. -/
import Derived.Test.YtigchhcddgibhaaGreatDoorX13Tok
import Derived.Test.YtigchhcddgibhaaGreatDoorExA
set_option linter.unusedVariables false
set_option linter.unusedSimpArgs false
set_option linter.unnecessarySimpa false
namespace Go.Proofs.H13
open Go Go.Eng Go.Tk
set_option maxRecDepth 20000
theorem qzd {e : Ex} (h : e.nodes ≤ big) : qtx e.op e.num e.txt (EX e.args) = some (e.nodes : Int) := by
 refine qcR (n := e.dep) ?_
 induction e using Ex.ind with
 | h o n s l ih =>
  intro m hm
  cases m with
  | zero => simp [Ex.dep] at hm
  | succ k =>
   simp only [Ex.op, Ex.num, Ex.txt, Ex.args, qe2, quH]
   simp only [Ex.nodes, Ex.dep] at h hm
   have hll := Ex.nodesL_len l
   have key : qtQ (qe2 k) (1, EX l, ((EX l).length : Int), 0) = some (0, ((l.foldl (fun a x => a + Ex.nodes x) 1 : Nat) : Int), EX l, (l.length : Int), (l.length : Int)) := by
    rw [qsc]
    refine qpm (l := l) (hd := fun n a => (((a : Nat) : Int), EX l, ((EX l).length : Int), (n : Int))) (f := fun a x => a + Ex.nodes x) (jx := fun _ => 0) (inv := fun n a => a = 1 + Ex.nodesL (l.take n)) ?_ ?_ ?_ ?_ |>.trans ?_
    ·simp [Ex.nodesL]
    ·intro n a hn ha
     rw [ha, List.take_succ_eq_append_getElem hn, Ex.nodesL_app]; simp [Ex.nodesL]; omega
    ·intro n a hn ha
     have hx : l[n] ∈ l := List.getElem_mem hn
     have h1 := Ex.nodesL_mem hx
     have h2 := Ex.depL_mem hx
     have hs : Ex.nodesL (l.take (n + 1)) ≤ Ex.nodesL l := by
      conv => rhs; rw [← List.take_append_drop (n + 1) l, Ex.nodesL_app]
      omega
     rw [List.take_succ_eq_append_getElem hn, Ex.nodesL_app] at hs
     simp only [Ex.nodesL] at hs
     have hw : IntKind.i64.wrap ((a : Int) + (l[n].nodes : Int)) = ((a + l[n].nodes : Nat) : Int) := by
      simp only [big] at h
      rw [wrap64 (by omega) (by omega)]; simp
     have hg := ih l[n] hx (by omega) k (by omega)
     simp only [qjD, qk5, List.length_map, qau hn, okX hn, qx0 hn, qx1 hn, qx2 hn, qx3 hn, hg, ev_br, ev_at, ev_bi_some, cond_true, hw, qao hn (show l.length ≤ big by omega)]
    ·intro a ha
     simp [qjD, qk5]
    ·simp
   rw [key, Ex.nodes_fold]
   simp only [pj_some, if_true, ev_bi_some, ev_at, Ex.nodes]
   congr 2; omega
theorem qze {e : Ex} (h : e.nodes ≤ big) : qoi e.op e.num e.txt (EX e.args) = some (e.dep : Int) := by
 refine qcR (n := e.dep) ?_
 induction e using Ex.ind with
 | h o n s l ih =>
  intro m hm
  cases m with
  | zero => simp [Ex.dep] at hm
  | succ k =>
   have hdl := Ex.dep_le (.mk o n s l)
   simp only [Ex.op, Ex.num, Ex.txt, Ex.args, qe3, quI]
   simp only [Ex.nodes, Ex.dep] at h hm hdl
   have hll := Ex.nodesL_len l
   have key : qtR (qe3 k) (0, EX l, ((EX l).length : Int), 0) = some (0, ((l.foldl (fun a x => max a (Ex.dep x)) 0 : Nat) : Int), EX l, (l.length : Int), (l.length : Int)) := by
    rw [qsd]
    refine qpm (l := l) (hd := fun n a => (((a : Nat) : Int), EX l, ((EX l).length : Int), (n : Int))) (f := fun a x => max a (Ex.dep x)) (jx := fun _ => 0) (inv := fun _ _ => True) trivial (fun _ _ _ _ => trivial) ?_ ?_ |>.trans ?_
    ·intro n a hn _
     have hx : l[n] ∈ l := List.getElem_mem hn
     have h1 := Ex.nodesL_mem hx
     have h2 := Ex.depL_mem hx
     have hg := ih l[n] hx (by omega) k (by omega)
     have hm : (if (l[n].dep : Int) > (a : Int) then (l[n].dep : Int) else (a : Int)) = ((max a l[n].dep : Nat) : Int) := by
      by_cases hc : a < l[n].dep
      ·rw [if_pos (by omega), Nat.max_eq_right (by omega)]
      ·rw [if_neg (by omega), Nat.max_eq_left (by omega)]
     simp only [qjE, qk6, List.length_map, qau hn, okX hn, qx0 hn, qx1 hn, qx2 hn, qx3 hn, hg, ev_br, ev_at, ev_bi_some, cond_true, hm, qao hn (show l.length ≤ big by omega)]
    ·intro a _
     simp [qjE, qk6]
    ·simp
   rw [key, Ex.dep_fold]
   have hw : IntKind.i64.wrap (((max 0 (Ex.depL l) : Nat) : Int) + 1) = ((Ex.depL l + 1 : Nat) : Int) := by
    simp only [big] at h
    rw [Nat.zero_max, wrap64 (by omega) (by omega)]; simp
   simp only [pj_some, if_true, ev_bi_some, ev_at, Ex.dep, hw]
theorem qEI (op : Int) : qlx op = some (qaV op) := by
 rw [qJ3, qvq]
 by_cases h1 : op = 1
 ·subst h1; rfl
 by_cases h2 : op = 2
 ·subst h2; rfl
 by_cases h3 : op = 3
 ·subst h3; rfl
 by_cases h4 : op = 4
 ·subst h4; rfl
 by_cases h5 : op = 9
 ·subst h5; rfl
 by_cases h6 : op = 16
 ·subst h6; rfl
 by_cases h7 : op = 19
 ·subst h7; rfl
 have e1 : (op == 1) = false := by simpa using h1
 have e2 : (op == 2) = false := by simpa using h2
 have e3 : (op == 3) = false := by simpa using h3
 have e4 : (op == 4) = false := by simpa using h4
 have e5 : (op == 9) = false := by simpa using h5
 have e6 : (op == 16) = false := by simpa using h6
 have e7 : (op == 19) = false := by simpa using h7
 simp only [e1, e2, e3, e4, e5, e6, e7, ev_br, ev_at, cond_false, qaV, h1, h2, h3, h4, h5, h6, h7, or_self, if_false, br_eq, cond_some, ev_bi_some]
 by_cases h8 : 5 ≤ op <;> by_cases h9 : op ≤ 18 <;> simp [h8, h9]
theorem qy8 (e : Ex) : qod e.op e.num e.txt (EX e.args) = some (qas e) := by
 rw [qDq, qml]
 simp only [qEI, ev_bi_some, ev_br, ev_at, cond_some, qas, qgt, List.length_map]
 by_cases h1 : e.op = 1
 ·simp only [h1]; cases (qaV 1 == (e.args.length : Int)) <;> cases decide (e.num ≥ 0) <;> cases (e.txt == []) <;> simp
 by_cases h2 : e.op = 2
 ·simp only [h2]; cases (qaV 2 == (e.args.length : Int)) <;> cases decide (e.num ≥ 0) <;> cases (e.txt == []) <;> simp
 by_cases h3 : e.op = 3
 ·simp only [h3]; cases (qaV 3 == (e.args.length : Int)) <;> cases decide (e.num ≥ 0) <;> cases (e.txt == []) <;> simp
 have e1 : (e.op == 1) = false := by simpa using h1
 have e2 : (e.op == 2) = false := by simpa using h2
 have e3 : (e.op == 3) = false := by simpa using h3
 simp only [e1, e2, e3, h1, h2, h3, if_false, cond_false]
 cases (qaV e.op == (e.args.length : Int)) <;> cases decide (e.num ≥ 0) <;> cases decide (e.num ≤ 0) <;> cases (e.txt == []) <;> rfl
theorem qEJ (s : Bs) : qrU s = some (qj8 s) := by
 rw [qJ4, qvr, qEC, qj8]
 simp only [ev_bi_some, br_eq, cond_some, List.length_map]
 cases h0 : ((qjY s).2.2 == 0)
 ·simp
 ·cases hl : (qjY s).1 with
  | nil => simp
  | cons t l =>
   cases l with
   | nil =>
    have e1 : qaB ksT (ET [t]) 0 = true := okT (l := [t]) (n := 0) (by simp)
    have e2 : intOf (cellAt (ET [t]) 0 0) = t.kind := qt0 (l := [t]) (n := 0) (by simp)
    have e3 : strOf (cellAt (ET [t]) 0 2) = t.text := qt2 (l := [t]) (n := 0) (by simp)
    simp only [cond_true, e1, e2, e3, List.length_cons, List.length_nil, List.head?_cons]
    cases hk : (t.kind == 1) <;> simp
   | cons u l =>
    have : (((t :: u :: l).length : Int) == 1) = false := by simp; omega
    simp only [this, cond_true, cond_false, ev_bi_some, ev_at]
    simp
theorem qzg (e : Ex) : qoj e.op e.num e.txt (EX e.args) = some (qbp e) := by
 rw [qDG, qmA, qEJ, qbp]
 cases (e.op != 4) <;> simp
theorem qJl : ∀ (e : Ex), e.nodes ≤ big → ∀ n, 4 * e.dep ≤ n → (qaq n).1 e.op e.num e.txt (EX e.args) = some (e.allX qas) := by
 intro e
 induction e using Ex.ind with
 | h o n s l ih =>
  intro h m hm
  have hll := Ex.nodesL_len l
  have hal := Ex.allX_eq qas (.mk o n s l)
  simp only [Ex.nodes, Ex.dep] at h hm
  obtain ⟨k, rfl⟩ : ∃ k, m = k + 4 := ⟨m - 4, by omega⟩
  have hloop : qKZ ((qaq (k + 1)).1) ((qaq (k + 1)).2.1) ((qaq (k + 1)).2.2.1) ((qaq (k + 1)).2.2.2) (EX l, ((EX l).length : Int), 0) = some (qgJ (fun x => !Ex.allX qas x) (fun _ => 0) 1 l, EX l, ((EX l).length : Int), ((l.findIdx (fun x => !Ex.allX qas x) : Nat) : Int)) := by
   rw [qBu]
   refine qaK (hd := fun n => (EX l, ((EX l).length : Int), (n : Int))) (jx := fun _ => 0) _ 1 (fun n hn => ?_) ?_
   ·have hx : l[n] ∈ l := List.getElem_mem hn
    have h1 := Ex.nodesL_mem hx
    have h2 := Ex.depL_mem hx
    have hg := ih l[n] hx (by omega) k (by omega)
    have hg1 : (qaq (k + 1)).2.2.2 l[n].op l[n].num l[n].txt (EX l[n].args) = some (!l[n].allX qas) := by
     simp only [qaq, quA, hg, ev_bi_some, ev_at]
    simp only [qxL, quu, List.length_map, qau hn, okX hn, qx0 hn, qx1 hn, qx2 hn, qx3 hn, hg1, ev_br, ev_at, ev_bi_some, cond_true, qao hn (show l.length ≤ big by omega)]
    cases l[n].allX qas <;> rfl
   ·simp [qxL, quu]
  have hidx : (qaq (k + 2)).2.2.1 (EX l) = some (if l.any (fun x => !Ex.allX qas x) then ((l.findIdx (fun x => !Ex.allX qas x) : Nat) : Int) else -1) := by
   rw [qaq]
   simp only [qPx, hloop, qaM]
   cases l.any (fun x => !Ex.allX qas x) <;> simp
  have hcon : (qaq (k + 3)).2.1 (EX l) = some (l.any (fun x => !Ex.allX qas x)) := by
   rw [qaq]
   simp only [qPv, hidx, ev_bi_some, ev_at]
   cases l.any (fun x => !Ex.allX qas x) <;> simp
  rw [qaq]
  have hf := qy8 (.mk o n s l)
  simp only [Ex.op, Ex.num, Ex.txt, Ex.args] at hf ⊢
  simp only [quJ, hf, hcon, ev_bi_some, sm_some, gv_some, br_eq, cond_true]
  rw [hal, Ex.args]
  have hna : (!l.any (fun x => !Ex.allX qas x)) = l.all (Ex.allX qas) := by
   rw [List.not_any_eq_all_not]; simp
  cases qas (.mk o n s l) <;> simp [hna]
theorem qzf {e : Ex} (h : e.nodes ≤ big) : qty e.op e.num e.txt (EX e.args) = some (e.allX qas) :=
 qcR (qJl e h)
theorem qC6 : ∀ (e : Ex), e.nodes ≤ big → ∀ n, 4 * e.dep ≤ n → (qap n).1 e.op e.num e.txt (EX e.args) = some (e.allX qbp) := by
 intro e
 induction e using Ex.ind with
 | h o n s l ih =>
  intro h m hm
  have hll := Ex.nodesL_len l
  have hal := Ex.allX_eq qbp (.mk o n s l)
  simp only [Ex.nodes, Ex.dep] at h hm
  obtain ⟨k, rfl⟩ : ∃ k, m = k + 4 := ⟨m - 4, by omega⟩
  have hloop : qKY ((qap (k + 1)).1) ((qap (k + 1)).2.1) ((qap (k + 1)).2.2.1) ((qap (k + 1)).2.2.2) (EX l, ((EX l).length : Int), 0) = some (qgJ (fun x => !Ex.allX qbp x) (fun _ => 0) 1 l, EX l, ((EX l).length : Int), ((l.findIdx (fun x => !Ex.allX qbp x) : Nat) : Int)) := by
   rw [qBt]
   refine qaK (hd := fun n => (EX l, ((EX l).length : Int), (n : Int))) (jx := fun _ => 0) _ 1 (fun n hn => ?_) ?_
   ·have hx : l[n] ∈ l := List.getElem_mem hn
    have h1 := Ex.nodesL_mem hx
    have h2 := Ex.depL_mem hx
    have hg := ih l[n] hx (by omega) k (by omega)
    have hg1 : (qap (k + 1)).2.2.2 l[n].op l[n].num l[n].txt (EX l[n].args) = some (!l[n].allX qbp) := by
     simp only [qap, qAo, hg, ev_bi_some, ev_at]
    simp only [qxK, qut, List.length_map, qau hn, okX hn, qx0 hn, qx1 hn, qx2 hn, qx3 hn, hg1, ev_br, ev_at, ev_bi_some, cond_true, qao hn (show l.length ≤ big by omega)]
    cases l[n].allX qbp <;> rfl
   ·simp [qxK, qut]
  have hidx : (qap (k + 2)).2.2.1 (EX l) = some (if l.any (fun x => !Ex.allX qbp x) then ((l.findIdx (fun x => !Ex.allX qbp x) : Nat) : Int) else -1) := by
   rw [qap]
   simp only [qPw, hloop, qaM]
   cases l.any (fun x => !Ex.allX qbp x) <;> simp
  have hcon : (qap (k + 3)).2.1 (EX l) = some (l.any (fun x => !Ex.allX qbp x)) := by
   rw [qap]
   simp only [qPu, hidx, ev_bi_some, ev_at]
   cases l.any (fun x => !Ex.allX qbp x) <;> simp
  rw [qap]
  have hf := qzg (.mk o n s l)
  simp only [Ex.op, Ex.num, Ex.txt, Ex.args] at hf ⊢
  simp only [quD, hf, hcon, ev_bi_some, sm_some, gv_some, br_eq, cond_true]
  rw [hal, Ex.args]
  have hna : (!l.any (fun x => !Ex.allX qbp x)) = l.all (Ex.allX qbp) := by
   rw [List.not_any_eq_all_not]; simp
  cases qbp (.mk o n s l) <;> simp [hna]
theorem qy7 {e : Ex} (h : e.nodes ≤ big) : qtw e.op e.num e.txt (EX e.args) = some (e.allX qbp) :=
 qcR (qC6 e h)
theorem qrT {e : Ex} (h : e.nodes ≤ big) : qoO e.op e.num e.txt (EX e.args) = some (qbr e) := by
 rw [qJ2, qvp, qzd h, qze h, qzf h, qy7 h, qbr]
 have e1 : decide ((e.nodes : Int) > 64) = decide (e.nodes > 64) := by
  by_cases h : e.nodes > 64 <;> simp [h] <;> omega
 have e2 : decide (gv (some (e.dep : Int)) > 8) = decide (e.dep > 8) := by
  show decide ((e.dep : Int) > 8) = _
  by_cases h : e.dep > 8 <;> simp [h] <;> omega
 simp only [ev_bi_some, br_eq, sm_some, e1, e2]
 cases decide (e.nodes > 64) <;> cases decide (e.dep > 8) <;> cases e.allX qas <;> cases e.allX qbp <;> rfl
end Go.Proofs.H13

/- The document's expressions (names, Validate): what the printed functions come to. -/
import Derived.Test.YthljpgljbpdmjaaGreatDoorX15cExp
set_option linter.unusedVariables false
set_option linter.unusedSimpArgs false
set_option linter.unnecessarySimpa false
namespace Go.Proofs.H15c
open Go Go.Eng Go.Tk
set_option maxRecDepth 20000
theorem qt5 {s : Bs} (hl : s.length ≤ big) : qkW (s, 0) = some (qix (fun c => !at8 qfm c) (fun _ => 0) 1 s, s, ((s.findIdx (fun c => !at8 qfm c) : Nat) : Int)) := by
 rw [qnS]
 refine qav (hd := fun n => (s, (n : Int))) (jx := fun _ => 0) _ 1 (fun n h => ?_) ?_
 ·simp only [qhd, qh2, qaK h, qeS h, qbw h, qai h hl, br_eq, cond_true, ev_br, ev_at, cond_some, ev_bi_some, at8, qfm, qud, qgb]
  have e1 : decide ((s[n].toNat : Int) < 97) = !decide ((s[n].toNat : Int) ≥ 97) := by by_cases h : (s[n].toNat : Int) ≥ 97 <;> simp [h] <;> omega
  have e2 : decide ((s[n].toNat : Int) > 122) = !decide ((s[n].toNat : Int) ≤ 122) := by by_cases h : (s[n].toNat : Int) ≤ 122 <;> simp [h] <;> omega
  have e3 : decide ((s[n].toNat : Int) < 48) = !decide ((s[n].toNat : Int) ≥ 48) := by by_cases h : (s[n].toNat : Int) ≥ 48 <;> simp [h] <;> omega
  have e4 : decide ((s[n].toNat : Int) > 57) = !decide ((s[n].toNat : Int) ≤ 57) := by by_cases h : (s[n].toNat : Int) ≤ 57 <;> simp [h] <;> omega
  rw [e1, e2, e3, e4, bne]
  cases decide ((s[n].toNat : Int) ≥ 97) <;> cases decide ((s[n].toNat : Int) ≤ 122) <;> cases decide ((s[n].toNat : Int) ≥ 48) <;> cases decide ((s[n].toNat : Int) ≤ 57) <;> cases ((s[n].toNat : Int) == 95) <;> rfl
 ·simp [qhd, qh2]
theorem qtL (s : Bs) : qkm s = some (qx6 s) := by
 rw [qwT, qjn]
 cases s with
 | nil => rfl
 | cons c r =>
  have e0 : decide (((c :: r).length : Int) < 1) = false := by simp only [List.length_cons, decide_eq_false_iff_not]; omega
  have e1 : inB (c :: r).length 0 = true := by simp [inB]
  have e2 : qaC (c :: r) 0 = (c.toNat : Int) := by simp [qaC, qda]
  have e3 : decide (((c :: r).length : Int) > 16) = !decide ((c :: r).length ≤ 16) := by
   by_cases h : (c :: r).length ≤ 16 <;> simp only [h, decide_true, decide_false, Bool.not_true, Bool.not_false, decide_eq_true_eq, decide_eq_false_iff_not] <;> omega
  simp only [e0, e1, e2, e3, br_eq, cond_false, cond_true, cond_some, ev_bi_some, ev_br, ev_at, qx6, at8, qud]
  cases h16 : decide ((c :: r).length ≤ 16)
  ·rfl
  ·have hl : (c :: r).length ≤ big := Nat.le_trans (of_decide_eq_true h16) (by decide)
   rw [qt5 hl, qas]
   have e4 : decide ((c.toNat : Int) < 97) = !decide ((c.toNat : Int) ≥ 97) := by by_cases h : (c.toNat : Int) ≥ 97 <;> simp [h] <;> omega
   have e5 : decide ((c.toNat : Int) > 122) = !decide ((c.toNat : Int) ≤ 122) := by by_cases h : (c.toNat : Int) ≤ 122 <;> simp [h] <;> omega
   rw [e4, e5]
   have e6 : (c :: r).any (fun c => !at8 qfm c) = !(c :: r).all (at8 qfm) := by rw [List.any_eq_not_all_not]; simp
   rw [e6]
   show _ = some (_ && (_ && (c :: r).all (at8 qfm)))
   cases decide ((c.toNat : Int) ≥ 97) <;> cases decide ((c.toNat : Int) ≤ 122) <;> cases (c :: r).all (at8 qfm) <;> simp
theorem qtz : qkc = some (ES wordsS) := by
 rw [qwK, qjc]; rfl
theorem qt6 (s : Bs) : qkX (s, ES wordsS, 0) = some (qix (s == ·) (fun _ => 0) 1 wordsS, s, ES wordsS, ((wordsS.findIdx (s == ·) : Nat) : Int)) := by
 rw [qnT]
 refine qav (hd := fun n => (s, ES wordsS, (n : Int))) (jx := fun _ => 0) _ 1 (fun n h => ?_) ?_
 ·simp only [qhe, qh3, List.length_map, qaK h, qFw h, qs0 h, ev_br, ev_at, cond_true, qai h (show wordsS.length ≤ big by decide)]
  rw [BEq.comm (a := wordsS[n]) (b := s)]
  cases (s == wordsS[n]) <;> rfl
 ·simp [qhe, qh3]
theorem qtM (s : Bs) : qhA s = some (qm3 s) := by
 rw [qwU, qjo, qtz]
 simp only [ev_bi_some, qt6, qas, qm3, has]
 cases wordsS.any (s == ·) <;> simp
theorem qxp (s : Bs) : qq1 s = some (qmP s) := by
 rw [qAQ, qqa, qtL, qtM, qNz]
 cases qx6 s <;> simp
theorem qoE : ∀ (e : Ex), Wd e → ∀ (most : Nat), most ≤ 1000000 → ∀ n, e.dep ≤ n → qb9 n e.op e.num e.txt (EX e.args) (most : Int) = some ((min e.nodes (most + 1) : Nat) : Int) := by
 intro e
 induction e using Ex.ind with
 | h o n s l ih =>
  intro hw most hmost m hm
  have hlen := hw.len
  simp only [Ex.args] at hlen
  have hwa : ∀ x ∈ l, Wd x := fun x hx => hw.arg (e := .mk o n s l) hx
  simp only [Ex.dep] at hm
  cases m with
  | zero => omega
  | succ k =>
   simp only [qb9, qpA, Ex.op, Ex.num, Ex.txt, Ex.args]
   have key : ∀ (r i c : Nat), i + r = l.length → c ≤ most + 1 → ∃ q, qrT (qb9 k) ((most : Int), (c : Int), (i : Int), o, n, s, EX l) = some (0, (most : Int), ((min (c + Ex.nodesL (l.drop i)) (most + 1) : Nat) : Int), q) := by
    intro r
    induction r with
    | zero =>
     intro i c hi hc
     have : i = l.length := by omega
     subst this
     refine ⟨((l.length : Int), o, n, s, EX l), ?_⟩
     rw [qg3, qar (j := 0)]
     ·rw [List.drop_length]; simp only [Ex.nodesL, Nat.add_zero]; rw [Nat.min_eq_left hc]
     ·simp [qgB, qhj]
    | succ r ihr =>
     intro i c hi hc
     have hn : i < l.length := by omega
     by_cases hcm : c ≤ most
     ·have hx : l[i] ∈ l := List.getElem_mem hn
      have h2 := Ex.depL_mem hx
      have hwr : IntKind.i64.wrap ((most : Int) - (c : Int)) = ((most - c : Nat) : Int) := by
       rw [wrap64 (by omega) (by omega)]; omega
      have hg := ih l[i] hx (hwa _ hx) (most - c) (by omega) k (by omega)
      have hpos := Ex.nodes_pos l[i]
      have hws : IntKind.i64.wrap ((c : Int) + ((min l[i].nodes (most - c + 1) : Nat) : Int)) = ((c + min l[i].nodes (most - c + 1) : Nat) : Int) := by
       rw [wrap64 (by omega) (by omega)]; omega
      have hst : (qgB (qb9 k) ((most : Int), (c : Int), (i : Int), o, n, s, EX l)).ev = some (.next ((most : Int), ((c + min l[i].nodes (most - c + 1) : Nat) : Int), ((i + 1 : Nat) : Int), o, n, s, EX l)) := by
       have e1 : decide ((c : Int) ≤ (most : Int)) = true := by simp; omega
       simp only [qgB, qhj, List.length_map, qaK hn, e1, br_eq, cond_true, ev_bi_some, ev_br, ev_at, okX hn, qx0 hn, qx1 hn, qx2 hn, qx3 hn, hwr, hg, hws, qai hn hlen]
      obtain ⟨q, hq⟩ := ihr (i + 1) (c + min l[i].nodes (most - c + 1)) (by omega) (by omega)
      refine ⟨q, ?_⟩
      rw [qg3] at hq ⊢
      rw [qaH hst, hq, drop_at hn]
      simp only [Ex.nodesL]
      congr 4
      omega
     ·refine ⟨((i : Int), o, n, s, EX l), ?_⟩
      rw [qg3, qar (j := 0)]
      ·have : min (c + Ex.nodesL (l.drop i)) (most + 1) = c := by omega
       rw [this]
      ·have e1 : decide ((c : Int) ≤ (most : Int)) = false := by simp; omega
       simp only [qgB, qhj, List.length_map, qaK hn, e1, br_eq, cond_true, cond_false, ev_bi_some, ev_br, ev_at]
   obtain ⟨q, hq⟩ := key l.length 0 1 (by omega) (by omega)
   have hq' : qrT (qb9 k) ((most : Int), 1, 0, o, n, s, EX l) = some (0, (most : Int), ((min (1 + Ex.nodesL (l.drop 0)) (most + 1) : Nat) : Int), q) := hq
   rw [hq']
   simp only [pj_some, if_true, ev_bi_some, ev_at, List.drop_zero, Ex.nodes]
   congr 3; omega
theorem qtB {e : Ex} (hw : Wd e) {most : Nat} (hm : most ≤ 1000000) : qke e.op e.num e.txt (EX e.args) (most : Int) = some (decide (e.nodes > most)) := by
 have hc : qoT e.op e.num e.txt (EX e.args) (most : Int) = some ((min e.nodes (most + 1) : Nat) : Int) := qcf (qoE e hw most hm)
 rw [qwL, qjd, hc]
 simp only [ev_bi_some, ev_at]
 congr 1
 by_cases h : e.nodes > most <;> simp [h] <;> omega
theorem qtA {e : Ex} (h : e.nodes ≤ big) : qkd e.op e.num e.txt (EX e.args) = some (e.dep : Int) := by
 refine qcf (n := e.dep) ?_
 induction e using Ex.ind with
 | h o n s l ih =>
  intro m hm
  cases m with
  | zero => simp [Ex.dep] at hm
  | succ k =>
   have hdl := Ex.dep_le (.mk o n s l)
   simp only [Ex.op, Ex.num, Ex.txt, Ex.args, qds, qpy]
   simp only [Ex.nodes, Ex.dep] at h hm hdl
   have hll := Ex.nodesL_len l
   have key : qvl (qds k) (0, 0, o, n, s, EX l) = some (0, ((l.foldl (fun a x => max a (Ex.dep x)) 0 : Nat) : Int), (l.length : Int), o, n, s, EX l) := by
    rw [qrS]
    refine qla (l := l) (hd := fun i a => (((a : Nat) : Int), (i : Int), o, n, s, EX l)) (f := fun a x => max a (Ex.dep x)) (jx := fun _ => 0) (inv := fun _ _ => True) trivial (fun _ _ _ _ => trivial) ?_ ?_
    ·intro i a hn _
     have hx : l[i] ∈ l := List.getElem_mem hn
     have h1 := Ex.nodesL_mem hx
     have h2 := Ex.depL_mem hx
     have hg := ih l[i] hx (by omega) k (by omega)
     have hm : (if (l[i].dep : Int) > (a : Int) then (l[i].dep : Int) else (a : Int)) = ((max a l[i].dep : Nat) : Int) := by
      by_cases hc : a < l[i].dep
      ·rw [if_pos (by omega), Nat.max_eq_right (by omega)]
      ·rw [if_neg (by omega), Nat.max_eq_left (by omega)]
     simp only [qmC, qmD, List.length_map, qaK hn, okX hn, qx0 hn, qx1 hn, qx2 hn, qx3 hn, hg, ev_br, ev_at, ev_bi_some, cond_true, hm, qai hn (show l.length ≤ big by omega)]
    ·intro a _
     simp [qmC, qmD]
   rw [key, Ex.dep_fold]
   have hw : IntKind.i64.wrap (((max 0 (Ex.depL l) : Nat) : Int) + 1) = ((Ex.depL l + 1 : Nat) : Int) := by
    simp only [big] at h
    rw [Nat.zero_max, wrap64 (by omega) (by omega)]; simp
   simp only [pj_some, if_true, ev_bi_some, ev_at, Ex.dep, hw]
theorem qxn (op : Int) : qqZ op = some (qa6 op) := by
 rw [qAO, qp8]
 simp only [br_eq, cond_some, ev_bi_some, ev_br, ev_at, qa6]
 by_cases h0 : op < 1
 ·simp [h0]; rw [if_neg (by omega), if_neg (by omega), if_neg (by omega), if_neg (by omega)]
 by_cases h1 : op > 19
 ·simp [h0, h1]; rw [if_neg (by omega), if_neg (by omega), if_neg (by omega), if_neg (by omega)]
 by_cases h2 : op ≤ 4
 ·have e : op = 1 ∨ op = 2 ∨ op = 3 ∨ op = 4 := by omega
  rw [if_pos e]; simp [h0, h1, h2]
 by_cases h3 : op = 9
 ·subst h3; simp
 by_cases h4 : op = 16
 ·subst h4; simp
 by_cases h5 : op = 19
 ·subst h5; simp
 simp [h0, h1, h2, h3, h4, h5]
 rw [if_neg (by omega), if_pos (by omega)]
theorem qtN (op : Int) : qkn op = some (qmZ op) := by
 rw [qwV, qjp]
 simp only [ev_br, ev_at, cond_some, qmZ]
 by_cases h1 : op = 1
 ·simp [h1]
 by_cases h2 : op = 2
 ·simp [h2]
 by_cases h3 : op = 3
 ·simp [h3]
 have e1 : (op == 1) = false := by simpa using h1
 have e2 : (op == 2) = false := by simpa using h2
 have e3 : (op == 3) = false := by simpa using h3
 simp [h1, h2, h3, e1, e2, e3]
theorem qtD {e : Ex} (h : e.nodes ≤ big) : qoU e.op e.num e.txt (EX e.args) = some (e.allX qaJ) := by
 refine qcf (n := e.dep) ?_
 induction e using Ex.ind with
 | h o n s l ih =>
  intro m hm
  cases m with
  | zero => simp [Ex.dep] at hm
  | succ k =>
   have hal := Ex.allX_eq qaJ (.mk o n s l)
   show qcS (k + 1) o n s (EX l) = some ((Ex.mk o n s l).allX qaJ)
   simp only [qcS, qpB]
   simp only [Ex.nodes, Ex.dep] at h hm
   have hll := Ex.nodesL_len l
   have key : qk9 (qcS k) (0, o, n, s, EX l) = some (qix (fun x => !Ex.allX qaJ x) (fun _ => 0) 1 l, ((l.findIdx (fun x => !Ex.allX qaJ x) : Nat) : Int), o, n, s, EX l) := by
    rw [qrU]
    refine qav (hd := fun i => ((i : Int), o, n, s, EX l)) (jx := fun _ => 0) _ 1 (fun i hn => ?_) ?_
    ·have hx : l[i] ∈ l := List.getElem_mem hn
     have h1 := Ex.nodesL_mem hx
     have h2 := Ex.depL_mem hx
     have hg := ih l[i] hx (by omega) k (by omega)
     simp only [qmH, qmI, List.length_map, qaK hn, okX hn, qx0 hn, qx1 hn, qx2 hn, qx3 hn, hg, ev_br, ev_at, ev_bi_some, cond_true, qai hn (show l.length ≤ big by omega)]
     cases l[i].allX qaJ <;> rfl
    ·simp [qmH, qmI]
   rw [key, hal, qas, qxn, qtN, Ex.args]
   have e1 : decide (n < 0) = !decide (n ≥ 0) := by by_cases h : n ≥ 0 <;> simp [h] <;> omega
   have e2 : decide (n > qmZ o) = !decide (n ≤ qmZ o) := by by_cases h : n ≤ qmZ o <;> simp [h] <;> omega
   have e3 : ((l.length : Int) == qa6 o) = (qa6 o == (l.length : Int)) := by rw [Bool.eq_iff_iff, beq_iff_eq, beq_iff_eq]; exact eq_comm
   have hna : l.any (fun x => !Ex.allX qaJ x) = !l.all (Ex.allX qaJ) := by
    rw [List.any_eq_not_all_not]; simp
   simp only [ev_bi_some, ev_br, ev_at, List.length_map, bne, e3, hna, pj_some]
   rw [e1, e2]
   show _ = some ((qa6 o == (l.length : Int) && (decide (n ≥ 0) && (decide (n ≤ qmZ o) && (s == [] || o == 4)))) && _)
   cases (qa6 o == (l.length : Int)) <;> cases decide (n ≥ 0) <;> cases decide (n ≤ qmZ o) <;> cases (s == []) <;> cases (o == 4) <;> cases l.all (Ex.allX qaJ) <;> rfl
theorem qxR {l : List Bs} (hl : l.length ≤ big) (s : Bs) : qvh (ES l, s, 0) = some (0, ES l, s, (((l.takeWhile (qbt · s)).length : Nat) : Int)) := by
 rw [qrG]
 refine qdN (fun n => (ES l, s, (n : Int))) (l.takeWhile (qbt · s)).length 0 0 (Nat.zero_le _) (fun m _ hm => ?_) ?_
 ·have h := Nat.lt_of_lt_of_le hm (qgF l)
  have := qNy h hm
  simp only [qie, qhi, List.length_map, qaK h, qFw h, qs0 h, br_eq, cond_true, ev_bi_some, ev_br, ev_at, this, qai h hl]
 ·by_cases h : (l.takeWhile (qbt · s)).length < l.length
  ·have := qEL h
   simp only [qie, qhi, List.length_map, qaK h, qFw h, qs0 h, br_eq, cond_true, ev_bi_some, ev_br, ev_at, this, cond_false]
  ·have h2 := qgF (p := (qbt · s)) l
   simp only [qie, qhi, List.length_map, qJR h, br_eq, cond_false, ev_bi_some, ev_br, ev_at]
theorem qtk {l : List Bs} (hl : l.length ≤ 1000000) (s : Bs) : qeP (ES l) s = some (ES (qmT l s)) := by
 have hb : l.length ≤ big := Nat.le_trans hl (by decide)
 rw [qww, qiX, qxR hb]
 have hk := qgF (p := (qbt · s)) l
 unfold qmT
 generalize hkk : (l.takeWhile (qbt · s)).length = k at hk
 simp only [pj_some, if_true, ev_bi_some, List.length_map, Int.toNat_natCast]
 have hr : ∀ n, n ≤ 2000000 → room n 16 = true := fun n hn => qlM (by simp only [lim]; omega)
 by_cases hlt : k < l.length
 ·simp only [qaK hlt, qFw hlt, qs0 hlt, br_eq, cond_true, ev_bi_some, ev_br]
  rw [List.getElem?_eq_getElem hlt]
  cases hq : (l[k] == s)
  ·have hne : ¬ l[k] = s := by simpa using hq
   have hD : decide ((List.drop k (ES l)).length = 0) = false := by simp; omega
   have hD' : decide ((List.drop k (ES l)).length ≠ 0) = true := by simp; omega
   simp only [Option.some.injEq, hne, if_false, cond_false, qbe (Nat.le_of_lt hlt), Bool.and_true, Bool.true_and, Bool.false_and, Bool.and_self, cond_true, hD, hD', decide_true]
   by_cases hk0 : k = 0
   ·subst hk0
    rw [hr _ (by simp; omega)]
    simp
   ·have hTl : (List.take k (ES l)).length = k := by rw [List.length_take, List.length_map]; omega
    have hT : decide ((List.take k (ES l)).length = 0) = false := by rw [hTl]; simpa using hk0
    have hT' : decide ((List.take k (ES l)).length ≠ 0) = true := by rw [hTl]; simpa using hk0
    simp only [hT, hT', Bool.true_and, Bool.false_and, cond_false]
    rw [hr _ (by simp; omega), hr _ (by simp; omega), hr _ (by simp; omega)]
    simp [List.map_append, List.map_take, List.map_drop]
  ·have hqe : l[k] = s := by simpa using hq
   simp [hqe]
 ·have hke : k = l.length := by omega
  have hD : decide ((List.drop k (ES l)).length = 0) = true := by simp; omega
  simp only [qJR hlt, br_eq, cond_false, ev_bi_some, ev_br, qbe hk, Bool.and_true, Bool.true_and, cond_true, hD, decide_true]
  rw [List.getElem?_eq_none (by omega)]
  simp only [reduceCtorEq, if_false]
  by_cases hk0 : k = 0
  ·have : l = [] := by cases l with
    | nil => rfl
    | cons _ _ => simp at hke; omega
   subst this; subst hk0; rfl
  ·have hTl : (List.take k (ES l)).length = k := by rw [List.length_take, List.length_map]; omega
   have hT : decide ((List.take k (ES l)).length = 0) = false := by rw [hTl]; simpa using hk0
   have hT' : decide ((List.take k (ES l)).length ≠ 0) = true := by rw [hTl]; simpa using hk0
   simp only [hT, hT', Bool.true_and, cond_false, ev_br]
   rw [hr _ (by simp; omega), hr _ (by simp; omega)]
   have e1 : List.take k (ES l) = ES l := List.take_of_length_le (by simp; omega)
   have e2 : List.take k l = l := List.take_of_length_le (by omega)
   have e3 : List.drop k l = [] := List.drop_eq_nil_of_le (by omega)
   simp [e1, e2, e3]
def hdI (f : Nat) (i : Int) (L : List AV) (j : Int) (o n : Int) (s : Bs) (A : List AV) (acc : List Bs) : qcw := match f with
 | 0 => .inl (i, L, j, o, n, s, A, ES acc)
 | 1 => .inr (.inl (i, L, j, o, n, s, A))
 | _ => .inr (.inr (ES acc, i, L, j, o, n, s, A))
def hdO (f : Nat) (i : Int) (o n : Int) (s : Bs) (A : List AV) (acc : List Bs) : qca := match f with
 | 0 => .inl (i, o, n, s, A, ES acc)
 | 1 => .inr (.inl (i, o, n, s, A))
 | _ => .inr (.inr (ES acc, i, o, n, s, A))
def fOk (f : Nat) (acc : List Bs) : Prop := f ≤ 2 ∧ (f = 1 → acc = [])
theorem qqx {L : List Bs} (hL : L.length ≤ 1000000) (i o n : Int) (s : Bs) (A : List AV) : ∀ (r j f : Nat) (acc : List Bs), j + r = L.length → fOk f acc → acc.length + r ≤ 1000000 →
  qdL (hdI f i (ES L) (j : Int) o n s A acc) = some (if r = 0 then f else 2, hdI (if r = 0 then f else 2) i (ES L) (L.length : Int) o n s A ((L.drop j).foldl qmT acc))
 | 0, j, f, acc, hj, hf, _ => by
  have : j = L.length := by omega
  subst this
  obtain ⟨h1, h2⟩ := hf
  rw [qk8, List.drop_length]
  simp only [if_true, List.foldl_nil]
  match f, h1 with
  | 0, _ => rw [qar (j := 0)]; simp [hdI, qdA, qmE]
  | 1, _ => rw [qar (j := 1)]; simp [hdI, qdA, qmF]
  | 2, _ => rw [qar (j := 2)]; simp [hdI, qdA, qmG]
 | r + 1, j, f, acc, hj, hf, hb => by
  have hn : j < L.length := by omega
  obtain ⟨h1, h2⟩ := hf
  have hst : (qdA (hdI f i (ES L) (j : Int) o n s A acc)).ev = some (.next (hdI 2 i (ES L) ((j + 1 : Nat) : Int) o n s A (qmT acc L[j]))) := by
   have hi := qtk (l := acc) (by omega) L[j]
   match f, h1 with
   | 0, _ => simp only [hdI, qdA, Sum.elim_inl, qmE, List.length_map, qaK hn, qFw hn, qs0 hn, hi, ev_br, ev_at, ev_bi_some, cond_true, qai hn (Nat.le_trans hL (by decide))]
   | 1, _ =>
    have := h2 rfl
    subst this
    have hi' : qeP [] L[j] = some (ES (qmT [] L[j])) := hi
    simp only [hdI, qdA, Sum.elim_inl, Sum.elim_inr, qmF, List.length_map, qaK hn, qFw hn, qs0 hn, hi', ev_br, ev_at, ev_bi_some, cond_true, qai hn (Nat.le_trans hL (by decide))]
   | 2, _ => simp only [hdI, qdA, Sum.elim_inr, qmG, List.length_map, qaK hn, qFw hn, qs0 hn, hi, ev_br, ev_at, ev_bi_some, cond_true, qai hn (Nat.le_trans hL (by decide))]
  have hle := qu7 acc L[j]
  have ih := qqx hL i o n s A r (j + 1) 2 (qmT acc L[j]) (by omega) ⟨Nat.le_refl _, by omega⟩ (by omega)
  rw [qk8] at ih ⊢
  rw [qaH hst, ih, drop_at hn]
  have : (if r = 0 then 2 else 2) = 2 := by split <;> rfl
  rw [this, if_neg (show ¬ r + 1 = 0 by omega), List.foldl_cons]
noncomputable def qCD (y : Option (Nat × qca)) : DT qjy :=
 .bi (pj 0 y) (fun y0 => .at ((sl y0).snd.snd.snd.snd.snd)) (.bi (pj 1 y) (fun _ => .at ([])) (.bi (pj 2 y) (fun y0 => .at ((sr (sr y0)).fst)) .no))
theorem qCE (G : Int → Int → List UInt8 → List AV → Option qjy) (x0 x1 : Int) (x2 : Bs) (x3 : List AV) :
  qpz G x0 x1 x2 x3 = .br (x0 == 4) (qCD (qeY G (hdO 0 0 x0 x1 x2 x3 [x2]))) (qCD (qeY G (hdO 1 0 x0 x1 x2 x3 []))) := rfl
theorem qoD : ∀ (e : Ex), e.nodes ≤ 1000000 → ∀ n, e.dep ≤ n → qb8 n e.op e.num e.txt (EX e.args) = some (ES e.names) := by
 intro e
 induction e using Ex.ind with
 | h o n s l ih =>
  intro h m hm
  simp only [Ex.dep] at hm
  have hll := Ex.nodesL_len l
  simp only [Ex.nodes] at h
  cases m with
  | zero => omega
  | succ k =>
   have key : ∀ (r i f : Nat) (acc : List Bs), i + r = l.length → fOk f acc → acc.length + Ex.nodesL (l.drop i) ≤ 1000000 → (qCD (qeY (qb8 k) (hdO f (i : Int) o n s (EX l) acc))).ev = some (ES (Ex.namesL acc (l.drop i))) := by
    intro r
    induction r with
    | zero =>
     intro i f acc hi hf _
     have : i = l.length := by omega
     subst this
     obtain ⟨h1, h2⟩ := hf
     rw [qk7, List.drop_length]
     match f, h1 with
     | 0, _ =>
      rw [qar (j := 0)]
      ·rfl
      ·simp [hdO, qbv, qe7]
     | 1, _ =>
      have := h2 rfl
      subst this
      rw [qar (j := 1)]
      ·rfl
      ·simp [hdO, qbv, qe8]
     | 2, _ =>
      rw [qar (j := 2)]
      ·rfl
      ·simp [hdO, qbv, qe9]
    | succ r ihr =>
     intro i f acc hi hf hb
     have hn : i < l.length := by omega
     have hx : l[i] ∈ l := List.getElem_mem hn
     have h1 := Ex.nodesL_mem hx
     have h2 := Ex.depL_mem hx
     have hg := ih l[i] hx (by omega) k (by omega)
     have hnl := qlf l[i]
     rw [drop_at hn] at hb ⊢
     simp only [Ex.nodesL] at hb
     have hin := qqx (L := l[i].names) (by omega) (i : Int) o n s (EX l) l[i].names.length 0 f acc (by omega) hf (by omega)
     rw [List.drop_zero] at hin
     have hfl := qoZ l[i].names acc
     generalize hf2 : (if l[i].names.length = 0 then f else 2) = f2 at hin
     have hf2ok : fOk f2 (l[i].names.foldl qmT acc) := by
      rw [← hf2]
      by_cases hz : l[i].names.length = 0
      ·rw [if_pos hz]
       have : l[i].names = [] := List.length_eq_zero_iff.1 hz
       rw [this]; exact hf
      ·rw [if_neg hz]; exact ⟨Nat.le_refl _, by omega⟩
     have hst : (qbv (qb8 k) (hdO f (i : Int) o n s (EX l) acc)).ev = some (.next (hdO f2 ((i + 1 : Nat) : Int) o n s (EX l) (l[i].names.foldl qmT acc))) := by
      obtain ⟨hf1, _⟩ := hf
      obtain ⟨hf3, _⟩ := hf2ok
      have hin' : qdL (hdI f (i : Int) (ES l[i].names) 0 o n s (EX l) acc) = some (f2, hdI f2 (i : Int) (ES l[i].names) (l[i].names.length : Int) o n s (EX l) (l[i].names.foldl qmT acc)) := hin
      have hw := qai hn (show l.length ≤ big by simp only [big]; omega)
      match f, hf1, f2, hf3 with
      | 0, _, 0, _ => simp (decide := true) only [hdO, hdI, qbv, Sum.elim_inl, qe7, List.length_map, qaK hn, okX hn, qx0 hn, qx1 hn, qx2 hn, qx3 hn, hg, ev_br, ev_at, ev_bi_some, ev_bi_none, cond_true, pj_some, if_true, if_false, sl_inl, sr_inr, hw] at hin' ⊢; simp (decide := true) only [hin', pj_some, if_true, if_false, ev_bi_some, ev_bi_none, ev_at, sl_inl, sr_inr, hw]
      | 0, _, 1, _ => simp (decide := true) only [hdO, hdI, qbv, Sum.elim_inl, qe7, List.length_map, qaK hn, okX hn, qx0 hn, qx1 hn, qx2 hn, qx3 hn, hg, ev_br, ev_at, ev_bi_some, ev_bi_none, cond_true, pj_some, if_true, if_false, sl_inl, sr_inr, hw] at hin' ⊢; simp (decide := true) only [hin', pj_some, if_true, if_false, ev_bi_some, ev_bi_none, ev_at, sl_inl, sr_inr, hw]
      | 0, _, 2, _ => simp (decide := true) only [hdO, hdI, qbv, Sum.elim_inl, qe7, List.length_map, qaK hn, okX hn, qx0 hn, qx1 hn, qx2 hn, qx3 hn, hg, ev_br, ev_at, ev_bi_some, ev_bi_none, cond_true, pj_some, if_true, if_false, sl_inl, sr_inr, hw] at hin' ⊢; simp (decide := true) only [hin', pj_some, if_true, if_false, ev_bi_some, ev_bi_none, ev_at, sl_inl, sr_inr, hw]
      | 1, _, 0, _ => simp (decide := true) only [hdO, hdI, qbv, Sum.elim_inl, Sum.elim_inr, qe8, List.length_map, qaK hn, okX hn, qx0 hn, qx1 hn, qx2 hn, qx3 hn, hg, ev_br, ev_at, ev_bi_some, ev_bi_none, cond_true, pj_some, if_true, if_false, sl_inl, sr_inr, hw] at hin' ⊢; simp (decide := true) only [hin', pj_some, if_true, if_false, ev_bi_some, ev_bi_none, ev_at, sl_inl, sr_inr, hw]
      | 1, _, 1, _ => simp (decide := true) only [hdO, hdI, qbv, Sum.elim_inl, Sum.elim_inr, qe8, List.length_map, qaK hn, okX hn, qx0 hn, qx1 hn, qx2 hn, qx3 hn, hg, ev_br, ev_at, ev_bi_some, ev_bi_none, cond_true, pj_some, if_true, if_false, sl_inl, sr_inr, hw] at hin' ⊢; simp (decide := true) only [hin', pj_some, if_true, if_false, ev_bi_some, ev_bi_none, ev_at, sl_inl, sr_inr, hw]
      | 1, _, 2, _ => simp (decide := true) only [hdO, hdI, qbv, Sum.elim_inl, Sum.elim_inr, qe8, List.length_map, qaK hn, okX hn, qx0 hn, qx1 hn, qx2 hn, qx3 hn, hg, ev_br, ev_at, ev_bi_some, ev_bi_none, cond_true, pj_some, if_true, if_false, sl_inl, sr_inr, hw] at hin' ⊢; simp (decide := true) only [hin', pj_some, if_true, if_false, ev_bi_some, ev_bi_none, ev_at, sl_inl, sr_inr, hw]
      | 2, _, 0, _ => simp (decide := true) only [hdO, hdI, qbv, Sum.elim_inr, qe9, List.length_map, qaK hn, okX hn, qx0 hn, qx1 hn, qx2 hn, qx3 hn, hg, ev_br, ev_at, ev_bi_some, ev_bi_none, cond_true, pj_some, if_true, if_false, sl_inl, sr_inr, hw] at hin' ⊢; simp (decide := true) only [hin', pj_some, if_true, if_false, ev_bi_some, ev_bi_none, ev_at, sl_inl, sr_inr, hw]
      | 2, _, 1, _ => simp (decide := true) only [hdO, hdI, qbv, Sum.elim_inr, qe9, List.length_map, qaK hn, okX hn, qx0 hn, qx1 hn, qx2 hn, qx3 hn, hg, ev_br, ev_at, ev_bi_some, ev_bi_none, cond_true, pj_some, if_true, if_false, sl_inl, sr_inr, hw] at hin' ⊢; simp (decide := true) only [hin', pj_some, if_true, if_false, ev_bi_some, ev_bi_none, ev_at, sl_inl, sr_inr, hw]
      | 2, _, 2, _ => simp (decide := true) only [hdO, hdI, qbv, Sum.elim_inr, qe9, List.length_map, qaK hn, okX hn, qx0 hn, qx1 hn, qx2 hn, qx3 hn, hg, ev_br, ev_at, ev_bi_some, ev_bi_none, cond_true, pj_some, if_true, if_false, sl_inl, sr_inr, hw] at hin' ⊢; simp (decide := true) only [hin', pj_some, if_true, if_false, ev_bi_some, ev_bi_none, ev_at, sl_inl, sr_inr, hw]
     have ihn := ihr (i + 1) f2 (l[i].names.foldl qmT acc) (by omega) hf2ok (by omega)
     rw [qk7] at ihn ⊢
     rw [qaH hst, ihn]
     simp only [Ex.namesL]
   show qb8 (k + 1) o n s (EX l) = some (ES (Ex.mk o n s l).names)
   simp only [qb8, qCE, ev_br, Ex.names]
   by_cases ho : o = 4
   ·have e : (o == 4) = true := by simpa using ho
    rw [e, cond_true, if_pos ho]
    exact key l.length 0 0 [s] (by omega) ⟨by omega, by omega⟩ (by simp; omega)
   ·have e : (o == 4) = false := by simpa using ho
    rw [e, cond_false, if_neg ho]
    exact key l.length 0 1 [] (by omega) ⟨by omega, fun _ => rfl⟩ (by simp; omega)
theorem qtC {e : Ex} (h : e.nodes ≤ 1000000) : qoS e.op e.num e.txt (EX e.args) = some (ES e.names) := qcf (qoD e h)
theorem qxL {l : List Bs} (hl : l.length ≤ big) : qrv (ES l, 0) = some (qix (fun s => !qmP s) (fun _ => 0) 1 l, ES l, ((l.findIdx (fun s => !qmP s) : Nat) : Int)) := by
 rw [qrw]
 refine qav (hd := fun i => (ES l, (i : Int))) (jx := fun _ => 0) _ 1 (fun i hn => ?_) ?_
 ·simp only [qmh, qmi, List.length_map, qaK hn, qFw hn, qs0 hn, qxp, ev_br, ev_at, ev_bi_some, cond_true, qai hn hl]
  cases qmP l[i] <;> rfl
 ·simp [qmh, qmi]
theorem qxo {e : Ex} (hw : Wd e) : qq0 e.op e.num e.txt (EX e.args) = some (qb7 e) := by
 have hG := qtB hw (most := 64) (by omega)
 rw [qAP, qp9, show (64 : Int) = ((64 : Nat) : Int) from rfl, hG, qb7]
 by_cases h64 : e.nodes > 64
 ·simp [h64]
 ·have hb : e.nodes ≤ big := by simp only [big]; omega
  have hs : e.nodes ≤ 1000000 := by omega
  have hnl := qlf e
  have hna : e.names.any (fun s => !qmP s) = !e.allX qa5 := by
   rw [← qr8, List.any_eq_not_all_not]; simp
  rw [qtA hb, qtD hb, qtC hs]
  have e2 : decide (gv (some (e.dep : Int)) > 8) = decide (e.dep > 8) := by
   show decide ((e.dep : Int) > 8) = _
   by_cases h : e.dep > 8 <;> simp [h] <;> omega
  have e3 : decide (e.nodes > 64) = false := by simpa using h64
  have hvl := qxL (show e.names.length ≤ big by simp only [big]; omega)
  rw [qas, hna] at hvl
  simp only [ev_bi_some, br_eq, sm_some, e2, e3, cond_false]
  cases decide (e.dep > 8) <;> cases e.allX qaJ <;> cases hn : e.allX qa5 <;> simp [hvl, hn]
end Go.Proofs.H15c

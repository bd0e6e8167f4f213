/- The document's expressions (names, Validate): what the printed functions come to. -/
import Derived.Test.YtigchhcddgibhaaGreatDoorX13Exp
set_option linter.unusedVariables false
set_option linter.unusedSimpArgs false
set_option linter.unnecessarySimpa false
namespace Go.Proofs.H13
open Go Go.Eng Go.Tk
set_option maxRecDepth 20000
theorem qte : ∀ (e : Ex), Wd e → ∀ (most : Nat), most ≤ 1000000 → ∀ n, e.dep ≤ n → qc2 n e.op e.num e.txt (EX e.args) (most : Int) = some ((min e.nodes (most + 1) : Nat) : Int) := by
 intro e
 induction e using Ex.ind with
 | h o n s l ih =>
  intro hw most hmost m hm
  have hlen := hw.len
  simp only [Ex.args] at hlen
  have hwa : ∀ x ∈ l, Wd x := fun x hx => hw.arg (e := .mk o n s l) hx
  simp only [Ex.dep] at hm
  cases m with
  | zero => omega
  | succ k =>
   simp only [qc2, quM, Ex.op, Ex.num, Ex.txt, Ex.args]
   have key : ∀ (r i c : Nat), i + r = l.length → c ≤ most + 1 → ∃ q, qo9 (qc2 k) ((most : Int), (c : Int), (i : Int), o, n, s, EX l) = some (0, (most : Int), ((min (c + Ex.nodesL (l.drop i)) (most + 1) : Nat) : Int), q) := by
    intro r
    induction r with
    | zero =>
     intro i c hi hc
     have : i = l.length := by omega
     subst this
     refine ⟨((l.length : Int), o, n, s, EX l), ?_⟩
     rw [qhw, qai (j := 0)]
     ·rw [List.drop_length]; simp only [Ex.nodesL, Nat.add_zero]; rw [Nat.min_eq_left hc]
     ·simp [qgy, qhR]
    | succ r ihr =>
     intro i c hi hc
     have hn : i < l.length := by omega
     by_cases hcm : c ≤ most
     ·have hx : l[i] ∈ l := List.getElem_mem hn
      have h2 := Ex.depL_mem hx
      have hwr : IntKind.i64.wrap ((most : Int) - (c : Int)) = ((most - c : Nat) : Int) := by
       rw [wrap64 (by omega) (by omega)]; omega
      have hg := ih l[i] hx (hwa _ hx) (most - c) (by omega) k (by omega)
      have hpos := Ex.nodes_pos l[i]
      have hws : IntKind.i64.wrap ((c : Int) + ((min l[i].nodes (most - c + 1) : Nat) : Int)) = ((c + min l[i].nodes (most - c + 1) : Nat) : Int) := by
       rw [wrap64 (by omega) (by omega)]; omega
      have hst : (qgy (qc2 k) ((most : Int), (c : Int), (i : Int), o, n, s, EX l)).ev = some (.next ((most : Int), ((c + min l[i].nodes (most - c + 1) : Nat) : Int), ((i + 1 : Nat) : Int), o, n, s, EX l)) := by
       have e1 : decide ((c : Int) ≤ (most : Int)) = true := by simp; omega
       simp only [qgy, qhR, List.length_map, qau hn, e1, br_eq, cond_true, ev_bi_some, ev_br, ev_at, okX hn, qx0 hn, qx1 hn, qx2 hn, qx3 hn, hwr, hg, hws, qao hn hlen]
      obtain ⟨q, hq⟩ := ihr (i + 1) (c + min l[i].nodes (most - c + 1)) (by omega) (by omega)
      refine ⟨q, ?_⟩
      rw [qhw] at hq ⊢
      rw [qaA hst, hq, drop_at hn]
      simp only [Ex.nodesL]
      congr 4
      omega
     ·refine ⟨((i : Int), o, n, s, EX l), ?_⟩
      rw [qhw, qai (j := 0)]
      ·have : min (c + Ex.nodesL (l.drop i)) (most + 1) = c := by omega
       rw [this]
      ·have e1 : decide ((c : Int) ≤ (most : Int)) = false := by simp; omega
       simp only [qgy, qhR, List.length_map, qau hn, e1, br_eq, cond_true, cond_false, ev_bi_some, ev_br, ev_at]
   obtain ⟨q, hq⟩ := key l.length 0 1 (by omega) (by omega)
   have hq' : qo9 (qc2 k) ((most : Int), 1, 0, o, n, s, EX l) = some (0, (most : Int), ((min (1 + Ex.nodesL (l.drop 0)) (most + 1) : Nat) : Int), q) := hq
   rw [hq']
   simp only [pj_some, if_true, ev_bi_some, ev_at, List.drop_zero, Ex.nodes]
   congr 3; omega
theorem qos {e : Ex} (hw : Wd e) {most : Nat} (hm : most ≤ 1000000) : qks e.op e.num e.txt (EX e.args) (most : Int) = some (decide (e.nodes > most)) := by
 have hc : qtB e.op e.num e.txt (EX e.args) (most : Int) = some ((min e.nodes (most + 1) : Nat) : Int) := qcR (qte e hw most hm)
 rw [qDU, qmO, hc]
 simp only [ev_bi_some, ev_at]
 congr 1
 by_cases h : e.nodes > most <;> simp [h] <;> omega
end Go.Proofs.H13

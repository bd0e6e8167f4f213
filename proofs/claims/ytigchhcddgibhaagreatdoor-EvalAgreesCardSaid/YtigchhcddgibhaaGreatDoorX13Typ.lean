/- Types of expressions: what the printed functions come to. -/
import Derived.Test.YtigchhcddgibhaaGreatDoorX13Ref
import Derived.Test.YtigchhcddgibhaaGreatDoorTyA
set_option linter.unusedVariables false
set_option linter.unusedSimpArgs false
set_option linter.unnecessarySimpa false
namespace Go.Proofs.H13
open Go Go.Eng Go.Tk
set_option maxRecDepth 20000
theorem qiv (x : Int) : qiu x = some (qaO x) := by
 rw [qDk, qmg]; by_cases h : x ≥ 1 <;> simp [qaO, h]
theorem qzk (op a : Int) : ∃ p, qom op a = some p ∧ nrm p = qRd op a := by
 rw [qDK, qmE]
 unfold qRd
 by_cases h1 : op = 16
 ·subst h1
  exact ⟨_, rfl, by cases h : (a == 5) <;> simp [nrm, h]⟩
 by_cases h2 : op = 9
 ·subst h2
  refine ⟨(a, a == 1 || (a == 2 || a == 3)), ?_, ?_⟩
  ·cases h : (a == 1) <;> cases h' : (a == 2) <;> simp [h, h']
  ·cases h : (a == 1 || (a == 2 || a == 3)) <;> simp [nrm, h]
 have e1 : (op == 16) = false := by simpa using h1
 have e2 : (op == 9) = false := by simpa using h2
 exact ⟨(0, false), by simp [e1, e2], by simp [nrm, h1, h2]⟩
theorem qEA : qcw = some (ariL.map q2S) := by
 rw [qJy, qAn]; rfl
theorem qzl (op a b : Int) : ∃ p, qon op a b = some p ∧ nrm p = qja op a b := by
 rw [qDL, qmF]
 by_cases h1 : op = 10
 ·subst h1; exact ⟨_, rfl, by cases h : (a == b) <;> simp [nrm, qja, h]⟩
 by_cases h2 : op = 11
 ·subst h2; exact ⟨_, rfl, by cases h : (a == b) <;> simp [nrm, qja, h]⟩
 by_cases h3 : op = 12
 ·subst h3; exact ⟨(5, a == b && a != 5), by cases h : (a == b) <;> simp [h], by cases h : (a == b && a != 5) <;> simp [nrm, qja, h]⟩
 by_cases h4 : op = 13
 ·subst h4; exact ⟨(5, a == b && a != 5), by cases h : (a == b) <;> simp [h], by cases h : (a == b && a != 5) <;> simp [nrm, qja, h]⟩
 by_cases h5 : op = 14
 ·subst h5; exact ⟨(5, a == b && a == 5), by cases h : (a == b) <;> simp [h], by cases h : (a == b && a == 5) <;> simp [nrm, qja, h]⟩
 by_cases h6 : op = 15
 ·subst h6; exact ⟨(5, a == b && a == 5), by cases h : (a == b) <;> simp [h], by cases h : (a == b && a == 5) <;> simp [nrm, qja, h]⟩
 by_cases h7 : op = 17
 ·subst h7; exact ⟨(a, a == b && a != 5), by cases h : (a == b) <;> simp [h], by cases h : (a == b && a != 5) <;> simp [nrm, qja, h]⟩
 by_cases h8 : op = 18
 ·subst h8; exact ⟨(a, a == b && a != 5), by cases h : (a == b) <;> simp [h], by cases h : (a == b && a != 5) <;> simp [nrm, qja, h]⟩
 have e1 : (op == 10) = false := by simpa using h1
 have e2 : (op == 11) = false := by simpa using h2
 have e3 : (op == 12) = false := by simpa using h3
 have e4 : (op == 13) = false := by simpa using h4
 have e5 : (op == 14) = false := by simpa using h5
 have e6 : (op == 15) = false := by simpa using h6
 have e7 : (op == 17) = false := by simpa using h7
 have e8 : (op == 18) = false := by simpa using h8
 simp only [e1, e2, e3, e4, e5, e6, e7, e8, ev_br, cond_false, qEA, ev_bi_some, q8L, q8N, qja, h1, h2, h3, h4, h5, h6, h7, h8, or_self, if_false]
 cases hq : qx5 op a b with
 | none => exact ⟨(0, false), by simp, rfl⟩
 | some t =>
  have ht := (qyM hq).1
  rw [q8O hq]
  refine ⟨(t, t != 0), rfl, ?_⟩
  have : (t != 0) = true := by simpa using ht
  simp [nrm, this]
theorem qE5 {l : List Int} (hl : l.length ≤ big) (op : Int) : qwQ (op, EI l, EI l, (l.length : Int), 0) = some (qgJ (fun t => !qaO t) (fun _ => 0) 1 l, op, EI l, EI l, (l.length : Int), ((l.findIdx (fun t => !qaO t) : Nat) : Int)) := by
 rw [qwR]
 refine qaK (hd := fun i => (op, EI l, EI l, (l.length : Int), (i : Int))) (jx := fun _ => 0) _ 1 (fun i hn => ?_) ?_
 ·simp only [qqt, qqu, qau hn, okI hn, qi0 hn, qiv, ev_br, ev_at, ev_bi_some, cond_true, qao hn hl]
  cases qaO l[i] <;> rfl
 ·simp [qqt, qqu]
theorem qkE {l : List Int} (hl : l.length ≤ big) (op : Int) : qcZ op (EI l) = some (qa3 op l) := by
 rw [qKa, qvx, List.length_map, qE5 hl, qaM, show l.any (fun t => !qaO t) = !l.all qaO by rw [List.any_eq_not_all_not]; simp]
 unfold qa3
 cases hg : l.all qaO
 ·rfl
 ·simp only [Bool.not_true, cond_false, pj_some, if_true, Nat.one_ne_zero, if_false, ev_bi_none, ev_bi_some, List.length_map]
  match l with
  | [] => rfl
  | [a] =>
   obtain ⟨p, h1, h2⟩ := qzk op a
   have e0 : intOf (cellAt (EI [a]) 0 0) = a := rfl
   have e1 : qaB ksI (EI [a]) 0 = true := rfl
   simp only [e0, e1, h1, ← h2, nrm, ev_br, ev_bi_some, ev_at]
   cases p.2 <;> rfl
  | [a, b] =>
   obtain ⟨p, h1, h2⟩ := qzl op a b
   have e0 : intOf (cellAt (EI [a, b]) 0 0) = a := rfl
   have e0' : intOf (cellAt (EI [a, b]) 1 0) = b := rfl
   have e1 : qaB ksI (EI [a, b]) 0 = true := rfl
   have e1' : qaB ksI (EI [a, b]) 1 = true := rfl
   simp only [e0, e0', e1, e1', h1, ← h2, nrm, ev_br, ev_bi_some, ev_at]
   cases p.2 <;> rfl
  | [a, b, c] =>
   have e0 : intOf (cellAt (EI [a, b, c]) 0 0) = a := rfl
   have e1 : intOf (cellAt (EI [a, b, c]) 1 0) = b := rfl
   have e2 : intOf (cellAt (EI [a, b, c]) 2 0) = c := rfl
   have d0 : qaB ksI (EI [a, b, c]) 0 = true := rfl
   have d1 : qaB ksI (EI [a, b, c]) 1 = true := rfl
   have d2 : qaB ksI (EI [a, b, c]) 2 = true := rfl
   simp only [e0, e1, e2, d0, d1, d2, qsT, ev_br, ev_bi_some, ev_at]
   cases (op == 19) <;> cases (a == 5) <;> cases (b == c) <;> rfl
  | a :: b :: c :: d :: r =>
   have e1 : (((a :: b :: c :: d :: r).length : Int) == 1) = false := by simp; omega
   have e2 : (((a :: b :: c :: d :: r).length : Int) == 2) = false := by simp; omega
   have e3 : (((a :: b :: c :: d :: r).length : Int) == 3) = false := by simp; omega
   simp only [e1, e2, e3, ev_br, ev_at, cond_false]
theorem qE1 {vs : List Va} (hl : vs.length ≤ big) (s : Bs) : qst (s, EV vs, (vs.length : Int), 0) = some (qgJ (fun v => v.name == s) (fun v => bif qaO v.ty then 1 else 0) 2 vs, s, EV vs, (vs.length : Int), ((vs.findIdx (fun v => v.name == s) : Nat) : Int)) := by
 rw [qwM]
 refine qaK (hd := fun i => (s, EV vs, (vs.length : Int), (i : Int))) _ _ 2 (fun i hn => ?_) ?_
 ·simp only [qql, qqm, qau hn, okV hn, qv0 hn, qv1 hn, qiv, ev_br, ev_at, ev_bi_some, cond_true, qao hn hl]
  cases (vs[i].name == s) <;> cases qaO vs[i].ty <;> rfl
 ·simp [qql, qqm]
theorem qlU {α : Type} {l : List α} {p : α → Bool} {x : α} (h : l.find? p = some x) : ∃ h' : l.findIdx p < l.length, l[l.findIdx p] = x := by
 have hlt : l.findIdx p < l.length := List.findIdx_lt_length.2 ⟨x, List.mem_of_find?_eq_some h, List.find?_some h⟩
 refine ⟨hlt, ?_⟩
 rw [List.find?_eq_getElem?_findIdx, List.getElem?_eq_getElem hlt] at h
 exact Option.some.inj h
theorem qEB {vs : List Va} (hl : vs.length ≤ big) (s : Bs) : qrN s (EV vs) = some (qj9 vs s) := by
 rw [qJG, qu3, List.length_map, qE1 hl]
 unfold qj9 qgJ
 cases hf : vs.find? (fun v => v.name == s) with
 | none => rfl
 | some v =>
  obtain ⟨h1, h2⟩ := qlU hf
  have hq := qv1 h1
  rw [h2] at hq
  simp only
  cases hg : qaO v.ty
  ·simp
  ·simp [-List.map_cons, hq]
def hdP (vs : List Va) (l : List Ex) (i : Int) (o n : Int) (s : Bs) : List Int → qci
 | [] => .inl (EV vs, EX l, (l.length : Int), i, o, n, s, EX l)
 | acc => .inr (EV vs, EX l, (l.length : Int), i, o, n, s, EX l, EI acc)
noncomputable def ofT (G : Int → Int → List UInt8 → List AV → List AV → Option qkc) (y : Option (Nat × qci)) : DT qkc :=
     (.bi (pj 0 y) (fun y0 =>
      .at ((0, (gv
    (G (intOf (cellAt (sl y0).snd.fst (sl y0).snd.snd.snd.fst 0)) (intOf (cellAt (sl y0).snd.fst (sl y0).snd.snd.snd.fst 1))
      (strOf (cellAt (sl y0).snd.fst (sl y0).snd.snd.snd.fst 2)) (qal (cellAt (sl y0).snd.fst (sl y0).snd.snd.snd.fst 3)) (sl y0).fst)).snd)))
      (.bi (pj 1 y) (fun y0 =>
       .bi (qcZ (sl y0).snd.snd.snd.snd.fst []) (fun y1 =>
        .br (!y1.snd) (.at ((0, 3))) (.at ((y1.fst, 0))))
        (.no))
       (.bi (pj 2 y) (fun y0 =>
        .at ((0, (gv
    (G (intOf (cellAt (sr y0).snd.fst (sr y0).snd.snd.snd.fst 0)) (intOf (cellAt (sr y0).snd.fst (sr y0).snd.snd.snd.fst 1))
      (strOf (cellAt (sr y0).snd.fst (sr y0).snd.snd.snd.fst 2)) (qal (cellAt (sr y0).snd.fst (sr y0).snd.snd.snd.fst 3)) (sr y0).fst)).snd)))
        (.bi (pj 3 y) (fun y0 =>
         .bi (qcZ (sr y0).snd.snd.snd.snd.fst (sr y0).snd.snd.snd.snd.snd.snd.snd.snd) (fun y1 =>
          .br (!y1.snd) (.at ((0, 3))) (.at ((y1.fst, 0))))
          (.no))
         (.no)))))
theorem q5q (G : Int → Int → List UInt8 → List AV → List AV → Option qkc) (x0 x1 : Int) (x2 : Bs) (x3 x4 : List AV) : quO G x0 x1 x2 x3 x4 =
  .br (x0 == 1) (.at ((1, 0))) (.br (x0 == 2) (.at ((2, 0))) (.br (x0 == 3) (.at ((3, 0))) (.br (x0 == 4) (.bi (qrN x2 x4) (fun y0 => .at ((y0.fst, y0.snd))) .no)
   (ofT G (qg8 G (.inl (x4, x3, (x3.length : Int), 0, x0, x1, x2, x3))))))) := rfl
def qFS (op : Int) (acc : List Int) (p : List Int × Int) : Int × Int := qx7 op (acc ++ p.1, p.2)
theorem qvM {vs : List Va} (hv : vs.length ≤ big) : ∀ (e : Ex), e.nodes ≤ 1000000 → ∀ n, e.dep ≤ n → qcL n e.op e.num e.txt (EX e.args) (EV vs) = some (e.ty vs) := by
 intro e
 induction e using Ex.ind with
 | h o n s l ih =>
  intro h m hm
  simp only [Ex.dep] at hm
  have hll := Ex.nodesL_len l
  simp only [Ex.nodes] at h
  cases m with
  | zero => omega
  | succ k =>
   have key : ∀ (r i : Nat) (acc : List Int), i + r = l.length → acc.length + (l.drop i).length ≤ 1000000 → (ofT (qcL k) (qg8 (qcL k) (hdP vs l (i : Int) o n s acc))).ev = some (qFS o acc (Ex.tys vs (l.drop i))) := by
    intro r
    induction r with
    | zero =>
     intro i acc hi _
     have : i = l.length := by omega
     subst this
     rw [qhz, List.drop_length]
     have hres := fun (acc : List Int) (ha : acc.length ≤ big) => qkE ha o
     cases acc with
     | nil =>
      rw [qai (j := 1)]
      ·have h0 : qcZ o [] = some (qa3 o []) := hres [] (by simp [big])
       simp (decide := true) only [ofT, hdP, pj_some, if_true, if_false, ev_bi_none, ev_bi_some, sl_inl, h0, ev_br, ev_at, qFS, qx7, Ex.tys, List.append_nil]
       cases (qa3 o []).2 <;> rfl
      ·simp [hdP, qdw, qhX]
     | cons a acc =>
      rw [qai (j := 3)]
      ·have h0 := hres (a :: acc) (by simp [big] at *; omega)
       simp (decide := true) only [ofT, hdP, pj_some, if_true, if_false, ev_bi_none, ev_bi_some, sr_inr, h0, ev_br, ev_at, qFS, qx7, Ex.tys, List.append_nil]
       cases (qa3 o (a :: acc)).2 <;> rfl
      ·simp [hdP, qdw, qhY]
    | succ r ihr =>
     intro i acc hi hb
     have hn : i < l.length := by omega
     have hx : l[i] ∈ l := List.getElem_mem hn
     have h1 := Ex.nodesL_mem hx
     have h2 := Ex.depL_mem hx
     have hg := ih l[i] hx (by omega) k (by omega)
     rw [drop_at hn] at hb ⊢
     simp only [List.length_cons] at hb
     have hroom : room (acc.length + 1) 8 = true := qdj (by simp only [lim]; omega)
     cases he : ((Ex.ty vs l[i]).2 != 0)
     ·have hst : (qdw (qcL k) (hdP vs l (i : Int) o n s acc)).ev = some (.next (hdP vs l ((i + 1 : Nat) : Int) o n s (acc ++ [(Ex.ty vs l[i]).1]))) := by
       cases acc with
       | nil => simp only [hdP, qdw, Sum.elim_inl, qhX, qau hn, okX hn, qx0 hn, qx1 hn, qx2 hn, qx3 hn, hg, he, ev_br, ev_at, ev_bi_some, cond_true, cond_false, qao hn (show l.length ≤ big by simp only [big]; omega)]; rfl
       | cons a acc =>
        simp only [List.length_cons] at hroom
        simp only [hdP, qdw, Sum.elim_inr, qhY, qau hn, okX hn, qx0 hn, qx1 hn, qx2 hn, qx3 hn, hg, he, ev_br, ev_at, ev_bi_some, cond_true, cond_false, qao hn (show l.length ≤ big by simp only [big]; omega), List.length_map, List.length_cons, hroom]
        simp [hdP]
      have ihn := ihr (i + 1) (acc ++ [(Ex.ty vs l[i]).1]) (by omega) (by simp only [List.length_append, List.length_cons, List.length_nil]; omega)
      rw [qhz] at ihn ⊢
      rw [qaA hst, ihn]
      congr 1
      simp only [Ex.tys, he, cond_false, qFS, qx7]
      cases hz : ((Ex.tys vs (l.drop (i + 1))).2 != 0)
      ·simp at hz; simp [hz]
      ·simp [hz]
     ·have hfin : ∀ a : List Int, qFS o a (Ex.tys vs (l[i] :: l.drop (i + 1))) = (0, (Ex.ty vs l[i]).2) := by
       intro a
       simp only [Ex.tys, he, cond_true, qFS, qx7]
      rw [hfin, qhz]
      cases acc with
      | nil =>
       rw [qai (j := 0)]
       ·simp (decide := true) only [ofT, hdP, pj_some, if_true, ev_bi_some, sl_inl, qx0 hn, qx1 hn, qx2 hn, qx3 hn, hg, gv_some, ev_at]
       ·simp only [hdP, qdw, Sum.elim_inl, qhX, qau hn, okX hn, qx0 hn, qx1 hn, qx2 hn, qx3 hn, hg, he, ev_br, ev_at, ev_bi_some, cond_true]
      | cons a acc =>
       rw [qai (j := 2)]
       ·simp (decide := true) only [ofT, hdP, pj_some, if_true, if_false, ev_bi_none, ev_bi_some, sr_inr, qx0 hn, qx1 hn, qx2 hn, qx3 hn, hg, gv_some, ev_at]
       ·simp only [hdP, qdw, Sum.elim_inr, qhY, qau hn, okX hn, qx0 hn, qx1 hn, qx2 hn, qx3 hn, hg, he, ev_br, ev_at, ev_bi_some, cond_true]
   show qcL (k + 1) o n s (EX l) (EV vs) = some ((Ex.mk o n s l).ty vs)
   simp only [qcL, q5q, ev_br, ev_at, qEB hv, ev_bi_some, Ex.ty]
   by_cases h1 : o = 1
   ·subst h1; rfl
   by_cases h2 : o = 2
   ·subst h2; rfl
   by_cases h3 : o = 3
   ·subst h3; rfl
   by_cases h4 : o = 4
   ·subst h4; rfl
   have e1 : (o == 1) = false := by simpa using h1
   have e2 : (o == 2) = false := by simpa using h2
   have e3 : (o == 3) = false := by simpa using h3
   have e4 : (o == 4) = false := by simpa using h4
   rw [e1, e2, e3, e4]
   simp only [cond_false, h1, h2, h3, h4, if_false, List.length_map]
   exact key l.length 0 [] (by omega) (by simp; omega)
theorem qzt {vs : List Va} (hv : vs.length ≤ big) {e : Ex} (h : e.nodes ≤ 1000000) : qtF e.op e.num e.txt (EX e.args) (EV vs) = some (e.ty vs) := qcR (qvM hv e h)
theorem qiG {vs : List Va} (hv : vs.length ≤ big) {e : Ex} (h : e.nodes ≤ big) : qiF e.op e.num e.txt (EX e.args) (EV vs) = some (ofS e vs) := by
 rw [qDZ, qmT, qrT h]
 unfold ofS
 cases hz : (qbr e != 0)
 ·have hz' : qbr e = 0 := by simpa using hz
  have := (qj7 hz').1
  simp [hz, qzt hv (e := e) (by omega)]
 ·simp [hz]
theorem qFa {vs : List Va} (hl : vs.length ≤ big) {n : Nat} (hn : n ≤ vs.length) (A B : List AV) (x y : Int) (s : Bs) (t : Int) : qwZ (A, B, x, y, EV (vs.take n), (n : Int), 0, s, t) = some (qgJ (fun w => w.name == s) (fun _ => 0) 1 (vs.take n), A, B, x, y, EV (vs.take n), (n : Int), (((vs.take n).findIdx (fun w => w.name == s) : Nat) : Int), s, t) := by
 have hlen : (vs.take n).length = n := by rw [List.length_take]; omega
 rw [qw0]
 refine qaK (hd := fun i => (A, B, x, y, EV (vs.take n), (n : Int), (i : Int), s, t)) (jx := fun _ => 0) _ 1 (fun i hi => ?_) ?_
 ·have hi' : i < n := by omega
  simp only [qqF, qqG, qau hi', okV hi, qv0 hi, ev_br, ev_at, cond_true, qao hi' (show n ≤ big by omega)]
  cases ((vs.take n)[i].name == s) <;> rfl
 ·rw [hlen]; simp [qqF, qqG]
theorem qzI (s : Bs) : qoO 4 0 s [] = some (bif qj8 s then 0 else 4) := by
 have := qrT (e := .mk 4 0 s []) (by simp [Ex.nodes, Ex.nodesL, big])
 rw [qPH] at this
 exact this
theorem qE9 {vs : List Va} (hl : vs.length ≤ big) : ∃ w, qpl (EV vs, EV vs, (vs.length : Int), 0) = some (eV vs, w) := by
 rw [qwY]
 refine ⟨_, qcA (N := vs.length) (hd := fun i => (EV vs, EV vs, (vs.length : Int), (i : Int))) (jx := qc0 vs) _ 3 (fun i hn => ?_) ?_⟩
 ·have htk : List.take (i : Int).toNat (EV vs) = EV (vs.take i) := by simp [List.map_take]
  have hlen : ((EV (vs.take i)).length : Int) = (i : Int) := by simp; omega
  have hs := qFa hl (Nat.le_of_lt hn) (EV vs) (EV vs) (vs.length : Int) (i : Int) vs[i].name vs[i].ty
  rw [qaM] at hs
  have hle : leB (i : Int) (EV vs).length = true := qaP (by simp; omega)
  have hwr : qc0 vs i = bif !qj8 vs[i].name then 0 else bif (vs.take i).any (fun w => w.name == vs[i].name) then 1 else bif !qaO vs[i].ty then 2 else 9 := by
   unfold qc0; rw [List.getElem?_eq_getElem hn]
  simp only [qqD, qqE, qau hn, okV hn, qv0 hn, qv1 hn, qzI, ev_br, ev_at, ev_bi_some, cond_true, htk, hlen, hs, hle, Bool.and_true, hwr]
  cases qj8 vs[i].name
  ·rfl
  ·cases (vs.take i).any (fun w => w.name == vs[i].name)
   ·simp (decide := true) only [pj_some, cond_false, cond_true, if_false, if_true, Bool.not_true, ev_bi_none, ev_bi_some, qiv, ev_br, ev_at, qao hn hl]
    cases qaO vs[i].ty <;> rfl
   ·rfl
 ·simp [qqD, qqE]
theorem qAH (vs : List Va) : eV vs = 0 ∨ eV vs = 1 ∨ eV vs = 2 ∨ eV vs = 3 := by
 unfold eV qgJ
 cases hf : (List.range vs.length).find? (fun n => qc0 vs n != 9) with
 | none => simp
 | some n =>
  have := List.find?_some hf
  simp only
  rcases qlK vs n with h | h | h | h
  ·exact .inl h
  ·exact .inr (.inl h)
  ·exact .inr (.inr (.inl h))
  ·rw [h] at this; cases this
theorem qiy {vs : List Va} (hl : vs.length ≤ big) : qix (EV vs) = some (qb8 vs) := by
 obtain ⟨w, hw⟩ := qE9 hl
 rw [qDw, qmq, List.length_map, hw, qb8]
 by_cases h : vs.length > 64
 ·rw [if_pos h, decide_eq_true (by omega)]; rfl
 ·rw [if_neg h, decide_eq_false (by omega)]
  rcases qAH vs with h | h | h | h <;> rw [h] <;> simp
end Go.Proofs.H13

/- The document's trees: what they come to. -/
import Derived.Test.YtigchhcddgibhaaGreatDoorX13Rap
set_option linter.unusedVariables false
set_option linter.unusedSimpArgs false
set_option linter.unnecessarySimpa false
namespace Go.Proofs.H13
open Go Go.Eng Go.Tk
set_option maxRecDepth 20000
theorem qgr {vs : List Va} {env : List Vl} (hl : env.length <= big) : qe9 (EV vs) (EL env) = some (qhE vs env) := by
 rw [qyr, qjJ, List.length_map, List.length_map]
 by_cases hlen : vs.length = env.length
 ·have e0 : ((vs.length : Int) != (env.length : Int)) = false := by simp [hlen]
  generalize hq : (fun n : Nat => match vs[n]?, env[n]? with | some v, some x => x.ty == v.ty && qbb x | _, _ => false) = q
  have hE : qhE vs env = (List.range env.length).all q := by
   unfold qhE; rw [<- hq, show (vs.length == env.length) = true by simpa using hlen, Bool.true_and]; rfl
  have L : qlv (EV vs, EL env, 0) = some (qf0 (fun n => !q n) (fun _ => 0) 1 (List.range env.length), EV vs, EL env, (((List.range env.length).findIdx (fun n => !q n) : Nat) : Int)) := by
   rw [qok]
   refine qb1 env.length (hd := fun i => (EV vs, EL env, (i : Int))) _ _ 1 (fun i hn => ?_) ?_
   ·have hn' : i < vs.length := by omega
    have hqi : q i = (env[i].ty == vs[i].ty && qbb env[i]) := by
     rw [<- hq]; simp only [List.getElem?_eq_getElem hn, List.getElem?_eq_getElem hn']
    have e1 : (env[i].ty != vs[i].ty) = !(env[i].ty == vs[i].ty) := rfl
    have e2 : qbb ⟨env[i].ty, env[i].n⟩ = qbb env[i] := rfl
    simp only [qhc, qio, List.length_map, qar hn, okL hn, okV hn', ql0 hn, ql1 hn, qv1 hn', qgA, ev_br, ev_at, ev_bi_some, cond_true, qal hn hl, hqi, e1, e2]
    cases (env[i].ty == vs[i].ty) <;> cases qbb env[i] <;> rfl
   ·simp [qhc, qio]
  rw [ev_br, e0, cond_false, L, hE, qaE]
  have : ((List.range env.length).any fun n => !q n) = !(List.range env.length).all q := by
   rw [List.all_eq_not_any_not, Bool.not_not]
  rw [this]
  cases (List.range env.length).all q <;> rfl
 ·have e0 : ((vs.length : Int) != (env.length : Int)) = true := by simp only [bne_iff_ne, ne_eq]; omega
  rw [ev_br, e0, cond_true, ev_at]
  unfold qhE
  rw [show (vs.length == env.length) = false by simpa using hlen]
  rfl
theorem qu2 {vs : List Va} {env : List Vl} (hl : vs.length <= big) (hlen : vs.length = env.length) (o n : Int) (s : Bs) (A : List AV) : qlB (EV vs, EL env, 0, o, n, s, A, 0, 0) = some (qf0 (fun v => v.name == s) (fun _ => 0) 1 vs, EV vs, EL env, ((vs.findIdx (fun v => v.name == s) : Nat) : Int), o, n, s, A, 0, 0) := by
 rw [qoq]
 refine qaC (hd := fun i => (EV vs, EL env, (i : Int), o, n, s, A, 0, 0)) _ _ 1 (fun i hn => ?_) ?_
 ·simp only [qhi, qiu, List.length_map, qar hn, okV hn, qv0 hn, okL (show i < env.length by omega), ev_br, ev_at, cond_true, qal hn hl]
  cases (vs[i].name == s) <;> rfl
 ·simp [qhi, qiu]
theorem qMT {o n : Int} {s : Bs} {x3 x4 x5 : List AV} (ho : o = 1 \/ o = 2 \/ o = 3) : qhR o n s x3 x4 x5 = some (o, n) := by
 rw [qnN, qhv]
 rcases ho with rfl | rfl | rfl <;> rfl
theorem qMU {vs : List Va} {env : List Vl} (hv : vs.length <= big) (hlen : vs.length = env.length) {n t : Int} {s : Bs} {A : List AV} (h' : qmU vs s = (t, 0)) : qhR 4 n s A (EV vs) (EL env) = some (((env[vs.findIdx (fun v => v.name == s)]?).getD ⟨0, 0⟩).ty, ((env[vs.findIdx (fun v => v.name == s)]?).getD ⟨0, 0⟩).n) := by
 unfold qmU at h'
 cases hq : vs.find? fun v => v.name == s with
 | none => rw [hq] at h'; simp at h'
 | some v =>
  obtain ⟨hlt, _⟩ := qiX hq
  have hlt' : vs.findIdx (fun v => v.name == s) < env.length := by omega
  have hs : qf0 (fun v : Va => v.name == s) (fun _ => 0) 1 vs = 0 := by unfold qf0; rw [hq]
  rw [qnN, qhv, ev_br, show ((4 : Int) == 1) = false from rfl, cond_false, ev_br, show ((4 : Int) == 2) = false from rfl, cond_false, ev_br, show ((4 : Int) == 3) = false from rfl, cond_false,
   qu2 hv hlen, hs, List.getElem?_eq_getElem hlt']
  simp only [pj_some, if_true, ev_bi_some, ev_at, ql0 hlt', ql1 hlt', Option.getD_some]
def qvI (vs : List Va) (env : List Vl) (l : List Ex) (i : Int) (o n : Int) (s : Bs) : List Vl -> qbw
 | [] => .inl (EV vs, EL env, i, o, n, s, EX l, 0, 0)
 | acc => .inr (EV vs, EL env, i, o, n, s, EX l, 0, 0, EL acc)
theorem q2C (G : Int -> Int -> List UInt8 -> List AV -> List AV -> List AV -> Option qeh) {x0 : Int} (x1 : Int) (x2 : Bs) {x3 : List AV} (x4 x5 : List AV) (h0 : x3.length ≠ 0) (h19 : x0 ≠ 19) : (qcu G x0 x1 x2 x3 x4 x5).ev =
  (rvT G (qlw G (.inl (x4, x5, 0, x0, x1, x2, x3, 0, 0)))).ev := by
 rw [qcu, ev_br, show ((x3.length : Int) == 0) = false by rw [beq_eq_false_iff_ne]; omega, cond_false, ev_br, show (x0 == 19) = false by simpa using h19, cond_false]
theorem q2B (G : Int -> Int -> List UInt8 -> List AV -> List AV -> List AV -> Option qeh) (x1 : Int) (x2 : Bs) {x3 : List AV} (x4 x5 : List AV) (h0 : x3.length ≠ 0) : (qcu G 19 x1 x2 x3 x4 x5).ev = (rvI G x3 x4 x5).ev := by
 rw [qcu, ev_br, show ((x3.length : Int) == 0) = false by rw [beq_eq_false_iff_ne]; omega, cond_false, ev_br, show ((19 : Int) == 19) = true from rfl, cond_true]
theorem qo1 {vs : List Va} {env : List Vl} (hv : vs.length <= big) (he : qhE vs env = true) (h64 : ∀ x ∈ env, qa6 x.n = true) : ∀ (e : Ex), e.nodes <= 1000 -> e.allX qax = true -> ∀ t, e.ty vs = (t, 0) -> ∀ n, e.dep <= n -> qbB n e.op e.num e.txt (EX e.args) (EV vs) (EL env) = some (trp (qa4 vs env e)) := by
 intro e
 induction e using Ex.ind with
 | h o n s l ih =>
  intro h hf t ht m hm
  have hf0 := hf
  rw [Ex.allX_eq, Bool.and_eq_true, List.all_eq_true] at hf
  obtain ⟨hf1, hf2⟩ := hf
  simp only [Ex.args] at hf2
  simp only [Ex.dep] at hm
  have hll := Ex.nodesL_len l
  simp only [Ex.nodes] at h
  cases m with
  | zero => omega
  | succ k =>
   show (qcu (qbB k) o n s (EX l) (EV vs) (EL env)).ev = _
   have hnot : o ≠ 1 /\ o ≠ 2 /\ o ≠ 3 /\ o ≠ 4 /\ l ≠ [] \/ (qcu (qbB k) o n s (EX l) (EV vs) (EL env)).ev = some (trp (qa4 vs env (.mk o n s l))) := by
    rcases qcz hf1 with ⟨ho, rfl, _⟩ | ⟨rfl, rfl, _⟩ | ⟨ho, hl, _⟩ | ⟨rfl, hl, _⟩ | ⟨ho, _, _, hl, _⟩
    ·right
     have hval : qa4 vs env (.mk o n s []) = (⟨o, n⟩, 0) := by rcases ho with rfl | rfl | rfl <;> simp [qa4]
     rw [qcu, ev_br, show (((EX []).length : Nat) : Int) = 0 from rfl, show ((0 : Int) == 0) = true from rfl, cond_true, qMT ho, hval]
     rfl
    ·right
     have h' : qmU vs s = (t, 0) := by simpa [Ex.ty] using ht
     have hval : qa4 vs env (.mk 4 n s []) = ((env[vs.findIdx (fun v => v.name == s)]?).getD ⟨0, 0⟩, 0) := by simp [qa4]
     rw [qcu, ev_br, show (((EX []).length : Nat) : Int) = 0 from rfl, show ((0 : Int) == 0) = true from rfl, cond_true, qMU hv (qMH he) h', hval]
     rfl
    ·left; exact ⟨by omega, by omega, by omega, by omega, by rintro rfl; simp at hl⟩
    ·left; exact ⟨by omega, by omega, by omega, by omega, by rintro rfl; simp at hl⟩
    ·left; exact ⟨by omega, by omega, by omega, by omega, by rintro rfl; simp at hl⟩
   rcases hnot with ⟨h1, h2, h3, h4, hne⟩ | hdone
   case inr => exact hdone
   have hne0 : (EX l).length ≠ 0 := by rw [List.length_map]; exact fun e => hne (List.length_eq_zero_iff.1 e)
   obtain ⟨hr, hall⟩ := qsF h1 h2 h3 h4 ht
   have hty : ∀ e ∈ l, Ex.ty vs e = ((Ex.ty vs e).1, 0) := fun e hm => by rw [<- hall e hm]
   have hG : ∀ x ∈ l, qbB k x.op x.num x.txt (EX x.args) (EV vs) (EL env) = some (trp (qa4 vs env x)) := fun x hx =>
    ih x hx (by have := Ex.nodesL_mem hx; omega) (hf2 x hx) _ (hty x hx) k (by have := Ex.depL_mem hx; omega)
   by_cases h19 : o = 19
   ·subst h19
    have hval : qa4 vs env (.mk 19 n s l) = qK7 vs env l := by simp [qa4]
    rw [q2B _ _ _ _ _ hne0, hval]
    match l, hr, hG, hf2, hall with
    | [c, a, b], hr, hG, hf2, hall =>
     obtain ⟨_, _, q0, q1, q2⟩ := qd7 hr
     have i0 := hG c (by simp)
     have i1 := hG a (by simp)
     have i2 := hG b (by simp)
     have k0 : qay [CS.int IntKind.i64, CS.int IntKind.i64, CS.str, CS.slice 4] (EX [c, a, b]) 0 = true := okX (l := [c, a, b]) (n := 0) (by simp)
     have k1 : qay [CS.int IntKind.i64, CS.int IntKind.i64, CS.str, CS.slice 4] (EX [c, a, b]) 1 = true := okX (l := [c, a, b]) (n := 1) (by simp)
     have k2 : qay [CS.int IntKind.i64, CS.int IntKind.i64, CS.str, CS.slice 4] (EX [c, a, b]) 2 = true := okX (l := [c, a, b]) (n := 2) (by simp)
     have a0 : intOf (cellAt (EX [c, a, b]) 0 0) = c.op := qx0 (l := [c, a, b]) (n := 0) (by simp)
     have a1 : intOf (cellAt (EX [c, a, b]) 0 1) = c.num := qx1 (l := [c, a, b]) (n := 0) (by simp)
     have a2 : strOf (cellAt (EX [c, a, b]) 0 2) = c.txt := qx2 (l := [c, a, b]) (n := 0) (by simp)
     have a3 : qaj (cellAt (EX [c, a, b]) 0 3) = EX c.args := qx3 (l := [c, a, b]) (n := 0) (by simp)
     have b0 : intOf (cellAt (EX [c, a, b]) 1 0) = a.op := qx0 (l := [c, a, b]) (n := 1) (by simp)
     have b1 : intOf (cellAt (EX [c, a, b]) 1 1) = a.num := qx1 (l := [c, a, b]) (n := 1) (by simp)
     have b2 : strOf (cellAt (EX [c, a, b]) 1 2) = a.txt := qx2 (l := [c, a, b]) (n := 1) (by simp)
     have b3 : qaj (cellAt (EX [c, a, b]) 1 3) = EX a.args := qx3 (l := [c, a, b]) (n := 1) (by simp)
     have c0 : intOf (cellAt (EX [c, a, b]) 2 0) = b.op := qx0 (l := [c, a, b]) (n := 2) (by simp)
     have c1 : intOf (cellAt (EX [c, a, b]) 2 1) = b.num := qx1 (l := [c, a, b]) (n := 2) (by simp)
     have c2 : strOf (cellAt (EX [c, a, b]) 2 2) = b.txt := qx2 (l := [c, a, b]) (n := 2) (by simp)
     have c3 : qaj (cellAt (EX [c, a, b]) 2 3) = EX b.args := qx3 (l := [c, a, b]) (n := 2) (by simp)
     simp only [rvI, qK7, ev_br, k0, cond_true, a0, a1, a2, a3, i0, ev_bi_some]
     cases hc : ((qa4 vs env c).2 != 0)
     ·have hc0 : (qa4 vs env c).2 = 0 := by simpa using hc
      obtain ⟨u1, u2⟩ := qs3 he c (hf2 c (by simp)) _ (hty c (by simp)) hc0
      rw [show (Ex.ty vs c).1 = 5 from q0] at u1
      have hn := (qbA u1).1 u2
      simp only [cond_false]
      rcases hn with hn | hn
      ·have w : IntKind.i64.wrap (2 - (qa4 vs env c).1.n) = 2 := by rw [hn]; rfl
       rw [w, k2, c0, c1, c2, c3, i2, if_neg (by omega)]
       rfl
      ·have w : IntKind.i64.wrap (2 - (qa4 vs env c).1.n) = 1 := by rw [hn]; rfl
       rw [w, k1, b0, b1, b2, b3, i1, if_pos hn]
       rfl
     ·rfl
    | [], hr, _, _, _ => cases hr
    | [_], hr, _, _, _ => exact absurd (qnm hr).2 (by simp [qTR])
    | [_, _], hr, _, _, _ =>
     exfalso
     rcases qeg (qd8 hr).2.2 with ⟨_, q, _⟩ | ⟨⟨_, q⟩, _⟩ | ⟨q, _⟩ | ⟨q, _⟩ <;> omega
    | a :: b :: c :: d :: l, hr, _, _, _ =>
     exfalso
     have : (qa0 19 ((a :: b :: c :: d :: l).map fun e => (Ex.ty vs e).1)).2 = false := by
      unfold qa0
      cases (List.map (fun e => (Ex.ty vs e).1) (a :: b :: c :: d :: l)).all qaJ <;> rfl
     rw [hr] at this; cases this
   have hval : qa4 vs env (.mk o n s l) = bif (qe1 vs env l).2 != 0 then (⟨0, 0⟩, (qe1 vs env l).2) else qbc o (qe1 vs env l).1 := by simp [qa4, h1, h2, h3, h4, h19]
   rw [q2C _ _ _ _ _ hne0 h19, hval]
   have key : ∀ (r i : Nat) (acc : List Vl), i + r = l.length -> acc.length + (l.drop i).length <= 1000 -> (∀ x ∈ acc, qa6 x.n = true) -> (rvT (qbB k) (qlw (qbB k) (qvI vs env l (i : Int) o n s acc))).ev = some (qvm o acc (qe1 vs env (l.drop i))) := by
    intro r
    induction r with
    | zero =>
     intro i acc hi hb hacc
     have : i = l.length := by omega
     subst this
     rw [qfC, List.drop_length]
     rw [List.drop_length] at hb
     have h0 := qgq (op := o) (l := acc) (by simpa using hb) (fun x hx => qbX.2 (hacc x hx))
     cases acc with
     | nil =>
      rw [qag (j := 1)]
      ·simp (decide := true) only [rvT, qvI, pj_some, if_true, if_false, ev_bi_none, ev_bi_some, sl_inl, ev_br, ev_at, qvm, qe1, List.append_nil]
       rw [show ([] : List AV) = EL [] from rfl, h0]
       rfl
      ·simp [qvI, qcp, qfO]
     | cons a acc =>
      rw [qag (j := 3)]
      ·simp (decide := true) only [rvT, qvI, pj_some, if_true, if_false, ev_bi_none, ev_bi_some, sr_inr, h0, ev_br, ev_at, qvm, qe1, List.append_nil]
       rfl
      ·simp [qvI, qcp, qfP]
    | succ r ihr =>
     intro i acc hi hb hacc
     have hn : i < l.length := by omega
     have hx : l[i] ∈ l := List.getElem_mem hn
     have hg := hG l[i] hx
     rw [drop_at hn] at hb ⊢
     simp only [List.length_cons] at hb
     have hroom : room (acc.length + 1) 16 = true := qcA (by simp only [lim]; omega)
     cases hee : ((qa4 vs env l[i]).2 != 0)
     ·have hst : (qcp (qbB k) (qvI vs env l (i : Int) o n s acc)).ev = some (.next (qvI vs env l ((i + 1 : Nat) : Int) o n s (acc ++ [(qa4 vs env l[i]).1]))) := by
       cases acc with
       | nil => simp only [qvI, qcp, Sum.elim_inl, qfO, List.length_map, qar hn, okX hn, qx0 hn, qx1 hn, qx2 hn, qx3 hn, hg, hee, ev_br, ev_at, ev_bi_some, cond_true, cond_false, qal hn (show l.length <= big by simp only [big]; omega)]; rfl
       | cons a acc =>
        simp only [List.length_cons] at hroom
        simp only [qvI, qcp, Sum.elim_inr, qfP, List.length_map, qar hn, okX hn, qx0 hn, qx1 hn, qx2 hn, qx3 hn, hg, hee, ev_br, ev_at, ev_bi_some, cond_true, cond_false, qal hn (show l.length <= big by simp only [big]; omega), List.length_cons, hroom]
        simp [qvI, Vl.av]
      have ihn := ihr (i + 1) (acc ++ [(qa4 vs env l[i]).1]) (by omega) (by simp only [List.length_append, List.length_cons, List.length_nil]; omega) (by
       intro x hx'
       rcases List.mem_append.1 hx' with hx' | hx'
       ·exact hacc x hx'
       ·rw [List.mem_singleton.1 hx']; exact qNz h64 l[i] (hf2 _ hx))
      rw [qfC] at ihn ⊢
      rw [qaw hst, ihn]
      congr 1
      simp only [qe1, hee, cond_false, qvm]
      cases hz : ((qe1 vs env (l.drop (i + 1))).2 != 0)
      ·simp
      ·simp [hz]
     ·have hfin : ∀ a : List Vl, qvm o a (qe1 vs env (l[i] :: l.drop (i + 1))) = (0, 0, (qa4 vs env l[i]).2) := by
       intro a
       simp only [qe1, hee, cond_true, qvm]
      rw [hfin, qfC]
      cases acc with
      | nil =>
       rw [qag (j := 0)]
       ·simp (decide := true) only [rvT, qvI, pj_some, if_true, ev_bi_some, sl_inl, qx0 hn, qx1 hn, qx2 hn, qx3 hn, hg, gv_some, ev_at]
       ·simp only [qvI, qcp, Sum.elim_inl, qfO, List.length_map, qar hn, okX hn, qx0 hn, qx1 hn, qx2 hn, qx3 hn, hg, hee, ev_br, ev_at, ev_bi_some, cond_true]
      | cons a acc =>
       rw [qag (j := 2)]
       ·simp (decide := true) only [rvT, qvI, pj_some, if_true, if_false, ev_bi_none, ev_bi_some, sr_inr, qx0 hn, qx1 hn, qx2 hn, qx3 hn, hg, gv_some, ev_at]
       ·simp only [qvI, qcp, Sum.elim_inr, qfP, List.length_map, qar hn, okX hn, qx0 hn, qx1 hn, qx2 hn, qx3 hn, hg, hee, ev_br, ev_at, ev_bi_some, cond_true]
   have := key l.length 0 [] (by omega) (by simp; omega) (by simp)
   refine (this.trans ?_)
   rw [List.drop_zero, qvm]
   cases (qe1 vs env l).2 != 0 <;> rfl
theorem quu {vs : List Va} {env : List Vl} (hv : vs.length <= big) (he : qhE vs env = true) (h64 : ∀ x ∈ env, qa6 x.n = true) {e : Ex} (h : (ofS e vs).2 = 0) : qpn e.op e.num e.txt (EX e.args) (EV vs) (EL env) = some (trp (qa4 vs env e)) := by
 obtain ⟨a, b, c⟩ := qlI h
 exact qb2 (qo1 hv he h64 e (by omega) a _ c)
theorem quB {vs : List Va} {env : List Vl} (hv : vs.length <= big) (hl : env.length <= big) (h64 : ∀ x ∈ env, qa6 x.n = true) {e : Ex} (hw : Wd e) : qk9 e.op e.num e.txt (EX e.args) (EV vs) (EL env) = some (trp (qc8 e vs env)) := by
 rw [qyG, qjY, qk7 hv, quJ hv hw, qgr hl]
 simp only [ev_bi_some, ev_br, ev_at, qc8]
 cases qdv vs != 0
 ·cases h1 : ((ofS e vs).2 != 0)
  ·cases h2 : qhE vs env
   ·rfl
   ·rw [quu hv h2 h64 (by simpa using h1)]; rfl
  ·rfl
 ·rfl
end Go.Proofs.H13

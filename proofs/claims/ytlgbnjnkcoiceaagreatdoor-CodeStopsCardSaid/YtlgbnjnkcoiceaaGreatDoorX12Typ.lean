/- Types of expressions: what the printed functions come to. -/
import Derived.Test.YtlgbnjnkcoiceaaGreatDoorX12Ref
import Derived.Test.YtlgbnjnkcoiceaaGreatDoorTyA
set_option linter.unusedVariables false
set_option linter.unusedSimpArgs false
set_option linter.unnecessarySimpa false
namespace Go.Proofs.H12
open Go Go.Eng Go.Tk
set_option maxRecDepth 20000
theorem f_u94q_val (x : Int) : f_u94q x = some (goodB x) := by
  rw [f_u94q_eq, tr_u94q]; by_cases h : x ≥ 1 <;> simp [goodB, h]
theorem f_u138q_val (op a : Int) : ∃ p, f_u138q op a = some p ∧ nrm p = oneS op a := by
  rw [f_u138q_eq, tr_u138q]
  unfold oneS
  by_cases h1 : op = 16
  · subst h1
    exact ⟨_, rfl, by cases h : (a == 5) <;> simp [nrm, h]⟩
  by_cases h2 : op = 9
  · subst h2
    refine ⟨(a, a == 1 || (a == 2 || a == 3)), ?_, ?_⟩
    · cases h : (a == 1) <;> cases h' : (a == 2) <;> simp [h, h']
    · cases h : (a == 1 || (a == 2 || a == 3)) <;> simp [nrm, h]
  have e1 : (op == 16) = false := by simpa using h1
  have e2 : (op == 9) = false := by simpa using h2
  exact ⟨(0, false), by simp [e1, e2], by simp [nrm, h1, h2]⟩
theorem f_u33q_val : f_u33q = some (ariL.map triA) := by
  rw [f_u33q_eq, tr_u33q]; rfl
theorem f_u139q_val (op a b : Int) : ∃ p, f_u139q op a b = some p ∧ nrm p = twoS op a b := by
  rw [f_u139q_eq, tr_u139q]
  by_cases h1 : op = 10
  · subst h1; exact ⟨_, rfl, by cases h : (a == b) <;> simp [nrm, twoS, h]⟩
  by_cases h2 : op = 11
  · subst h2; exact ⟨_, rfl, by cases h : (a == b) <;> simp [nrm, twoS, h]⟩
  by_cases h3 : op = 12
  · subst h3; exact ⟨(5, a == b && a != 5), by cases h : (a == b) <;> simp [h], by cases h : (a == b && a != 5) <;> simp [nrm, twoS, h]⟩
  by_cases h4 : op = 13
  · subst h4; exact ⟨(5, a == b && a != 5), by cases h : (a == b) <;> simp [h], by cases h : (a == b && a != 5) <;> simp [nrm, twoS, h]⟩
  by_cases h5 : op = 14
  · subst h5; exact ⟨(5, a == b && a == 5), by cases h : (a == b) <;> simp [h], by cases h : (a == b && a == 5) <;> simp [nrm, twoS, h]⟩
  by_cases h6 : op = 15
  · subst h6; exact ⟨(5, a == b && a == 5), by cases h : (a == b) <;> simp [h], by cases h : (a == b && a == 5) <;> simp [nrm, twoS, h]⟩
  by_cases h7 : op = 17
  · subst h7; exact ⟨(a, a == b && a != 5), by cases h : (a == b) <;> simp [h], by cases h : (a == b && a != 5) <;> simp [nrm, twoS, h]⟩
  by_cases h8 : op = 18
  · subst h8; exact ⟨(a, a == b && a != 5), by cases h : (a == b) <;> simp [h], by cases h : (a == b && a != 5) <;> simp [nrm, twoS, h]⟩
  have e1 : (op == 10) = false := by simpa using h1
  have e2 : (op == 11) = false := by simpa using h2
  have e3 : (op == 12) = false := by simpa using h3
  have e4 : (op == 13) = false := by simpa using h4
  have e5 : (op == 14) = false := by simpa using h5
  have e6 : (op == 15) = false := by simpa using h6
  have e7 : (op == 17) = false := by simpa using h7
  have e8 : (op == 18) = false := by simpa using h8
  simp only [e1, e2, e3, e4, e5, e6, e7, e8, ev_br, cond_false, f_u33q_val, ev_bi_some, mhas3, mnot3, twoS, h1, h2, h3, h4, h5, h6, h7, h8, or_self, if_false]
  cases hq : ariT op a b with
  | none => exact ⟨(0, false), by simp, rfl⟩
  | some t =>
    have ht := (ariT_ne hq).1
    rw [mval3 hq]
    refine ⟨(t, t != 0), rfl, ?_⟩
    have : (t != 0) = true := by simpa using ht
    simp [nrm, this]
theorem l_u45q_val {l : List Int} (hl : l.length ≤ big) (op : Int) : l_u45q (op, EI l, EI l, (l.length : Int), 0) = some (seek (fun t => !goodB t) (fun _ => 0) 1 l, op, EI l, EI l, (l.length : Int), ((l.findIdx (fun t => !goodB t) : Nat) : Int)) := by
  rw [l_u45q_eq]
  refine loop_search (hd := fun i => (op, EI l, EI l, (l.length : Int), (i : Int))) (jx := fun _ => 0) _ 1 (fun i hn => ?_) ?_
  · simp only [st_u45q, st_u45q_0, lt_at hn, okI hn, qi0 hn, f_u94q_val, ev_br, ev_at, ev_bi_some, cond_true, wrap_succ hn hl]
    cases goodB l[i] <;> rfl
  · simp [st_u45q, st_u45q_0]
theorem f_u68q_val {l : List Int} (hl : l.length ≤ big) (op : Int) : f_u68q op (EI l) = some (resS op l) := by
  rw [f_u68q_eq, tr_u68q, List.length_map, l_u45q_val hl, seek_const, show l.any (fun t => !goodB t) = !l.all goodB by rw [List.any_eq_not_all_not]; simp]
  unfold resS
  cases hg : l.all goodB
  · rfl
  · simp only [Bool.not_true, cond_false, pj_some, if_true, Nat.one_ne_zero, if_false, ev_bi_none, ev_bi_some, List.length_map]
    match l with
    | [] => rfl
    | [a] =>
      obtain ⟨p, h1, h2⟩ := f_u138q_val op a
      have e0 : intOf (cellAt (EI [a]) 0 0) = a := rfl
      have e1 : okAt ksI (EI [a]) 0 = true := rfl
      simp only [e0, e1, h1, ← h2, nrm, ev_br, ev_bi_some, ev_at]
      cases p.2 <;> rfl
    | [a, b] =>
      obtain ⟨p, h1, h2⟩ := f_u139q_val op a b
      have e0 : intOf (cellAt (EI [a, b]) 0 0) = a := rfl
      have e0' : intOf (cellAt (EI [a, b]) 1 0) = b := rfl
      have e1 : okAt ksI (EI [a, b]) 0 = true := rfl
      have e1' : okAt ksI (EI [a, b]) 1 = true := rfl
      simp only [e0, e0', e1, e1', h1, ← h2, nrm, ev_br, ev_bi_some, ev_at]
      cases p.2 <;> rfl
    | [a, b, c] =>
      have e0 : intOf (cellAt (EI [a, b, c]) 0 0) = a := rfl
      have e1 : intOf (cellAt (EI [a, b, c]) 1 0) = b := rfl
      have e2 : intOf (cellAt (EI [a, b, c]) 2 0) = c := rfl
      have d0 : okAt ksI (EI [a, b, c]) 0 = true := rfl
      have d1 : okAt ksI (EI [a, b, c]) 1 = true := rfl
      have d2 : okAt ksI (EI [a, b, c]) 2 = true := rfl
      simp only [e0, e1, e2, d0, d1, d2, threeS, ev_br, ev_bi_some, ev_at]
      cases (op == 19) <;> cases (a == 5) <;> cases (b == c) <;> rfl
    | a :: b :: c :: d :: r =>
      have e1 : (((a :: b :: c :: d :: r).length : Int) == 1) = false := by simp; omega
      have e2 : (((a :: b :: c :: d :: r).length : Int) == 2) = false := by simp; omega
      have e3 : (((a :: b :: c :: d :: r).length : Int) == 3) = false := by simp; omega
      simp only [e1, e2, e3, ev_br, ev_at, cond_false]
theorem l_u34q_val {vs : List Va} (hl : vs.length ≤ big) (s : Bs) : l_u34q (s, EV vs, (vs.length : Int), 0) = some (seek (fun v => v.name == s) (fun v => bif goodB v.ty then 1 else 0) 2 vs, s, EV vs, (vs.length : Int), ((vs.findIdx (fun v => v.name == s) : Nat) : Int)) := by
  rw [l_u34q_eq]
  refine loop_search (hd := fun i => (s, EV vs, (vs.length : Int), (i : Int))) _ _ 2 (fun i hn => ?_) ?_
  · simp only [st_u34q, st_u34q_0, lt_at hn, okV hn, qv0 hn, qv1 hn, f_u94q_val, ev_br, ev_at, ev_bi_some, cond_true, wrap_succ hn hl]
    cases (vs[i].name == s) <;> cases goodB vs[i].ty <;> rfl
  · simp [st_u34q, st_u34q_0]
theorem find_idx {α : Type} {l : List α} {p : α → Bool} {x : α} (h : l.find? p = some x) : ∃ h' : l.findIdx p < l.length, l[l.findIdx p] = x := by
  have hlt : l.findIdx p < l.length := List.findIdx_lt_length.2 ⟨x, List.mem_of_find?_eq_some h, List.find?_some h⟩
  refine ⟨hlt, ?_⟩
  rw [List.find?_eq_getElem?_findIdx, List.getElem?_eq_getElem hlt] at h
  exact Option.some.inj h
theorem f_u46q_val {vs : List Va} (hl : vs.length ≤ big) (s : Bs) : f_u46q s (EV vs) = some (varTy vs s) := by
  rw [f_u46q_eq, tr_u46q, List.length_map, l_u34q_val hl]
  unfold varTy seek
  cases hf : vs.find? (fun v => v.name == s) with
  | none => rfl
  | some v =>
    obtain ⟨h1, h2⟩ := find_idx hf
    have hq := qv1 h1
    rw [h2] at hq
    simp only
    cases hg : goodB v.ty
    · simp
    · simp [-List.map_cons, hq]
def hdP (vs : List Va) (l : List Ex) (i : Int) (o n : Int) (s : Bs) : List Int → TT_u114q
  | [] => .inl (EV vs, EX l, (l.length : Int), i, o, n, s, EX l)
  | acc => .inr (EV vs, EX l, (l.length : Int), i, o, n, s, EX l, EI acc)
noncomputable def ofT (G : Int → Int → List UInt8 → List AV → List AV → Option B_u159q) (y : Option (Nat × TT_u114q)) : DT B_u159q :=
     (.bi (pj 0 y) (fun y0 =>
      .at ((0, (gv
    (G (intOf (cellAt (sl y0).snd.fst (sl y0).snd.snd.snd.fst 0)) (intOf (cellAt (sl y0).snd.fst (sl y0).snd.snd.snd.fst 1))
      (strOf (cellAt (sl y0).snd.fst (sl y0).snd.snd.snd.fst 2)) (viewOf (cellAt (sl y0).snd.fst (sl y0).snd.snd.snd.fst 3)) (sl y0).fst)).snd)))
      (.bi (pj 1 y) (fun y0 =>
       .bi (f_u68q (sl y0).snd.snd.snd.snd.fst []) (fun y1 =>
        .br (!y1.snd) (.at ((0, 3))) (.at ((y1.fst, 0))))
        (.no))
       (.bi (pj 2 y) (fun y0 =>
        .at ((0, (gv
    (G (intOf (cellAt (sr y0).snd.fst (sr y0).snd.snd.snd.fst 0)) (intOf (cellAt (sr y0).snd.fst (sr y0).snd.snd.snd.fst 1))
      (strOf (cellAt (sr y0).snd.fst (sr y0).snd.snd.snd.fst 2)) (viewOf (cellAt (sr y0).snd.fst (sr y0).snd.snd.snd.fst 3)) (sr y0).fst)).snd)))
        (.bi (pj 3 y) (fun y0 =>
         .bi (f_u68q (sr y0).snd.snd.snd.snd.fst (sr y0).snd.snd.snd.snd.snd.snd.snd.snd) (fun y1 =>
          .br (!y1.snd) (.at ((0, 3))) (.at ((y1.fst, 0))))
          (.no))
         (.no)))))
theorem ofT_eq (G : Int → Int → List UInt8 → List AV → List AV → Option B_u159q) (x0 x1 : Int) (x2 : Bs) (x3 x4 : List AV) : tr_u159q G x0 x1 x2 x3 x4 =
    .br (x0 == 1) (.at ((1, 0))) (.br (x0 == 2) (.at ((2, 0))) (.br (x0 == 3) (.at ((3, 0))) (.br (x0 == 4) (.bi (f_u46q x2 x4) (fun y0 => .at ((y0.fst, y0.snd))) .no)
      (ofT G (l_u114q G (.inl (x4, x3, (x3.length : Int), 0, x0, x1, x2, x3))))))) := rfl
def aftT (op : Int) (acc : List Int) (p : List Int × Int) : Int × Int := finT op (acc ++ p.1, p.2)
theorem typing_of_key {vs : List Va} (hv : vs.length ≤ big) : ∀ (e : Ex), e.nodes ≤ 1000000 → ∀ n, e.dep ≤ n → N_u159q n e.op e.num e.txt (EX e.args) (EV vs) = some (e.ty vs) := by
  intro e
  induction e using Ex.ind with
  | h o n s l ih =>
    intro h m hm
    simp only [Ex.dep] at hm
    have hll := Ex.nodesL_len l
    simp only [Ex.nodes] at h
    cases m with
    | zero => omega
    | succ k =>
      have key : ∀ (r i : Nat) (acc : List Int), i + r = l.length → acc.length + (l.drop i).length ≤ 1000000 → (ofT (N_u159q k) (l_u114q (N_u159q k) (hdP vs l (i : Int) o n s acc))).ev = some (aftT o acc (Ex.tys vs (l.drop i))) := by
        intro r
        induction r with
        | zero =>
          intro i acc hi _
          have : i = l.length := by omega
          subst this
          rw [l_u114q_eq, List.drop_length]
          have hres := fun (acc : List Int) (ha : acc.length ≤ big) => f_u68q_val ha o
          cases acc with
          | nil =>
            rw [iterO_done (j := 1)]
            · have h0 : f_u68q o [] = some (resS o []) := hres [] (by simp [big])
              simp (decide := true) only [ofT, hdP, pj_some, if_true, if_false, ev_bi_none, ev_bi_some, sl_inl, h0, ev_br, ev_at, aftT, finT, Ex.tys, List.append_nil]
              cases (resS o []).2 <;> rfl
            · simp [hdP, st_u114q, st_u114q_0]
          | cons a acc =>
            rw [iterO_done (j := 3)]
            · have h0 := hres (a :: acc) (by simp [big] at *; omega)
              simp (decide := true) only [ofT, hdP, pj_some, if_true, if_false, ev_bi_none, ev_bi_some, sr_inr, h0, ev_br, ev_at, aftT, finT, Ex.tys, List.append_nil]
              cases (resS o (a :: acc)).2 <;> rfl
            · simp [hdP, st_u114q, st_u114q_1]
        | succ r ihr =>
          intro i acc hi hb
          have hn : i < l.length := by omega
          have hx : l[i] ∈ l := List.getElem_mem hn
          have h1 := Ex.nodesL_mem hx
          have h2 := Ex.depL_mem hx
          have hg := ih l[i] hx (by omega) k (by omega)
          rw [drop_at hn] at hb ⊢
          simp only [List.length_cons] at hb
          have hroom : room (acc.length + 1) 8 = true := room_of (by simp only [lim]; omega)
          cases he : ((Ex.ty vs l[i]).2 != 0)
          · have hst : (st_u114q (N_u159q k) (hdP vs l (i : Int) o n s acc)).ev = some (.next (hdP vs l ((i + 1 : Nat) : Int) o n s (acc ++ [(Ex.ty vs l[i]).1]))) := by
              cases acc with
              | nil => simp only [hdP, st_u114q, Sum.elim_inl, st_u114q_0, lt_at hn, okX hn, qx0 hn, qx1 hn, qx2 hn, qx3 hn, hg, he, ev_br, ev_at, ev_bi_some, cond_true, cond_false, wrap_succ hn (show l.length ≤ big by simp only [big]; omega)]; rfl
              | cons a acc =>
                simp only [List.length_cons] at hroom
                simp only [hdP, st_u114q, Sum.elim_inr, st_u114q_1, lt_at hn, okX hn, qx0 hn, qx1 hn, qx2 hn, qx3 hn, hg, he, ev_br, ev_at, ev_bi_some, cond_true, cond_false, wrap_succ hn (show l.length ≤ big by simp only [big]; omega), List.length_map, List.length_cons, hroom]
                simp [hdP]
            have ihn := ihr (i + 1) (acc ++ [(Ex.ty vs l[i]).1]) (by omega) (by simp only [List.length_append, List.length_cons, List.length_nil]; omega)
            rw [l_u114q_eq] at ihn ⊢
            rw [iterO_next hst, ihn]
            congr 1
            simp only [Ex.tys, he, cond_false, aftT, finT]
            cases hz : ((Ex.tys vs (l.drop (i + 1))).2 != 0)
            · simp at hz; simp [hz]
            · simp [hz]
          · have hfin : ∀ a : List Int, aftT o a (Ex.tys vs (l[i] :: l.drop (i + 1))) = (0, (Ex.ty vs l[i]).2) := by
              intro a
              simp only [Ex.tys, he, cond_true, aftT, finT]
            rw [hfin, l_u114q_eq]
            cases acc with
            | nil =>
              rw [iterO_done (j := 0)]
              · simp (decide := true) only [ofT, hdP, pj_some, if_true, ev_bi_some, sl_inl, qx0 hn, qx1 hn, qx2 hn, qx3 hn, hg, gv_some, ev_at]
              · simp only [hdP, st_u114q, Sum.elim_inl, st_u114q_0, lt_at hn, okX hn, qx0 hn, qx1 hn, qx2 hn, qx3 hn, hg, he, ev_br, ev_at, ev_bi_some, cond_true]
            | cons a acc =>
              rw [iterO_done (j := 2)]
              · simp (decide := true) only [ofT, hdP, pj_some, if_true, if_false, ev_bi_none, ev_bi_some, sr_inr, qx0 hn, qx1 hn, qx2 hn, qx3 hn, hg, gv_some, ev_at]
              · simp only [hdP, st_u114q, Sum.elim_inr, st_u114q_1, lt_at hn, okX hn, qx0 hn, qx1 hn, qx2 hn, qx3 hn, hg, he, ev_br, ev_at, ev_bi_some, cond_true]
      show N_u159q (k + 1) o n s (EX l) (EV vs) = some ((Ex.mk o n s l).ty vs)
      simp only [N_u159q, ofT_eq, ev_br, ev_at, f_u46q_val hv, ev_bi_some, Ex.ty]
      by_cases h1 : o = 1
      · subst h1; rfl
      by_cases h2 : o = 2
      · subst h2; rfl
      by_cases h3 : o = 3
      · subst h3; rfl
      by_cases h4 : o = 4
      · subst h4; rfl
      have e1 : (o == 1) = false := by simpa using h1
      have e2 : (o == 2) = false := by simpa using h2
      have e3 : (o == 3) = false := by simpa using h3
      have e4 : (o == 4) = false := by simpa using h4
      rw [e1, e2, e3, e4]
      simp only [cond_false, h1, h2, h3, h4, if_false, List.length_map]
      exact key l.length 0 [] (by omega) (by simp; omega)
theorem f_u159q_val {vs : List Va} (hv : vs.length ≤ big) {e : Ex} (h : e.nodes ≤ 1000000) : f_u159q e.op e.num e.txt (EX e.args) (EV vs) = some (e.ty vs) := limO_of (typing_of_key hv e h)
theorem f_u158q_val {vs : List Va} (hv : vs.length ≤ big) {e : Ex} (h : e.nodes ≤ big) : f_u158q e.op e.num e.txt (EX e.args) (EV vs) = some (ofS e vs) := by
  rw [f_u158q_eq, tr_u158q, f_u60q_val h]
  unfold ofS
  cases hz : (validS e != 0)
  · have hz' : validS e = 0 := by simpa using hz
    have := (validS_ok hz').1
    simp [hz, f_u159q_val hv (e := e) (by omega)]
  · simp [hz]
theorem l_u70q_val {vs : List Va} (hl : vs.length ≤ big) {n : Nat} (hn : n ≤ vs.length) (A B : List AV) (x y : Int) (s : Bs) (t : Int) : l_u70q (A, B, x, y, EV (vs.take n), (n : Int), 0, s, t) = some (seek (fun w => w.name == s) (fun _ => 0) 1 (vs.take n), A, B, x, y, EV (vs.take n), (n : Int), (((vs.take n).findIdx (fun w => w.name == s) : Nat) : Int), s, t) := by
  have hlen : (vs.take n).length = n := by rw [List.length_take]; omega
  rw [l_u70q_eq]
  refine loop_search (hd := fun i => (A, B, x, y, EV (vs.take n), (n : Int), (i : Int), s, t)) (jx := fun _ => 0) _ 1 (fun i hi => ?_) ?_
  · have hi' : i < n := by omega
    simp only [st_u70q, st_u70q_0, lt_at hi', okV hi, qv0 hi, ev_br, ev_at, cond_true, wrap_succ hi' (show n ≤ big by omega)]
    cases ((vs.take n)[i].name == s) <;> rfl
  · rw [hlen]; simp [st_u70q, st_u70q_0]
theorem f_var_valid (s : Bs) : f_u60q 4 0 s [] = some (bif varS s then 0 else 4) := by
  have := f_u60q_val (e := .mk 4 0 s []) (by simp [Ex.nodes, Ex.nodesL, big])
  rw [valid_var] at this
  exact this
theorem l_u69q_val {vs : List Va} (hl : vs.length ≤ big) : ∃ w, l_u69q (EV vs, EV vs, (vs.length : Int), 0) = some (eV vs, w) := by
  rw [l_u69q_eq]
  refine ⟨_, loop_searchI (N := vs.length) (hd := fun i => (EV vs, EV vs, (vs.length : Int), (i : Int))) (jx := wrongV vs) _ 3 (fun i hn => ?_) ?_⟩
  · have htk : List.take (i : Int).toNat (EV vs) = EV (vs.take i) := by simp [List.map_take]
    have hlen : ((EV (vs.take i)).length : Int) = (i : Int) := by simp; omega
    have hs := l_u70q_val hl (Nat.le_of_lt hn) (EV vs) (EV vs) (vs.length : Int) (i : Int) vs[i].name vs[i].ty
    rw [seek_const] at hs
    have hle : leB (i : Int) (EV vs).length = true := leB_nat (by simp; omega)
    have hwr : wrongV vs i = bif !varS vs[i].name then 0 else bif (vs.take i).any (fun w => w.name == vs[i].name) then 1 else bif !goodB vs[i].ty then 2 else 9 := by
      unfold wrongV; rw [List.getElem?_eq_getElem hn]
    simp only [st_u69q, st_u69q_0, lt_at hn, okV hn, qv0 hn, qv1 hn, f_var_valid, ev_br, ev_at, ev_bi_some, cond_true, htk, hlen, hs, hle, Bool.and_true, hwr]
    cases varS vs[i].name
    · rfl
    · cases (vs.take i).any (fun w => w.name == vs[i].name)
      · simp (decide := true) only [pj_some, cond_false, cond_true, if_false, if_true, Bool.not_true, ev_bi_none, ev_bi_some, f_u94q_val, ev_br, ev_at, wrap_succ hn hl]
        cases goodB vs[i].ty <;> rfl
      · rfl
  · simp [st_u69q, st_u69q_0]
theorem eV_cases (vs : List Va) : eV vs = 0 ∨ eV vs = 1 ∨ eV vs = 2 ∨ eV vs = 3 := by
  unfold eV seek
  cases hf : (List.range vs.length).find? (fun n => wrongV vs n != 9) with
  | none => simp
  | some n =>
    have := List.find?_some hf
    simp only
    rcases wrongV_cases vs n with h | h | h | h
    · exact .inl h
    · exact .inr (.inl h)
    · exact .inr (.inr (.inl h))
    · rw [h] at this; cases this
theorem f_u113q_val {vs : List Va} (hl : vs.length ≤ big) : f_u113q (EV vs) = some (varsS vs) := by
  obtain ⟨w, hw⟩ := l_u69q_val hl
  rw [f_u113q_eq, tr_u113q, List.length_map, hw, varsS]
  by_cases h : vs.length > 64
  · rw [if_pos h, decide_eq_true (by omega)]; rfl
  · rw [if_neg h, decide_eq_false (by omega)]
    rcases eV_cases vs with h | h | h | h <;> rw [h] <;> simp
end Go.Proofs.H12

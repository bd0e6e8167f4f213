/- The document's expressions (names, Validate): what the printed functions come to. -/
import Derived.Test.YtlgbnjnkcoiceaaGreatDoorX12Exp
set_option linter.unusedVariables false
set_option linter.unusedSimpArgs false
set_option linter.unnecessarySimpa false
namespace Go.Proofs.H12
open Go Go.Eng Go.Tk
set_option maxRecDepth 20000
theorem l_u116q_val {s : Bs} (hl : s.length ≤ big) : l_u116q (s, 0) = some (seek (fun c => !at8 namI c) (fun _ => 0) 1 s, s, ((s.findIdx (fun c => !at8 namI c) : Nat) : Int)) := by
  rw [l_u116q_eq]
  refine loop_search (hd := fun n => (s, (n : Int))) (jx := fun _ => 0) _ 1 (fun n h => ?_) ?_
  · simp only [st_u116q, st_u116q_0, lt_at h, inB_at h, byteAt_at h, wrap_succ h hl, br_eq, cond_true, ev_br, ev_at, cond_some, ev_bi_some, at8, namI, ltrI, digI]
    have e1 : decide ((s[n].toNat : Int) < 97) = !decide ((s[n].toNat : Int) ≥ 97) := by by_cases h : (s[n].toNat : Int) ≥ 97 <;> simp [h] <;> omega
    have e2 : decide ((s[n].toNat : Int) > 122) = !decide ((s[n].toNat : Int) ≤ 122) := by by_cases h : (s[n].toNat : Int) ≤ 122 <;> simp [h] <;> omega
    have e3 : decide ((s[n].toNat : Int) < 48) = !decide ((s[n].toNat : Int) ≥ 48) := by by_cases h : (s[n].toNat : Int) ≥ 48 <;> simp [h] <;> omega
    have e4 : decide ((s[n].toNat : Int) > 57) = !decide ((s[n].toNat : Int) ≤ 57) := by by_cases h : (s[n].toNat : Int) ≤ 57 <;> simp [h] <;> omega
    rw [e1, e2, e3, e4, bne]
    cases decide ((s[n].toNat : Int) ≥ 97) <;> cases decide ((s[n].toNat : Int) ≤ 122) <;> cases decide ((s[n].toNat : Int) ≥ 48) <;> cases decide ((s[n].toNat : Int) ≤ 57) <;> cases ((s[n].toNat : Int) == 95) <;> rfl
  · simp [st_u116q, st_u116q_0]
theorem f_u160q_val (s : Bs) : f_u160q s = some (nameB s) := by
  rw [f_u160q_eq, tr_u160q]
  cases s with
  | nil => rfl
  | cons c r =>
    have e0 : decide (((c :: r).length : Int) < 1) = false := by simp only [List.length_cons, decide_eq_false_iff_not]; omega
    have e1 : inB (c :: r).length 0 = true := by simp [inB]
    have e2 : byteAt (c :: r) 0 = (c.toNat : Int) := by simp [byteAt, atIdx]
    have e3 : decide (((c :: r).length : Int) > 16) = !decide ((c :: r).length ≤ 16) := by
      by_cases h : (c :: r).length ≤ 16 <;> simp only [h, decide_true, decide_false, Bool.not_true, Bool.not_false, decide_eq_true_eq, decide_eq_false_iff_not] <;> omega
    simp only [e0, e1, e2, e3, br_eq, cond_false, cond_true, cond_some, ev_bi_some, ev_br, ev_at, nameB, at8, ltrI]
    cases h16 : decide ((c :: r).length ≤ 16)
    · rfl
    · have hl : (c :: r).length ≤ big := Nat.le_trans (of_decide_eq_true h16) (by decide)
      rw [l_u116q_val hl, seek_const]
      have e4 : decide ((c.toNat : Int) < 97) = !decide ((c.toNat : Int) ≥ 97) := by by_cases h : (c.toNat : Int) ≥ 97 <;> simp [h] <;> omega
      have e5 : decide ((c.toNat : Int) > 122) = !decide ((c.toNat : Int) ≤ 122) := by by_cases h : (c.toNat : Int) ≤ 122 <;> simp [h] <;> omega
      rw [e4, e5]
      have e6 : (c :: r).any (fun c => !at8 namI c) = !(c :: r).all (at8 namI) := by rw [List.any_eq_not_all_not]; simp
      rw [e6]
      show _ = some (_ && (_ && (c :: r).all (at8 namI)))
      cases decide ((c.toNat : Int) ≥ 97) <;> cases decide ((c.toNat : Int) ≤ 122) <;> cases (c :: r).all (at8 namI) <;> simp
theorem f_u143q_val : f_u143q = some (ES wordsS) := by
  rw [f_u143q_eq, tr_u143q]; rfl
theorem l_u117q_val (s : Bs) : l_u117q (s, ES wordsS, 0) = some (seek (s == ·) (fun _ => 0) 1 wordsS, s, ES wordsS, ((wordsS.findIdx (s == ·) : Nat) : Int)) := by
  rw [l_u117q_eq]
  refine loop_search (hd := fun n => (s, ES wordsS, (n : Int))) (jx := fun _ => 0) _ 1 (fun n h => ?_) ?_
  · simp only [st_u117q, st_u117q_0, List.length_map, lt_at h, okS1 h, qs0 h, ev_br, ev_at, cond_true, wrap_succ h (show wordsS.length ≤ big by decide)]
    rw [BEq.comm (a := wordsS[n]) (b := s)]
    cases (s == wordsS[n]) <;> rfl
  · simp [st_u117q, st_u117q_0]
theorem f_u161q_val (s : Bs) : f_u161q s = some (wordB s) := by
  rw [f_u161q_eq, tr_u161q, f_u143q_val]
  simp only [ev_bi_some, l_u117q_val, seek_const, wordB, has]
  cases wordsS.any (s == ·) <;> simp
theorem f_u73q_val (s : Bs) : f_u73q s = some (varS s) := by
  rw [f_u73q_eq, tr_u73q, f_u160q_val, f_u161q_val, varS_eq]
  cases nameB s <;> simp
theorem R10_count_key : ∀ (e : Ex), Wd e → ∀ (most : Nat), most ≤ 1000000 → ∀ n, e.dep ≤ n → N_u148q n e.op e.num e.txt (EX e.args) (most : Int) = some ((min e.nodes (most + 1) : Nat) : Int) := by
  intro e
  induction e using Ex.ind with
  | h o n s l ih =>
    intro hw most hmost m hm
    have hlen := hw.len
    simp only [Ex.args] at hlen
    have hwa : ∀ x ∈ l, Wd x := fun x hx => hw.arg (e := .mk o n s l) hx
    simp only [Ex.dep] at hm
    cases m with
    | zero => omega
    | succ k =>
      simp only [N_u148q, tr_u148q, Ex.op, Ex.num, Ex.txt, Ex.args]
      have key : ∀ (r i c : Nat), i + r = l.length → c ≤ most + 1 → ∃ q, l_u100q (N_u148q k) ((most : Int), (c : Int), (i : Int), o, n, s, EX l) = some (0, (most : Int), ((min (c + Ex.nodesL (l.drop i)) (most + 1) : Nat) : Int), q) := by
        intro r
        induction r with
        | zero =>
          intro i c hi hc
          have : i = l.length := by omega
          subst this
          refine ⟨((l.length : Int), o, n, s, EX l), ?_⟩
          rw [l_u100q_eq, iterO_done (j := 0)]
          · rw [List.drop_length]; simp only [Ex.nodesL, Nat.add_zero]; rw [Nat.min_eq_left hc]
          · simp [st_u100q, st_u100q_0]
        | succ r ihr =>
          intro i c hi hc
          have hn : i < l.length := by omega
          by_cases hcm : c ≤ most
          · have hx : l[i] ∈ l := List.getElem_mem hn
            have h2 := Ex.depL_mem hx
            have hwr : IntKind.i64.wrap ((most : Int) - (c : Int)) = ((most - c : Nat) : Int) := by
              rw [wrap64 (by omega) (by omega)]; omega
            have hg := ih l[i] hx (hwa _ hx) (most - c) (by omega) k (by omega)
            have hpos := Ex.nodes_pos l[i]
            have hws : IntKind.i64.wrap ((c : Int) + ((min l[i].nodes (most - c + 1) : Nat) : Int)) = ((c + min l[i].nodes (most - c + 1) : Nat) : Int) := by
              rw [wrap64 (by omega) (by omega)]; omega
            have hst : (st_u100q (N_u148q k) ((most : Int), (c : Int), (i : Int), o, n, s, EX l)).ev = some (.next ((most : Int), ((c + min l[i].nodes (most - c + 1) : Nat) : Int), ((i + 1 : Nat) : Int), o, n, s, EX l)) := by
              have e1 : decide ((c : Int) ≤ (most : Int)) = true := by simp; omega
              simp only [st_u100q, st_u100q_0, List.length_map, lt_at hn, e1, br_eq, cond_true, ev_bi_some, ev_br, ev_at, okX hn, qx0 hn, qx1 hn, qx2 hn, qx3 hn, hwr, hg, hws, wrap_succ hn hlen]
            obtain ⟨q, hq⟩ := ihr (i + 1) (c + min l[i].nodes (most - c + 1)) (by omega) (by omega)
            refine ⟨q, ?_⟩
            rw [l_u100q_eq] at hq ⊢
            rw [iterO_next hst, hq, drop_at hn]
            simp only [Ex.nodesL]
            congr 4
            omega
          · refine ⟨((i : Int), o, n, s, EX l), ?_⟩
            rw [l_u100q_eq, iterO_done (j := 0)]
            · have : min (c + Ex.nodesL (l.drop i)) (most + 1) = c := by omega
              rw [this]
            · have e1 : decide ((c : Int) ≤ (most : Int)) = false := by simp; omega
              simp only [st_u100q, st_u100q_0, List.length_map, lt_at hn, e1, br_eq, cond_true, cond_false, ev_bi_some, ev_br, ev_at]
      obtain ⟨q, hq⟩ := key l.length 0 1 (by omega) (by omega)
      have hq' : l_u100q (N_u148q k) ((most : Int), 1, 0, o, n, s, EX l) = some (0, (most : Int), ((min (1 + Ex.nodesL (l.drop 0)) (most + 1) : Nat) : Int), q) := hq
      rw [hq']
      simp only [pj_some, if_true, ev_bi_some, ev_at, List.drop_zero, Ex.nodes]
      congr 3; omega
theorem f_u145q_val {e : Ex} (hw : Wd e) {most : Nat} (hm : most ≤ 1000000) : f_u145q e.op e.num e.txt (EX e.args) (most : Int) = some (decide (e.nodes > most)) := by
  have hc : f_u148q e.op e.num e.txt (EX e.args) (most : Int) = some ((min e.nodes (most + 1) : Nat) : Int) := limO_of (R10_count_key e hw most hm)
  rw [f_u145q_eq, tr_u145q, hc]
  simp only [ev_bi_some, ev_at]
  congr 1
  by_cases h : e.nodes > most <;> simp [h] <;> omega
theorem f_u144q_val {e : Ex} (h : e.nodes ≤ big) : f_u144q e.op e.num e.txt (EX e.args) = some (e.dep : Int) := by
  refine limO_of (n := e.dep) ?_
  induction e using Ex.ind with
  | h o n s l ih =>
    intro m hm
    cases m with
    | zero => simp [Ex.dep] at hm
    | succ k =>
      have hdl := Ex.dep_le (.mk o n s l)
      simp only [Ex.op, Ex.num, Ex.txt, Ex.args, N_u144q, tr_u144q]
      simp only [Ex.nodes, Ex.dep] at h hm hdl
      have hll := Ex.nodesL_len l
      have key : l_u96q (N_u144q k) (0, 0, o, n, s, EX l) = some (0, ((l.foldl (fun a x => max a (Ex.dep x)) 0 : Nat) : Int), (l.length : Int), o, n, s, EX l) := by
        rw [l_u96q_eq]
        refine loop_fold (l := l) (hd := fun i a => (((a : Nat) : Int), (i : Int), o, n, s, EX l)) (f := fun a x => max a (Ex.dep x)) (jx := fun _ => 0) (inv := fun _ _ => True) trivial (fun _ _ _ _ => trivial) ?_ ?_
        · intro i a hn _
          have hx : l[i] ∈ l := List.getElem_mem hn
          have h1 := Ex.nodesL_mem hx
          have h2 := Ex.depL_mem hx
          have hg := ih l[i] hx (by omega) k (by omega)
          have hm : (if (l[i].dep : Int) > (a : Int) then (l[i].dep : Int) else (a : Int)) = ((max a l[i].dep : Nat) : Int) := by
            by_cases hc : a < l[i].dep
            · rw [if_pos (by omega), Nat.max_eq_right (by omega)]
            · rw [if_neg (by omega), Nat.max_eq_left (by omega)]
          simp only [st_u96q, st_u96q_0, List.length_map, lt_at hn, okX hn, qx0 hn, qx1 hn, qx2 hn, qx3 hn, hg, ev_br, ev_at, ev_bi_some, cond_true, hm, wrap_succ hn (show l.length ≤ big by omega)]
        · intro a _
          simp [st_u96q, st_u96q_0]
      rw [key, Ex.dep_fold]
      have hw : IntKind.i64.wrap (((max 0 (Ex.depL l) : Nat) : Int) + 1) = ((Ex.depL l + 1 : Nat) : Int) := by
        simp only [big] at h
        rw [Nat.zero_max, wrap64 (by omega) (by omega)]; simp
      simp only [pj_some, if_true, ev_bi_some, ev_at, Ex.dep, hw]
theorem f_u71q_val (op : Int) : f_u71q op = some (operandsS op) := by
  rw [f_u71q_eq, tr_u71q]
  simp only [br_eq, cond_some, ev_bi_some, ev_br, ev_at, operandsS]
  by_cases h0 : op < 1
  · simp [h0]; rw [if_neg (by omega), if_neg (by omega), if_neg (by omega), if_neg (by omega)]
  by_cases h1 : op > 19
  · simp [h0, h1]; rw [if_neg (by omega), if_neg (by omega), if_neg (by omega), if_neg (by omega)]
  by_cases h2 : op ≤ 4
  · have e : op = 1 ∨ op = 2 ∨ op = 3 ∨ op = 4 := by omega
    rw [if_pos e]; simp [h0, h1, h2]
  by_cases h3 : op = 9
  · subst h3; simp
  by_cases h4 : op = 16
  · subst h4; simp
  by_cases h5 : op = 19
  · subst h5; simp
  simp [h0, h1, h2, h3, h4, h5]
  rw [if_neg (by omega), if_pos (by omega)]
theorem f_u163q_val (op : Int) : f_u163q op = some (mostS op) := by
  rw [f_u163q_eq, tr_u163q]
  simp only [ev_br, ev_at, cond_some, mostS]
  by_cases h1 : op = 1
  · simp [h1]
  by_cases h2 : op = 2
  · simp [h2]
  by_cases h3 : op = 3
  · simp [h3]
  have e1 : (op == 1) = false := by simpa using h1
  have e2 : (op == 2) = false := by simpa using h2
  have e3 : (op == 3) = false := by simpa using h3
  simp [h1, h2, h3, e1, e2, e3]
theorem f_u149q_val {e : Ex} (h : e.nodes ≤ big) : f_u149q e.op e.num e.txt (EX e.args) = some (e.allX formedB) := by
  refine limO_of (n := e.dep) ?_
  induction e using Ex.ind with
  | h o n s l ih =>
    intro m hm
    cases m with
    | zero => simp [Ex.dep] at hm
    | succ k =>
      have hal := Ex.allX_eq formedB (.mk o n s l)
      show N_u149q (k + 1) o n s (EX l) = some ((Ex.mk o n s l).allX formedB)
      simp only [N_u149q, tr_u149q]
      simp only [Ex.nodes, Ex.dep] at h hm
      have hll := Ex.nodesL_len l
      have key : l_u101q (N_u149q k) (0, o, n, s, EX l) = some (seek (fun x => !Ex.allX formedB x) (fun _ => 0) 1 l, ((l.findIdx (fun x => !Ex.allX formedB x) : Nat) : Int), o, n, s, EX l) := by
        rw [l_u101q_eq]
        refine loop_search (hd := fun i => ((i : Int), o, n, s, EX l)) (jx := fun _ => 0) _ 1 (fun i hn => ?_) ?_
        · have hx : l[i] ∈ l := List.getElem_mem hn
          have h1 := Ex.nodesL_mem hx
          have h2 := Ex.depL_mem hx
          have hg := ih l[i] hx (by omega) k (by omega)
          simp only [st_u101q, st_u101q_0, List.length_map, lt_at hn, okX hn, qx0 hn, qx1 hn, qx2 hn, qx3 hn, hg, ev_br, ev_at, ev_bi_some, cond_true, wrap_succ hn (show l.length ≤ big by omega)]
          cases l[i].allX formedB <;> rfl
        · simp [st_u101q, st_u101q_0]
      rw [key, hal, seek_const, f_u71q_val, f_u163q_val, Ex.args]
      have e1 : decide (n < 0) = !decide (n ≥ 0) := by by_cases h : n ≥ 0 <;> simp [h] <;> omega
      have e2 : decide (n > mostS o) = !decide (n ≤ mostS o) := by by_cases h : n ≤ mostS o <;> simp [h] <;> omega
      have e3 : ((l.length : Int) == operandsS o) = (operandsS o == (l.length : Int)) := by rw [Bool.eq_iff_iff, beq_iff_eq, beq_iff_eq]; exact eq_comm
      have hna : l.any (fun x => !Ex.allX formedB x) = !l.all (Ex.allX formedB) := by
        rw [List.any_eq_not_all_not]; simp
      simp only [ev_bi_some, ev_br, ev_at, List.length_map, bne, e3, hna, pj_some]
      rw [e1, e2]
      show _ = some ((operandsS o == (l.length : Int) && (decide (n ≥ 0) && (decide (n ≤ mostS o) && (s == [] || o == 4)))) && _)
      cases (operandsS o == (l.length : Int)) <;> cases decide (n ≥ 0) <;> cases decide (n ≤ mostS o) <;> cases (s == []) <;> cases (o == 4) <;> cases l.all (Ex.allX formedB) <;> rfl
theorem l_u74q_val {l : List Bs} (hl : l.length ≤ big) (s : Bs) : l_u74q (ES l, s, 0) = some (0, ES l, s, (((l.takeWhile (bytesLt · s)).length : Nat) : Int)) := by
  rw [l_u74q_eq]
  refine loop_steps (fun n => (ES l, s, (n : Int))) (l.takeWhile (bytesLt · s)).length 0 0 (Nat.zero_le _) (fun m _ hm => ?_) ?_
  · have h := Nat.lt_of_lt_of_le hm (tw_le l)
    have := tw_in h hm
    simp only [st_u74q, st_u74q_0, List.length_map, lt_at h, okS1 h, qs0 h, br_eq, cond_true, ev_bi_some, ev_br, ev_at, this, wrap_succ h hl]
  · by_cases h : (l.takeWhile (bytesLt · s)).length < l.length
    · have := tw_out h
      simp only [st_u74q, st_u74q_0, List.length_map, lt_at h, okS1 h, qs0 h, br_eq, cond_true, ev_bi_some, ev_br, ev_at, this, cond_false]
    · have h2 := tw_le (p := (bytesLt · s)) l
      simp only [st_u74q, st_u74q_0, List.length_map, lt_end h, br_eq, cond_false, ev_bi_some, ev_br, ev_at]
theorem f_u119q_val {l : List Bs} (hl : l.length ≤ 1000000) (s : Bs) : f_u119q (ES l) s = some (ES (insS l s)) := by
  have hb : l.length ≤ big := Nat.le_trans hl (by decide)
  rw [f_u119q_eq, tr_u119q, l_u74q_val hb]
  have hk := tw_le (p := (bytesLt · s)) l
  unfold insS
  generalize hkk : (l.takeWhile (bytesLt · s)).length = k at hk
  simp only [pj_some, if_true, ev_bi_some, List.length_map, Int.toNat_natCast]
  have hr : ∀ n, n ≤ 2000000 → room n 16 = true := fun n hn => room_of (by simp only [lim]; omega)
  by_cases hlt : k < l.length
  · simp only [lt_at hlt, okS1 hlt, qs0 hlt, br_eq, cond_true, ev_bi_some, ev_br]
    rw [List.getElem?_eq_getElem hlt]
    cases hq : (l[k] == s)
    · have hne : ¬ l[k] = s := by simpa using hq
      have hD : decide ((List.drop k (ES l)).length = 0) = false := by simp; omega
      have hD' : decide ((List.drop k (ES l)).length ≠ 0) = true := by simp; omega
      simp only [Option.some.injEq, hne, if_false, cond_false, leB_nat (Nat.le_of_lt hlt), Bool.and_true, Bool.true_and, Bool.false_and, Bool.and_self, cond_true, hD, hD', decide_true]
      by_cases hk0 : k = 0
      · subst hk0
        rw [hr _ (by simp; omega)]
        simp
      · have hTl : (List.take k (ES l)).length = k := by rw [List.length_take, List.length_map]; omega
        have hT : decide ((List.take k (ES l)).length = 0) = false := by rw [hTl]; simpa using hk0
        have hT' : decide ((List.take k (ES l)).length ≠ 0) = true := by rw [hTl]; simpa using hk0
        simp only [hT, hT', Bool.true_and, Bool.false_and, cond_false]
        rw [hr _ (by simp; omega), hr _ (by simp; omega), hr _ (by simp; omega)]
        simp [List.map_append, List.map_take, List.map_drop]
    · have hqe : l[k] = s := by simpa using hq
      simp [hqe]
  · have hke : k = l.length := by omega
    have hD : decide ((List.drop k (ES l)).length = 0) = true := by simp; omega
    simp only [lt_end hlt, br_eq, cond_false, ev_bi_some, ev_br, leB_nat hk, Bool.and_true, Bool.true_and, cond_true, hD, decide_true]
    rw [List.getElem?_eq_none (by omega)]
    simp only [reduceCtorEq, if_false]
    by_cases hk0 : k = 0
    · have : l = [] := by cases l with
        | nil => rfl
        | cons _ _ => simp at hke; omega
      subst this; subst hk0; rfl
    · have hTl : (List.take k (ES l)).length = k := by rw [List.length_take, List.length_map]; omega
      have hT : decide ((List.take k (ES l)).length = 0) = false := by rw [hTl]; simpa using hk0
      have hT' : decide ((List.take k (ES l)).length ≠ 0) = true := by rw [hTl]; simpa using hk0
      simp only [hT, hT', Bool.true_and, cond_false, ev_br]
      rw [hr _ (by simp; omega), hr _ (by simp; omega)]
      have e1 : List.take k (ES l) = ES l := List.take_of_length_le (by simp; omega)
      have e2 : List.take k l = l := List.take_of_length_le (by omega)
      have e3 : List.drop k l = [] := List.drop_eq_nil_of_le (by omega)
      simp [e1, e2, e3]
def hdI (f : Nat) (i : Int) (L : List AV) (j : Int) (o n : Int) (s : Bs) (A : List AV) (acc : List Bs) : TT_u98q := match f with
  | 0 => .inl (i, L, j, o, n, s, A, ES acc)
  | 1 => .inr (.inl (i, L, j, o, n, s, A))
  | _ => .inr (.inr (ES acc, i, L, j, o, n, s, A))
def hdO (f : Nat) (i : Int) (o n : Int) (s : Bs) (A : List AV) (acc : List Bs) : TT_u97q := match f with
  | 0 => .inl (i, o, n, s, A, ES acc)
  | 1 => .inr (.inl (i, o, n, s, A))
  | _ => .inr (.inr (ES acc, i, o, n, s, A))
def fOk (f : Nat) (acc : List Bs) : Prop := f ≤ 2 ∧ (f = 1 → acc = [])
theorem R10_inner {L : List Bs} (hL : L.length ≤ 1000000) (i o n : Int) (s : Bs) (A : List AV) : ∀ (r j f : Nat) (acc : List Bs), j + r = L.length → fOk f acc → acc.length + r ≤ 1000000 →
    l_u98q (hdI f i (ES L) (j : Int) o n s A acc) = some (if r = 0 then f else 2, hdI (if r = 0 then f else 2) i (ES L) (L.length : Int) o n s A ((L.drop j).foldl insS acc))
  | 0, j, f, acc, hj, hf, _ => by
    have : j = L.length := by omega
    subst this
    obtain ⟨h1, h2⟩ := hf
    rw [l_u98q_eq, List.drop_length]
    simp only [if_true, List.foldl_nil]
    match f, h1 with
    | 0, _ => rw [iterO_done (j := 0)]; simp [hdI, st_u98q, st_u98q_0]
    | 1, _ => rw [iterO_done (j := 1)]; simp [hdI, st_u98q, st_u98q_1]
    | 2, _ => rw [iterO_done (j := 2)]; simp [hdI, st_u98q, st_u98q_2]
  | r + 1, j, f, acc, hj, hf, hb => by
    have hn : j < L.length := by omega
    obtain ⟨h1, h2⟩ := hf
    have hst : (st_u98q (hdI f i (ES L) (j : Int) o n s A acc)).ev = some (.next (hdI 2 i (ES L) ((j + 1 : Nat) : Int) o n s A (insS acc L[j]))) := by
      have hi := f_u119q_val (l := acc) (by omega) L[j]
      match f, h1 with
      | 0, _ => simp only [hdI, st_u98q, Sum.elim_inl, st_u98q_0, List.length_map, lt_at hn, okS1 hn, qs0 hn, hi, ev_br, ev_at, ev_bi_some, cond_true, wrap_succ hn (Nat.le_trans hL (by decide))]
      | 1, _ =>
        have := h2 rfl
        subst this
        have hi' : f_u119q [] L[j] = some (ES (insS [] L[j])) := hi
        simp only [hdI, st_u98q, Sum.elim_inl, Sum.elim_inr, st_u98q_1, List.length_map, lt_at hn, okS1 hn, qs0 hn, hi', ev_br, ev_at, ev_bi_some, cond_true, wrap_succ hn (Nat.le_trans hL (by decide))]
      | 2, _ => simp only [hdI, st_u98q, Sum.elim_inr, st_u98q_2, List.length_map, lt_at hn, okS1 hn, qs0 hn, hi, ev_br, ev_at, ev_bi_some, cond_true, wrap_succ hn (Nat.le_trans hL (by decide))]
    have hle := insS_len acc L[j]
    have ih := R10_inner hL i o n s A r (j + 1) 2 (insS acc L[j]) (by omega) ⟨Nat.le_refl _, by omega⟩ (by omega)
    rw [l_u98q_eq] at ih ⊢
    rw [iterO_next hst, ih, drop_at hn]
    have : (if r = 0 then 2 else 2) = 2 := by split <;> rfl
    rw [this, if_neg (show ¬ r + 1 = 0 by omega), List.foldl_cons]
noncomputable def namesT (y : Option (Nat × TT_u97q)) : DT B_u146q :=
  .bi (pj 0 y) (fun y0 => .at ((sl y0).snd.snd.snd.snd.snd)) (.bi (pj 1 y) (fun _ => .at ([])) (.bi (pj 2 y) (fun y0 => .at ((sr (sr y0)).fst)) .no))
theorem namesT_eq (G : Int → Int → List UInt8 → List AV → Option B_u146q) (x0 x1 : Int) (x2 : Bs) (x3 : List AV) :
    tr_u146q G x0 x1 x2 x3 = .br (x0 == 4) (namesT (l_u97q G (hdO 0 0 x0 x1 x2 x3 [x2]))) (namesT (l_u97q G (hdO 1 0 x0 x1 x2 x3 []))) := rfl
theorem R10_Names_key : ∀ (e : Ex), e.nodes ≤ 1000000 → ∀ n, e.dep ≤ n → N_u146q n e.op e.num e.txt (EX e.args) = some (ES e.names) := by
  intro e
  induction e using Ex.ind with
  | h o n s l ih =>
    intro h m hm
    simp only [Ex.dep] at hm
    have hll := Ex.nodesL_len l
    simp only [Ex.nodes] at h
    cases m with
    | zero => omega
    | succ k =>
      have key : ∀ (r i f : Nat) (acc : List Bs), i + r = l.length → fOk f acc → acc.length + Ex.nodesL (l.drop i) ≤ 1000000 → (namesT (l_u97q (N_u146q k) (hdO f (i : Int) o n s (EX l) acc))).ev = some (ES (Ex.namesL acc (l.drop i))) := by
        intro r
        induction r with
        | zero =>
          intro i f acc hi hf _
          have : i = l.length := by omega
          subst this
          obtain ⟨h1, h2⟩ := hf
          rw [l_u97q_eq, List.drop_length]
          match f, h1 with
          | 0, _ =>
            rw [iterO_done (j := 0)]
            · rfl
            · simp [hdO, st_u97q, st_u97q_0]
          | 1, _ =>
            have := h2 rfl
            subst this
            rw [iterO_done (j := 1)]
            · rfl
            · simp [hdO, st_u97q, st_u97q_1]
          | 2, _ =>
            rw [iterO_done (j := 2)]
            · rfl
            · simp [hdO, st_u97q, st_u97q_2]
        | succ r ihr =>
          intro i f acc hi hf hb
          have hn : i < l.length := by omega
          have hx : l[i] ∈ l := List.getElem_mem hn
          have h1 := Ex.nodesL_mem hx
          have h2 := Ex.depL_mem hx
          have hg := ih l[i] hx (by omega) k (by omega)
          have hnl := names_len l[i]
          rw [drop_at hn] at hb ⊢
          simp only [Ex.nodesL] at hb
          have hin := R10_inner (L := l[i].names) (by omega) (i : Int) o n s (EX l) l[i].names.length 0 f acc (by omega) hf (by omega)
          rw [List.drop_zero] at hin
          have hfl := insF_len l[i].names acc
          generalize hf2 : (if l[i].names.length = 0 then f else 2) = f2 at hin
          have hf2ok : fOk f2 (l[i].names.foldl insS acc) := by
            rw [← hf2]
            by_cases hz : l[i].names.length = 0
            · rw [if_pos hz]
              have : l[i].names = [] := List.length_eq_zero_iff.1 hz
              rw [this]; exact hf
            · rw [if_neg hz]; exact ⟨Nat.le_refl _, by omega⟩
          have hst : (st_u97q (N_u146q k) (hdO f (i : Int) o n s (EX l) acc)).ev = some (.next (hdO f2 ((i + 1 : Nat) : Int) o n s (EX l) (l[i].names.foldl insS acc))) := by
            obtain ⟨hf1, _⟩ := hf
            obtain ⟨hf3, _⟩ := hf2ok
            have hin' : l_u98q (hdI f (i : Int) (ES l[i].names) 0 o n s (EX l) acc) = some (f2, hdI f2 (i : Int) (ES l[i].names) (l[i].names.length : Int) o n s (EX l) (l[i].names.foldl insS acc)) := hin
            have hw := wrap_succ hn (show l.length ≤ big by simp only [big]; omega)
            match f, hf1, f2, hf3 with
            | 0, _, 0, _ => simp (decide := true) only [hdO, hdI, st_u97q, Sum.elim_inl, st_u97q_0, List.length_map, lt_at hn, okX hn, qx0 hn, qx1 hn, qx2 hn, qx3 hn, hg, ev_br, ev_at, ev_bi_some, ev_bi_none, cond_true, pj_some, if_true, if_false, sl_inl, sr_inr, hw] at hin' ⊢; simp (decide := true) only [hin', pj_some, if_true, if_false, ev_bi_some, ev_bi_none, ev_at, sl_inl, sr_inr, hw]
            | 0, _, 1, _ => simp (decide := true) only [hdO, hdI, st_u97q, Sum.elim_inl, st_u97q_0, List.length_map, lt_at hn, okX hn, qx0 hn, qx1 hn, qx2 hn, qx3 hn, hg, ev_br, ev_at, ev_bi_some, ev_bi_none, cond_true, pj_some, if_true, if_false, sl_inl, sr_inr, hw] at hin' ⊢; simp (decide := true) only [hin', pj_some, if_true, if_false, ev_bi_some, ev_bi_none, ev_at, sl_inl, sr_inr, hw]
            | 0, _, 2, _ => simp (decide := true) only [hdO, hdI, st_u97q, Sum.elim_inl, st_u97q_0, List.length_map, lt_at hn, okX hn, qx0 hn, qx1 hn, qx2 hn, qx3 hn, hg, ev_br, ev_at, ev_bi_some, ev_bi_none, cond_true, pj_some, if_true, if_false, sl_inl, sr_inr, hw] at hin' ⊢; simp (decide := true) only [hin', pj_some, if_true, if_false, ev_bi_some, ev_bi_none, ev_at, sl_inl, sr_inr, hw]
            | 1, _, 0, _ => simp (decide := true) only [hdO, hdI, st_u97q, Sum.elim_inl, Sum.elim_inr, st_u97q_1, List.length_map, lt_at hn, okX hn, qx0 hn, qx1 hn, qx2 hn, qx3 hn, hg, ev_br, ev_at, ev_bi_some, ev_bi_none, cond_true, pj_some, if_true, if_false, sl_inl, sr_inr, hw] at hin' ⊢; simp (decide := true) only [hin', pj_some, if_true, if_false, ev_bi_some, ev_bi_none, ev_at, sl_inl, sr_inr, hw]
            | 1, _, 1, _ => simp (decide := true) only [hdO, hdI, st_u97q, Sum.elim_inl, Sum.elim_inr, st_u97q_1, List.length_map, lt_at hn, okX hn, qx0 hn, qx1 hn, qx2 hn, qx3 hn, hg, ev_br, ev_at, ev_bi_some, ev_bi_none, cond_true, pj_some, if_true, if_false, sl_inl, sr_inr, hw] at hin' ⊢; simp (decide := true) only [hin', pj_some, if_true, if_false, ev_bi_some, ev_bi_none, ev_at, sl_inl, sr_inr, hw]
            | 1, _, 2, _ => simp (decide := true) only [hdO, hdI, st_u97q, Sum.elim_inl, Sum.elim_inr, st_u97q_1, List.length_map, lt_at hn, okX hn, qx0 hn, qx1 hn, qx2 hn, qx3 hn, hg, ev_br, ev_at, ev_bi_some, ev_bi_none, cond_true, pj_some, if_true, if_false, sl_inl, sr_inr, hw] at hin' ⊢; simp (decide := true) only [hin', pj_some, if_true, if_false, ev_bi_some, ev_bi_none, ev_at, sl_inl, sr_inr, hw]
            | 2, _, 0, _ => simp (decide := true) only [hdO, hdI, st_u97q, Sum.elim_inr, st_u97q_2, List.length_map, lt_at hn, okX hn, qx0 hn, qx1 hn, qx2 hn, qx3 hn, hg, ev_br, ev_at, ev_bi_some, ev_bi_none, cond_true, pj_some, if_true, if_false, sl_inl, sr_inr, hw] at hin' ⊢; simp (decide := true) only [hin', pj_some, if_true, if_false, ev_bi_some, ev_bi_none, ev_at, sl_inl, sr_inr, hw]
            | 2, _, 1, _ => simp (decide := true) only [hdO, hdI, st_u97q, Sum.elim_inr, st_u97q_2, List.length_map, lt_at hn, okX hn, qx0 hn, qx1 hn, qx2 hn, qx3 hn, hg, ev_br, ev_at, ev_bi_some, ev_bi_none, cond_true, pj_some, if_true, if_false, sl_inl, sr_inr, hw] at hin' ⊢; simp (decide := true) only [hin', pj_some, if_true, if_false, ev_bi_some, ev_bi_none, ev_at, sl_inl, sr_inr, hw]
            | 2, _, 2, _ => simp (decide := true) only [hdO, hdI, st_u97q, Sum.elim_inr, st_u97q_2, List.length_map, lt_at hn, okX hn, qx0 hn, qx1 hn, qx2 hn, qx3 hn, hg, ev_br, ev_at, ev_bi_some, ev_bi_none, cond_true, pj_some, if_true, if_false, sl_inl, sr_inr, hw] at hin' ⊢; simp (decide := true) only [hin', pj_some, if_true, if_false, ev_bi_some, ev_bi_none, ev_at, sl_inl, sr_inr, hw]
          have ihn := ihr (i + 1) f2 (l[i].names.foldl insS acc) (by omega) hf2ok (by omega)
          rw [l_u97q_eq] at ihn ⊢
          rw [iterO_next hst, ihn]
          simp only [Ex.namesL]
      show N_u146q (k + 1) o n s (EX l) = some (ES (Ex.mk o n s l).names)
      simp only [N_u146q, namesT_eq, ev_br, Ex.names]
      by_cases ho : o = 4
      · have e : (o == 4) = true := by simpa using ho
        rw [e, cond_true, if_pos ho]
        exact key l.length 0 0 [s] (by omega) ⟨by omega, by omega⟩ (by simp; omega)
      · have e : (o == 4) = false := by simpa using ho
        rw [e, cond_false, if_neg ho]
        exact key l.length 0 1 [] (by omega) ⟨by omega, fun _ => rfl⟩ (by simp; omega)
theorem f_u146q_val {e : Ex} (h : e.nodes ≤ 1000000) : f_u146q e.op e.num e.txt (EX e.args) = some (ES e.names) := limO_of (R10_Names_key e h)
theorem l_u49q_val {l : List Bs} (hl : l.length ≤ big) : l_u49q (ES l, 0) = some (seek (fun s => !varS s) (fun _ => 0) 1 l, ES l, ((l.findIdx (fun s => !varS s) : Nat) : Int)) := by
  rw [l_u49q_eq]
  refine loop_search (hd := fun i => (ES l, (i : Int))) (jx := fun _ => 0) _ 1 (fun i hn => ?_) ?_
  · simp only [st_u49q, st_u49q_0, List.length_map, lt_at hn, okS1 hn, qs0 hn, f_u73q_val, ev_br, ev_at, ev_bi_some, cond_true, wrap_succ hn hl]
    cases varS l[i] <;> rfl
  · simp [st_u49q, st_u49q_0]
theorem f_u72q_val {e : Ex} (hw : Wd e) : f_u72q e.op e.num e.txt (EX e.args) = some (validS e) := by
  have hG := f_u145q_val hw (most := 64) (by omega)
  rw [f_u72q_eq, tr_u72q, show (64 : Int) = ((64 : Nat) : Int) from rfl, hG, validS]
  by_cases h64 : e.nodes > 64
  · simp [h64]
  · have hb : e.nodes ≤ big := by simp only [big]; omega
    have hs : e.nodes ≤ 1000000 := by omega
    have hnl := names_len e
    have hna : e.names.any (fun s => !varS s) = !e.allX namedB := by
      rw [← names_all, List.any_eq_not_all_not]; simp
    rw [f_u144q_val hb, f_u149q_val hb, f_u146q_val hs]
    have e2 : decide (gv (some (e.dep : Int)) > 8) = decide (e.dep > 8) := by
      show decide ((e.dep : Int) > 8) = _
      by_cases h : e.dep > 8 <;> simp [h] <;> omega
    have e3 : decide (e.nodes > 64) = false := by simpa using h64
    have hvl := l_u49q_val (show e.names.length ≤ big by simp only [big]; omega)
    rw [seek_const, hna] at hvl
    simp only [ev_bi_some, br_eq, sm_some, e2, e3, cond_false]
    cases decide (e.dep > 8) <;> cases e.allX formedB <;> cases hn : e.allX namedB <;> simp [hvl, hn]
end Go.Proofs.H12

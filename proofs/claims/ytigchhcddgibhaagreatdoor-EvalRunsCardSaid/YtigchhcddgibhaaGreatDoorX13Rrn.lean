/- The document's machine: what it comes to. -/
import Derived.Test.YtigchhcddgibhaaGreatDoorX13Rtr
import Derived.Test.YtigchhcddgibhaaGreatDoorX13Run
import Derived.Test.YtigchhcddgibhaaGreatDoorX13Cdc
set_option linter.unusedVariables false
set_option linter.unusedSimpArgs false
set_option linter.unnecessarySimpa false
namespace Go.Proofs.H13
open Go Go.Eng Go.Tk
set_option maxRecDepth 20000
inductive RelQ (c : Cd) (env : List Vl) : qa8 -> Nat -> List Vl -> Int -> Prop
 | a (f x4 x5 : Int) (p : Nat) : RelQ c env (.inl (EL env, f, (p : Int), c.ty, EV c.vars, EN c.ins, x4, x5)) p [] f
 | b (f x4 x5 : Int) (p : Nat) (st : List Vl) : RelQ c env (.inr (.inl (EL env, f, (p : Int), c.ty, EV c.vars, EN c.ins, x4, x5, EL st))) p st f
 | c (f x4 x5 : Int) (p n : Nat) (w : List Vl) : n <= w.length -> w.length <= 20 -> RelQ c env (.inr (.inr (EL env, f, n, (p : Int), c.ty, EV c.vars, EN c.ins, x4, x5, EL w))) p (w.take n) f
theorem q71 {o : Int} (h1 : 5 <= o) (h2 : o <= 18) : qaN o = (arS o : Int) := by
 unfold qaN arS
 by_cases c : o = 9 \/ o = 16
 ·rw [if_pos c]; repeat (split <;> try omega)
 ·rw [if_neg c]; repeat (split <;> try omega)
theorem wsk {n k : Nat} (h : k <= n) (hn : n <= 1000) : IntKind.i64.wrap ((n : Int) - (k : Int)) = ((n - k : Nat) : Int) := by rw [qfX]; omega
theorem qxb {w : List AV} {o n : Nat} : qgb [(2, Blk.arr 2 w false)] qdu (AV.own 2 o (some n)) = decide (o + n <= w.length) := rfl
theorem qoD {n : Nat} (h : n <= 1000) : room n 16 = true := qcA (by simp only [lim]; omega)
theorem qNp {c : Cd} {env : List Vl} {Z : Nat -> List Int} (hF : FlowC c Z) (he : qhE c.vars env = true) (hN : c.ins.length <= 1000) (h64 : ∀ x ∈ c.ins, qa6 x.n = true) (he64 : ∀ x ∈ env, qa6 x.n = true) :
  ∀ (k p : Nat) (st : List Vl) (f : Int) (v : qa8), c.ins.length < p + k -> p <= c.ins.length -> RelQ c env v p st f -> st.map (·.ty) = Z p -> (∀ x ∈ st, qa6 x.n = true) -> qa6 f = true -> (rqT (qh6 v)).ev = some (qSh (qgN env c.ins k p st f)) := by
 intro k
 induction k with
 | zero => intro p st f v h1 h2; omega
 | succ k ih =>
  intro p st f v hk hp hrel hty hst hf
  have hbig : c.ins.length <= big := by simp only [big]; omega
  rw [qdF] at hf
  rcases Nat.lt_or_ge p c.ins.length with hlt | hge
  ·have hget : c.ins[p]? = some c.ins[p] := List.getElem?_eq_getElem hlt
   have hmem : c.ins[p] ∈ c.ins := List.getElem_mem hlt
   have hws := qal hlt hbig
   by_cases hf0 : f <= 0
   ·have hr : qgN env c.ins (k + 1) p st f = (⟨0, 0⟩, 0, 8) := by simp only [qgN, hget]; rw [if_pos hf0]
    rw [hr, qch]
    cases hrel with
    | a f x4 x5 p =>
     rw [qag (j := 0)]
     ·simp (decide := true) only [rqT, pj_some, if_true, ev_bi_some, ev_at]
     ·simp only [qaD, Sum.elim_inl, qef, List.length_map, qar hlt, decide_eq_true hf0, ev_br, cond_true, ev_at]
    | b f x4 x5 p st =>
     rw [qag (j := 2)]
     ·simp (decide := true) only [rqT, pj_some, if_true, if_false, ev_bi_none, ev_bi_some, ev_at]
     ·simp only [qaD, Sum.elim_inl, Sum.elim_inr, qbe, List.length_map, qar hlt, decide_eq_true hf0, ev_br, cond_true, ev_at]
    | c f x4 x5 p n w q1 q2 =>
     rw [qag (j := 5)]
     ·simp (decide := true) only [rqT, pj_some, if_true, if_false, ev_bi_none, ev_bi_some, ev_at]
     ·simp only [qaD, Sum.elim_inr, qaU, List.length_map, qar hlt, decide_eq_true hf0, ev_br, cond_true, ev_at]
   ·have hwf : IntKind.i64.wrap (f - 1) = f - 1 := by rw [qfX]; omega
    have hf1 : qa6 (f - 1) = true := by rw [qdF]; omega
    have hfz : decide (f <= 0) = false := decide_eq_false hf0
    have step : ∀ (v' : qa8) (p' : Nat) (st' : List Vl), (qaD v).ev = some (.next v') -> c.ins.length < p' + k -> p' <= c.ins.length -> RelQ c env v' p' st' (f - 1) -> st'.map (·.ty) = Z p' -> (∀ x ∈ st', qa6 x.n = true) -> qgN env c.ins (k + 1) p st f = qgN env c.ins k p' st' (f - 1) -> (rqT (qh6 v)).ev = some (qSh (qgN env c.ins (k + 1) p st f)) := by
     intro v' p' st' g1 g2 g3 g4 g5 g6 g7
     rw [g7, <- ih p' st' (f - 1) v' g2 g3 g4 g5 g6 hf1, qch, qch, qaw g1]
    by_cases c1 : c.ins[p].op = 1
    ·obtain ⟨s1, s2⟩ := qw9 hF hlt c1 hty
     have hst' : ∀ x ∈ st ++ [(⟨c.ins[p].a, c.ins[p].n⟩ : Vl)], qa6 x.n = true := by
      intro x hx
      rcases List.mem_append.1 hx with hx | hx
      ·exact hst x hx
      ·rw [List.mem_singleton.1 hx]; exact h64 _ hmem
     have hr := qw5 (env := env) (k := k) (st := st) hget c1 (show 0 < f by omega)
     have k1 : (c.ins[p].op == 1) = true := by simpa using c1
     cases hrel with
     | a f x4 x5 p =>
      refine step _ (p + 1) _ ?_ (by omega) (by omega) (.b (f - 1) x4 x5 (p + 1) ([] ++ [⟨c.ins[p].a, c.ins[p].n⟩])) s1 hst' hr
      simp only [qaD, Sum.elim_inl, qef, List.length_map, qar hlt, hfz, ev_br, cond_true, cond_false, okN hlt, qn0 hlt, qn1 hlt, qn2 hlt, k1, ev_at, hwf, hws]
      rfl
     | b f x4 x5 p st =>
      refine step _ (p + 1) _ ?_ (by omega) (by omega) (.b (f - 1) x4 x5 (p + 1) (st ++ [⟨c.ins[p].a, c.ins[p].n⟩])) s1 hst' hr
      simp only [qaD, Sum.elim_inl, Sum.elim_inr, qbe, List.length_map, qar hlt, hfz, ev_br, cond_true, cond_false, okN hlt, qn0 hlt, qn1 hlt, qn2 hlt, k1, qga (show st.length <= 1000 by omega), ev_at, hwf, hws, List.map_append]
      rfl
     | c f x4 x5 p n w q1 q2 =>
      by_cases d : n < w.length
      ·obtain ⟨t1, t2⟩ := qfI ⟨c.ins[p].a, c.ins[p].n⟩ d
       have hrel' := RelQ.c (c := c) (env := env) (f - 1) x4 x5 (p + 1) (n + 1) (w.take n ++ [⟨c.ins[p].a, c.ins[p].n⟩] ++ w.drop (n + 1)) (by omega) (by omega)
       rw [t1] at hrel'
       have e : decide (n + 1 <= w.length) = true := decide_eq_true (by omega)
       refine step _ (p + 1) _ ?_ (by omega) (by omega) hrel' s1 hst' hr
       simp only [qaD, Sum.elim_inr, qaU, List.length_map, qar hlt, hfz, ev_br, cond_true, cond_false, okN hlt, qn0 hlt, qn1 hlt, qn2 hlt, k1, Nat.zero_add, e, decide_true, Bool.and_self, cond_true, <- List.map_take, <- List.map_drop, List.map_append, ev_at, hwf, hws]
       rfl
      ·have e : decide (n + 1 <= w.length) = false := decide_eq_false (by omega)
       have e2 : (decide (w.length < n + 1) && (decide (n <= w.length) && room (n + 1) 16)) = true := by rw [qga (by omega)]; simp; omega
       refine step _ (p + 1) _ ?_ (by omega) (by omega) (.b (f - 1) x4 x5 (p + 1) (w.take n ++ [⟨c.ins[p].a, c.ins[p].n⟩])) s1 hst' hr
       simp only [qaD, Sum.elim_inr, qaU, List.length_map, qar hlt, hfz, ev_br, cond_true, cond_false, okN hlt, qn0 hlt, qn1 hlt, qn2 hlt, k1, Nat.zero_add, e, decide_true, Bool.and_true, e2, <- List.map_take, List.map_append, ev_at, hwf, hws]
       rfl
    have k1 : (c.ins[p].op == 1) = false := by simpa using c1
    by_cases c2 : c.ins[p].op = 2
    ·obtain ⟨s0, hi, s1, s2⟩ := qw7 hF he hlt c2 hty
     have hai : c.ins[p].a = ((c.ins[p].a.toNat : Nat) : Int) := by omega
     generalize hg : c.ins[p].a.toNat = i at *
     have hst' : ∀ x ∈ st ++ [env[i]], qa6 x.n = true := by
      intro x hx
      rcases List.mem_append.1 hx with hx | hx
      ·exact hst x hx
      ·rw [List.mem_singleton.1 hx]; exact he64 _ (List.getElem_mem hi)
     have hr := Go.Tk.run_load (env := env) (k := k) (st := st) hget c2 (show 0 < f by omega)
     rw [hg, List.getElem?_eq_getElem hi, Option.getD_some] at hr
     have k2 : (c.ins[p].op == 2) = true := by simpa using c2
     cases hrel with
     | a f x4 x5 p =>
      refine step _ (p + 1) _ ?_ (by omega) (by omega) (.b (f - 1) x4 x5 (p + 1) ([] ++ [env[i]])) s1 hst' hr
      simp only [qaD, Sum.elim_inl, qef, List.length_map, qar hlt, hfz, ev_br, cond_true, cond_false, okN hlt, qn0 hlt, qn1 hlt, qn2 hlt, k1, k2, hai, okL hi, ql0 hi, ql1 hi, ev_at, hwf, hws]
      rfl
     | b f x4 x5 p st =>
      refine step _ (p + 1) _ ?_ (by omega) (by omega) (.b (f - 1) x4 x5 (p + 1) (st ++ [env[i]])) s1 hst' hr
      simp only [qaD, Sum.elim_inl, Sum.elim_inr, qbe, List.length_map, qar hlt, hfz, ev_br, cond_true, cond_false, okN hlt, qn0 hlt, qn1 hlt, qn2 hlt, k1, k2, hai, okL hi, ql0 hi, ql1 hi, qga (show st.length <= 1000 by omega), ev_at, hwf, hws, List.map_append]
      rfl
     | c f x4 x5 p n w q1 q2 =>
      by_cases d : n < w.length
      ·obtain ⟨t1, t2⟩ := qfI env[i] d
       have hrel' := RelQ.c (c := c) (env := env) (f - 1) x4 x5 (p + 1) (n + 1) (w.take n ++ [env[i]] ++ w.drop (n + 1)) (by omega) (by omega)
       rw [t1] at hrel'
       have e : decide (n + 1 <= w.length) = true := decide_eq_true (by omega)
       refine step _ (p + 1) _ ?_ (by omega) (by omega) hrel' s1 hst' hr
       simp only [qaD, Sum.elim_inr, qaU, List.length_map, qar hlt, hfz, ev_br, cond_true, cond_false, okN hlt, qn0 hlt, qn1 hlt, qn2 hlt, k1, k2, hai, okL hi, ql0 hi, ql1 hi, Nat.zero_add, e, decide_true, Bool.and_self, cond_true, <- List.map_take, <- List.map_drop, List.map_append, ev_at, hwf, hws]
       rfl
      ·have e : decide (n + 1 <= w.length) = false := decide_eq_false (by omega)
       have e2 : (decide (w.length < n + 1) && (decide (n <= w.length) && room (n + 1) 16)) = true := by rw [qga (by omega)]; simp; omega
       refine step _ (p + 1) _ ?_ (by omega) (by omega) (.b (f - 1) x4 x5 (p + 1) (w.take n ++ [env[i]])) s1 hst' hr
       simp only [qaD, Sum.elim_inr, qaU, List.length_map, qar hlt, hfz, ev_br, cond_true, cond_false, okN hlt, qn0 hlt, qn1 hlt, qn2 hlt, k1, k2, hai, okL hi, ql0 hi, ql1 hi, Nat.zero_add, e, decide_true, Bool.and_true, e2, <- List.map_take, List.map_append, ev_at, hwf, hws]
       rfl
    have k2 : (c.ins[p].op == 2) = false := by simpa using c2
    by_cases c3 : c.ins[p].op = 3
    ·obtain ⟨g5, g18, har, hl18, s1⟩ := qw8 hF hlt c3 hty
     have hr := qsW (env := env) (k := k) (st := st) hget c3 (show 0 < f by omega)
     have hapos : 1 <= arS c.ins[p].a := by unfold arS; split <;> omega
     have hap64 := qo3 (op := c.ins[p].a) (l := st.drop (st.length - arS c.ins[p].a)) (fun x hx => hst x (List.mem_of_mem_drop hx))
     have k3 : (c.ins[p].op == 3) = true := by simpa using c3
     have k4 : (c.ins[p].op == 4) = false := by rw [c3]; rfl
     have k5 : (c.ins[p].op == 5) = false := by rw [c3]; rfl
     have hop : qdm c.ins[p].a = some (arS c.ins[p].a : Int) := by rw [qn4, q71 g5 g18]
     have happ := qgq (op := c.ins[p].a) (l := st.drop (st.length - arS c.ins[p].a)) (by rw [List.length_drop]; omega) (fun x hx => qbX.2 (hst x (List.mem_of_mem_drop hx)))
     generalize hres : qbc c.ins[p].a (st.drop (st.length - arS c.ins[p].a)) = res at hr s1 hap64 happ
     have hst' : ∀ x ∈ st.take (st.length - arS c.ins[p].a) ++ [res.1], qa6 x.n = true := by
      intro x hx
      rcases List.mem_append.1 hx with hx | hx
      ·exact hst x (List.mem_of_mem_take hx)
      ·rw [List.mem_singleton.1 hx]; exact hap64
     cases hrel with
     | a f x4 x5 p => simp at har; omega
     | b f x4 x5 p st =>
      have hw := wsk har (show st.length <= 1000 by omega)
      have hj : st.length - arS c.ins[p].a <= st.length := by omega
      have hw0 := hw
      generalize hjj : st.length - arS c.ins[p].a = j at *
      have e1 : leB (j : Int) st.length = true := qaF (by omega)
      have e3 : decide (j <= st.length) = true := decide_eq_true hj
      by_cases d : res.2 = 0
      ·rw [if_pos d] at hr
       have d' : (res.2 != 0) = false := by simpa using d
       refine step _ (p + 1) _ ?_ (by omega) (by omega) (.b (f - 1) x4 x5 (p + 1) (st.take j ++ [res.1])) (s1 res.1 (by rw [<- d])) hst' hr
       simp only [qaD, Sum.elim_inl, Sum.elim_inr, qbe, List.length_map, qar hlt, hfz, ev_br, cond_true, cond_false, okN hlt, qn0 hlt, qn1 hlt, qn2 hlt, k1, k2, k3, k4, k5, hop, ev_bi_some, hw, e1, Bool.and_true, Int.toNat_natCast, Nat.zero_add, Nat.sub_zero, qbq, <- List.map_drop, happ, trp, d', e3, <- List.map_take, List.length_take, Nat.min_eq_left hj]
       by_cases hz : j = 0
       ·subst hz
        simp only [decide_true, Bool.and_self, cond_true, ev_at, hwf, hws, List.take_zero]
        rfl
       ·have z1 : decide (j = 0) = false := decide_eq_false hz
        have z2 : decide (j ≠ 0) = true := decide_eq_true hz
        simp only [z1, z2, Bool.false_and, Bool.true_and, cond_false, cond_true, qoD (show j <= 1000 by omega), qga (show j <= 1000 by omega), ev_br, ev_at, hwf, hws, List.map_append]
        rfl
      ·rw [if_neg d] at hr
       have d' : (res.2 != 0) = true := by simpa using d
       rw [hr, qch, qag (j := 3)]
       ·simp (decide := true) only [rqT, pj_some, if_true, if_false, ev_bi_none, ev_bi_some, ev_at, sr_inr, sl_inl, qn0 hlt, qn1 hlt, qn2 hlt, List.length_map, hop, gv_some, hw, Int.toNat_natCast, Nat.zero_add, qbq, <- List.map_drop, happ, trp]
       ·simp only [qaD, Sum.elim_inl, Sum.elim_inr, qbe, List.length_map, qar hlt, hfz, ev_br, cond_true, cond_false, okN hlt, qn0 hlt, qn1 hlt, qn2 hlt, k1, k2, k3, k4, k5, hop, ev_bi_some, hw, e1, Bool.and_true, Int.toNat_natCast, Nat.zero_add, Nat.sub_zero, qbq, <- List.map_drop, happ, trp, d', ev_at]
     | c f x4 x5 p n w q1 q2 =>
      have hlw : (w.take n).length = n := by rw [List.length_take, Nat.min_eq_left q1]
      rw [hlw] at har hr s1 hl18 happ hst'
      have hw := wsk har (show n <= 1000 by omega)
      have hj : n - arS c.ins[p].a <= n := by omega
      have hjlt : n - arS c.ins[p].a < n := by omega
      generalize hjj : n - arS c.ins[p].a = j at *
      have e0 : leB (j : Int) n = true := qaF (by omega)
      have e1 : leB (j : Int) w.length = true := qaF (by omega)
      have e3 : decide (j <= w.length) = true := decide_eq_true (by omega)
      have e5 : List.take (n - j) (List.drop j w) = List.drop j (List.take n w) := by rw [List.drop_take]
      have e8 : decide (n <= w.length) = true := decide_eq_true q1
      have e9 : decide (j + (n - j) <= w.length) = true := decide_eq_true (by omega)
      have hjw : j <= w.length := by omega
      rw [qfr hj] at hr s1 hst'
      by_cases d : res.2 = 0
      ·rw [if_pos d] at hr
       have d' : (res.2 != 0) = false := by simpa using d
       refine step _ (p + 1) _ ?_ (by omega) (by omega) (.b (f - 1) x4 x5 (p + 1) (w.take j ++ [res.1])) (s1 res.1 (by rw [<- d])) hst' hr
       simp only [qaD, Sum.elim_inr, qaU, List.length_map, qar hlt, hfz, ev_br, cond_true, cond_false, okN hlt, qn0 hlt, qn1 hlt, qn2 hlt, k1, k2, k3, k4, k5, hop, ev_bi_some, hw, e0, e1, Bool.and_true, Bool.true_and, Int.toNat_natCast, Nat.zero_add, Nat.sub_zero, qxb, qbq, <- List.map_drop, <- List.map_take, e5, e8, e9, happ, trp, d', e3, List.length_take, Nat.min_eq_left hjw]
       by_cases hz : j = 0
       ·subst hz
        simp only [decide_true, Bool.and_self, cond_true, ev_at, hwf, hws, List.take_zero]
        rfl
       ·have z1 : decide (j = 0) = false := decide_eq_false hz
        have z2 : decide (j ≠ 0) = true := decide_eq_true hz
        simp only [z1, z2, Bool.false_and, Bool.true_and, cond_false, cond_true, qoD (show j <= 1000 by omega), qga (show j <= 1000 by omega), ev_br, ev_at, hwf, hws, List.map_append]
        rfl
      ·rw [if_neg d] at hr
       have d' : (res.2 != 0) = true := by simpa using d
       rw [hr, qch, qag (j := 6)]
       ·simp (decide := true) only [rqT, pj_some, if_true, if_false, ev_bi_none, ev_bi_some, ev_at, sr_inr, sl_inl, qn0 hlt, qn1 hlt, qn2 hlt, List.length_map, hop, gv_some, hw, Int.toNat_natCast, Nat.zero_add, qbq, <- List.map_drop, <- List.map_take, e5, happ, trp]
       ·simp only [qaD, Sum.elim_inr, qaU, List.length_map, qar hlt, hfz, ev_br, cond_true, cond_false, okN hlt, qn0 hlt, qn1 hlt, qn2 hlt, k1, k2, k3, k4, k5, hop, ev_bi_some, hw, e0, e1, Bool.and_true, Bool.true_and, Int.toNat_natCast, Nat.zero_add, Nat.sub_zero, qxb, qbq, <- List.map_drop, <- List.map_take, e5, e8, e9, happ, trp, d', ev_at]
    by_cases c4 : c.ins[p].op = 4
    ·obtain ⟨g0, g1, g2, s1⟩ := qw6 hF hlt c4 hty
     have hai : c.ins[p].a = ((c.ins[p].a.toNat : Nat) : Int) := by omega
     have hr := qw4 (env := env) (k := k) (st := st) hget c4 (show 0 < f by omega)
     generalize hg : c.ins[p].a.toNat = i at *
     have k4 : (c.ins[p].op == 4) = true := by simpa using c4
     cases hrel with
     | a f x4 x5 p =>
      refine step _ i _ ?_ (by omega) (by omega) (.a (f - 1) x4 x5 i) s1 hst hr
      simp only [qaD, Sum.elim_inl, qef, List.length_map, qar hlt, hfz, ev_br, cond_true, cond_false, okN hlt, qn0 hlt, qn1 hlt, qn2 hlt, k1, k2, k4, hai, ev_at, hwf]
     | b f x4 x5 p st =>
      refine step _ i _ ?_ (by omega) (by omega) (.b (f - 1) x4 x5 i st) s1 hst hr
      simp only [qaD, Sum.elim_inl, Sum.elim_inr, qbe, List.length_map, qar hlt, hfz, ev_br, cond_true, cond_false, okN hlt, qn0 hlt, qn1 hlt, qn2 hlt, k1, k2, k4, hai, ev_at, hwf]
     | c f x4 x5 p n w q1 q2 =>
      refine step _ i _ ?_ (by omega) (by omega) (.c (f - 1) x4 x5 i n w q1 q2) s1 hst hr
      simp only [qaD, Sum.elim_inr, qaU, List.length_map, qar hlt, hfz, ev_br, cond_true, cond_false, okN hlt, qn0 hlt, qn1 hlt, qn2 hlt, k1, k2, k4, hai, ev_at, hwf]
    ·obtain ⟨c5, g0, g1, g2, hne, hl18, s1, s2⟩ := qsX hF hlt c1 c2 c3 c4 hty
     have hai : c.ins[p].a = ((c.ins[p].a.toNat : Nat) : Int) := by omega
     have hr : qgN env c.ins (k + 1) p st f = qgN env c.ins k (if ((st.getLast?).getD ⟨0, 0⟩).n = 0 then c.ins[p].a.toNat else p + 1) st.dropLast (f - 1) := by
      simp only [qgN, hget]
      rw [if_neg hf0, if_neg c1, if_neg c2, if_neg c3, if_neg c4]
     generalize hg : c.ins[p].a.toNat = i at *
     have hst' : ∀ x ∈ st.dropLast, qa6 x.n = true := fun x hx => hst x ((List.dropLast_sublist st).subset hx)
     have hlpos : 0 < st.length := List.length_pos_iff.2 hne
     have k4 : (c.ins[p].op == 4) = false := by simpa using c4
     have k5 : (c.ins[p].op == 5) = true := by simpa using c5
     cases hrel with
     | a f x4 x5 p => exact absurd rfl hne
     | b f x4 x5 p st =>
      have hw := ws1 hlpos (show st.length <= 1000 by omega)
      have hlt2 : st.length - 1 < st.length := by omega
      have e0 : inB st.length ((st.length - 1 : Nat) : Int) = true := qnh (by omega)
      have e1 : leB ((st.length - 1 : Nat) : Int) st.length = true := qaF (by omega)
      have e6 : decide (st.length - 1 <= st.length) = true := decide_eq_true (by omega)
      rw [qwo hlpos] at hr
      have mk := fun q => RelQ.c (c := c) (env := env) (f - 1) x4 x5 q (st.length - 1) st (by omega) (by omega)
      rw [<- List.dropLast_eq_take] at mk
      by_cases z : st[st.length - 1].n = 0
      ·rw [if_pos z] at hr
       have z' : (st[st.length - 1].n == 0) = true := by simpa using z
       refine step _ i _ ?_ (by omega) (by omega) (mk i) s1 hst' hr
       simp only [qaD, Sum.elim_inl, Sum.elim_inr, qbe, List.length_map, qar hlt, hfz, ev_br, cond_true, cond_false, okN hlt, qn0 hlt, qn1 hlt, qn2 hlt, k1, k2, k4, k5, hw, e0, e1, Bool.and_true, Bool.true_and, Int.toNat_natCast, Nat.zero_add, Nat.sub_zero, qY6 hlt2, qdP hlt2, z', e6, hai, ev_at, hwf]
      ·rw [if_neg z] at hr
       have z' : (st[st.length - 1].n == 0) = false := by simpa using z
       refine step _ (p + 1) _ ?_ (by omega) (by omega) (mk (p + 1)) s2 hst' hr
       simp only [qaD, Sum.elim_inl, Sum.elim_inr, qbe, List.length_map, qar hlt, hfz, ev_br, cond_true, cond_false, okN hlt, qn0 hlt, qn1 hlt, qn2 hlt, k1, k2, k4, k5, hw, e0, e1, Bool.and_true, Bool.true_and, Int.toNat_natCast, Nat.zero_add, Nat.sub_zero, qY6 hlt2, qdP hlt2, z', e6, ev_at, hwf, hws]
     | c f x4 x5 p n w q1 q2 =>
      have hlw : (w.take n).length = n := by rw [List.length_take, Nat.min_eq_left q1]
      rw [hlw] at hlpos
      have hw := ws1 hlpos (show n <= 1000 by omega)
      have hlt2 : n - 1 < w.length := by omega
      have e0 : inB n ((n - 1 : Nat) : Int) = true := qnh (by omega)
      have e1 : leB ((n - 1 : Nat) : Int) w.length = true := qaF (by omega)
      have e6 : decide (n - 1 <= w.length) = true := decide_eq_true (by omega)
      have e7 : decide (n - 1 < w.length) = true := decide_eq_true (by omega)
      rw [qsE hlpos q1] at hr
      have mk := fun q => RelQ.c (c := c) (env := env) (f - 1) x4 x5 q (n - 1) w (by omega) (by omega)
      rw [<- qhp q1] at mk
      by_cases z : w[n - 1].n = 0
      ·rw [if_pos z] at hr
       have z' : (w[n - 1].n == 0) = true := by simpa using z
       refine step _ i _ ?_ (by omega) (by omega) (mk i) s1 hst' hr
       simp only [qaD, Sum.elim_inr, qaU, List.length_map, qar hlt, hfz, ev_br, cond_true, cond_false, okN hlt, qn0 hlt, qn1 hlt, qn2 hlt, k1, k2, k4, k5, hw, e0, e1, Bool.and_true, Bool.true_and, Int.toNat_natCast, Nat.zero_add, Nat.sub_zero, qY6 hlt2, qdP hlt2, z', e6, e7, hai, ev_at, hwf]
      ·rw [if_neg z] at hr
       have z' : (w[n - 1].n == 0) = false := by simpa using z
       refine step _ (p + 1) _ ?_ (by omega) (by omega) (mk (p + 1)) s2 hst' hr
       simp only [qaD, Sum.elim_inr, qaU, List.length_map, qar hlt, hfz, ev_br, cond_true, cond_false, okN hlt, qn0 hlt, qn1 hlt, qn2 hlt, k1, k2, k4, k5, hw, e0, e1, Bool.and_true, Bool.true_and, Int.toNat_natCast, Nat.zero_add, Nat.sub_zero, qY6 hlt2, qdP hlt2, z', e6, e7, ev_at, hwf, hws]
  ·have hpe : p = c.ins.length := by omega
   have hr := run_end (env := env) (k := k) (st := st) (fuel := f) (ins := c.ins) (p := p) (List.getElem?_eq_none hge)
   have hz : st.map (·.ty) = [c.ty] := by rw [hty, hpe, hF.last]
   have hl1 : st.length = 1 := by have := congrArg List.length hz; simpa using this
   have hdn : decide ((p : Int) < (c.ins.length : Int)) = false := decide_eq_false (by omega)
   have hs0 : (st[0]?).getD ⟨0, 0⟩ = st[0]'(by omega) := by rw [List.getElem?_eq_getElem (by omega)]; rfl
   rw [hr, hs0, qch]
   cases hrel with
   | a f x4 x5 p => simp at hl1
   | b f x4 x5 p st =>
    rw [qag (j := 4)]
    ·have e0 : inB st.length 0 = true := by rw [hl1]; rfl
     simp (decide := true) only [rqT, pj_some, if_true, if_false, ev_bi_none, ev_bi_some, sr_inr, sl_inl, List.length_map, e0, ev_br, cond_true, qNa (show 0 < st.length by omega), qo7 (show 0 < st.length by omega), qdP (show 0 < st.length by omega), ev_at]
    ·simp only [qaD, Sum.elim_inl, Sum.elim_inr, qbe, List.length_map, hdn, ev_br, cond_false, ev_at]
   | c f x4 x5 p n w q1 q2 =>
    have hlw : (w.take n).length = n := by rw [List.length_take, Nat.min_eq_left q1]
    have hn1 : n = 1 := by omega
    subst hn1
    rw [qag (j := 7)]
    ·have e0 : inB 1 0 = true := rfl
     have e1 : decide (0 < w.length) = true := decide_eq_true (by omega)
     have e2 : (w.take 1)[0]'(by omega) = w[0]'(by omega) := List.getElem_take
     simp (decide := true) only [rqT, pj_some, if_true, if_false, ev_bi_none, ev_bi_some, sr_inr, sl_inl, List.length_map, e0, e1, ev_br, cond_true, Bool.true_and, qNa (show 0 < w.length by omega), qo7 (show 0 < w.length by omega), qdP (show 0 < w.length by omega), ev_at, e2]
    ·simp only [qaD, Sum.elim_inr, qaU, List.length_map, hdn, ev_br, cond_false, ev_at]
theorem q79 (x0 : Int) (x1 x2 x3 : List AV) (x4 : Int) : qke x0 x1 x2 x3 x4 = .bi (qn7 x0 x1 x2) (fun y0 => .br (y0 != 0) (.at ((0, 0, 0, 9))) (.bi (qe9 x1 x3) (fun y1 => .br (!y1) (.at ((0, 0, 0, 1))) (rqT (qh6 (Sum.inl (x3, x4, 0, x0, x1, x2, 0, 0))))) .no)) .no := rfl
theorem quI {c : Cd} {env : List Vl} {fuel : Int} (hv : c.vars.length <= 100000) (hl : env.length <= big) (h64 : ∀ x ∈ c.ins, qa6 x.n = true) (he64 : ∀ x ∈ env, qa6 x.n = true) (hf : qa6 fuel = true) :
  qlk c.ty (EV c.vars) (EN c.ins) (EL env) fuel = some (qSh (qna c env fuel)) := by
 rw [qyW, q79, qzj hv, qgr hl]
 simp only [ev_bi_some, ev_br, ev_at, qna]
 cases h1 : ((qtl c).2 != 0)
 ·cases h2 : qhE c.vars env
  ·rfl
  ·obtain ⟨a, b, Z, hF⟩ := qAB (c := c) (by simpa using h1)
   simp only [Bool.not_true, cond_false]
   exact qNp hF h2 (by omega) h64 he64 (c.ins.length + 1) 0 [] fuel _ (by omega) (by omega) (.a fuel 0 0 0) hF.zero.symm (by simp) hf
 ·rfl
end Go.Proofs.H13

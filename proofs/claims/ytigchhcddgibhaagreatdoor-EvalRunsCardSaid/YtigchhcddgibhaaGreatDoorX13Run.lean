/- Evaluation: running code. -/
import Derived.Test.YtigchhcddgibhaaGreatDoorX13Evb
import Derived.Test.YtigchhcddgibhaaGreatDoorX13Cdb
set_option linter.unusedVariables false
set_option linter.unusedSimpArgs false
set_option linter.unnecessarySimpa false
namespace Go.Proofs.H13
open Go Go.Eng Go.Tk
set_option maxRecDepth 20000
theorem qeT {a b : List Vl} : EL (a ++ b) = EL a ++ EL b := List.map_append
theorem qaF {j n : Nat} (h : j <= n) : leB (j : Int) n = true := by unfold leB; rw [decide_eq_true (by omega), decide_eq_true (by omega)]; rfl
theorem qnh {j n : Nat} (h : j < n) : inB n (j : Int) = true := by unfold inB; rw [decide_eq_true (by omega), decide_eq_true (by omega)]; rfl
theorem qbq {es : List AV} {n : Nat} : qf2 es n = es.drop n := by cases n <;> rfl
theorem ws1 {n : Nat} (h : 1 <= n) (hn : n <= 1000) : IntKind.i64.wrap ((n : Int) - 1) = ((n - 1 : Nat) : Int) := by rw [qfX]; omega
theorem ws2 {n : Nat} (h : 2 <= n) (hn : n <= 1000) : IntKind.i64.wrap ((n : Int) - 2) = ((n - 2 : Nat) : Int) := by rw [qfX]; omega
theorem q4t {o a n : Int} (h : o = 1) : qad o a n = some (.inl (a, n)) := by subst h; rw [qd3, qdI]; rfl
theorem q4u {o a n : Int} (h : o = 2) : qad o a n = some (.inr (.inl a)) := by subst h; rw [qd3, qdI]; rfl
theorem qY5 {o a n : Int} (h : o = 3) : qad o a n = some (.inr (.inr (.inl a))) := by subst h; rw [qd3, qdI]; rfl
theorem q6O {o a n : Int} (h : o = 4) : qad o a n = some (.inr (.inr (.inr (.inl a)))) := by subst h; rw [qd3, qdI]; rfl
theorem zaQ {o a n : Int} (h : o = 5) : qad o a n = some (.inr (.inr (.inr (.inr a)))) := by subst h; rw [qd3, qdI]; rfl
theorem qNf {a n p : Int} {E : List AV} : qdR a n E p = some (0, E, p, EL [⟨a, n⟩]) := by rw [qxF, qi3]; rfl
theorem qga {n : Nat} (h : n <= 1000) : room (n + 1) 16 = true := qcA (by simp only [lim]; omega)
theorem q2m {a n p : Int} {E : List AV} {st : List Vl} (h : st.length <= 20) : qf7 a n E p (EL st) = some (0, E, p, EL (st ++ [⟨a, n⟩])) := by
 rw [qEp, qqE, ev_br, List.length_map, qga (by omega), cond_true, ev_at, qeT]; rfl
theorem q2n {a n p : Int} {E : List AV} {w : List Vl} {m : Nat} (hm : m <= w.length) (h : w.length <= 20) : qcx a n E m p (EL w) = some (if m < w.length then .inl (0, E, m + 1, p, EL (w.take m ++ [⟨a, n⟩] ++ w.drop (m + 1))) else .inr (0, E, p, EL (w.take m ++ [⟨a, n⟩]))) := by
 rw [qEq, qqF, ev_br, ev_br, List.length_map, Nat.zero_add]
 by_cases c : m < w.length
 ·have e : (decide (m + 1 <= w.length) && decide (2 = 2)) = true := by simp; omega
  rw [if_pos c, e, cond_true, ev_at, <- List.map_take, <- List.map_drop, qeT, qeT]; rfl
 ·have e : (decide (m + 1 <= w.length) && decide (2 = 2)) = false := by simp; omega
  have e2 : (decide (w.length < m + 1) && (decide (m <= w.length) && room (m + 1) 16)) = true := by rw [qga (by omega)]; simp; omega
  rw [if_neg c, e, cond_false, e2, cond_true, ev_at, <- List.map_take, qeT]; rfl
theorem qMX {p : Int} {env : List Vl} {i : Nat} (hi : i < env.length) : qdQ (i : Int) (EL env) p = some (0, EL env, p, EL [env[i]]) := by
 rw [qxD, qi1, ev_br, okL hi, cond_true, ev_at, ql0 hi, ql1 hi]; rfl
theorem q1H {p : Int} {env : List Vl} {i : Nat} (hi : i < env.length) {st : List Vl} (h : st.length <= 20) : qf6 (i : Int) (EL env) p (EL st) = some (0, EL env, p, EL (st ++ [env[i]])) := by
 rw [qEl, qqA, ev_br, okL hi, cond_true, ev_br, List.length_map, qga (by omega), cond_true, ev_at, ql0 hi, ql1 hi, qeT]; rfl
theorem q1I {p : Int} {env : List Vl} {i : Nat} (hi : i < env.length) {w : List Vl} {m : Nat} (hm : m <= w.length) (h : w.length <= 20) : qcv (i : Int) (EL env) m p (EL w) = some (if m < w.length then .inl (0, EL env, m + 1, p, EL (w.take m ++ [env[i]] ++ w.drop (m + 1))) else .inr (0, EL env, p, EL (w.take m ++ [env[i]]))) := by
 rw [qEm, qqB, ev_br, okL hi, cond_true, ev_br, ev_br, List.length_map, Nat.zero_add, ql0 hi, ql1 hi]
 by_cases c : m < w.length
 ·have e : (decide (m + 1 <= w.length) && decide (2 = 2)) = true := by simp; omega
  rw [if_pos c, e, cond_true, ev_at, <- List.map_take, <- List.map_drop, qeT, qeT]; rfl
 ·have e : (decide (m + 1 <= w.length) && decide (2 = 2)) = false := by simp; omega
  have e2 : (decide (w.length < m + 1) && (decide (m <= w.length) && room (m + 1) 16)) = true := by rw [qga (by omega)]; simp; omega
  rw [if_neg c, e, cond_false, e2, cond_true, ev_at, <- List.map_take, qeT]; rfl
theorem q2c (x0 : Int) (x1 : List AV) (x2 : Int) (x3 : List AV) : qqC x0 x1 x2 x3 = .bi (br (x0 == 9) (some true) (some (x0 == 16))) (fun y0 => .br y0 (qY8 x0 x1 x2 x3 (IntKind.i64.wrap ((x3.length : Int) - 1))) (qY8 x0 x1 x2 x3 (IntKind.i64.wrap ((x3.length : Int) - 2)))) .no := rfl
theorem qFZ (o : Int) : br (o == 9) (some true) (some (o == 16)) = some (decide (o = 9 \/ o = 16)) := by
 by_cases h : o = 9
 ·subst h; rfl
 ·have e : (o == 9) = false := by simpa using h
  rw [e]
  show some (o == 16) = _
  congr 1
  by_cases h2 : o = 16
  ·subst h2; rfl
  ·rw [show (o == 16) = false by simpa using h2, decide_eq_false (by omega)]
theorem qwY {o p : Int} {E : List AV} {st : List Vl} {j : Nat} (hj : j < st.length) (h2 : st.length <= 20) (h64 : ∀ x ∈ st, qa6 x.n = true) : (qY8 o E p (EL st) (j : Int)).ev = some (if (qbc o (st.drop j)).2 = 0 then .inr (.inl (0, E, j + 1, p, EL (st.take j ++ [(qbc o (st.drop j)).1] ++ st.drop (j + 1)))) else .inl ((qbc o (st.drop j)).2, E, p, EL st)) := by
 have e1 : leB (j : Int) st.length = true := qaF (by omega)
 have e4 := qbl (op := o) (l := st.drop j) (by rw [List.length_drop]; omega) (fun x hx => qbX.2 (h64 x (List.mem_of_mem_drop hx)))
 rw [qY8]
 simp only [List.length_map, Int.toNat_natCast, Nat.zero_add, Nat.sub_zero, qbq, <- List.map_drop, <- List.map_take, e1, e4, ev_br, ev_bi_some, Bool.true_and, cond_true, trp]
 generalize hr : qbc o (st.drop j) = r at *
 cases hq : (r.2 != 0)
 ·have q : r.2 = 0 := by simpa using hq
  have e6 : decide (j <= st.length) = true := decide_eq_true (by omega)
  have e7 : decide (j + 1 <= st.length) = true := decide_eq_true (by omega)
  rw [if_pos q, e6, qeT, qeT]
  simp only [e7, decide_true, Bool.and_self, cond_false, cond_true, ev_at]
  rfl
 ·rw [if_neg (by simpa using hq)]; rfl
theorem q2f {o p : Int} {E : List AV} {st : List Vl} (hj : arS o <= st.length) (h2 : st.length <= 20) (h64 : ∀ x ∈ st, qa6 x.n = true) : qbm o E p (EL st) = some (if (qbc o (st.drop (st.length - arS o))).2 = 0 then .inr (.inl (0, E, st.length - arS o + 1, p, EL (st.take (st.length - arS o) ++ [(qbc o (st.drop (st.length - arS o))).1] ++ st.drop (st.length - arS o + 1)))) else .inl ((qbc o (st.drop (st.length - arS o))).2, E, p, EL st)) := by
 rw [qEn, q2c, qFZ, ev_bi_some, ev_br, List.length_map]
 by_cases c : o = 9 \/ o = 16
 ·have ha := qDx c
  rw [ha] at hj ⊢
  rw [decide_eq_true c, cond_true, ws1 hj (by omega), qwY (by omega) h2 h64]
 ·have ha : arS o = 2 := qDy (fun e => c (.inl e)) (fun e => c (.inr e))
  rw [ha] at hj ⊢
  rw [decide_eq_false c, cond_false, ws2 hj (by omega), qwY (by omega) h2 h64]
theorem qNs {w : List AV} {o n : Nat} : qgb [(1, Blk.arr 2 w false)] qdu (AV.own 1 o (some n)) = decide (o + n <= w.length) := rfl
theorem q2d (x0 : Int) (x1 : List AV) (x2 : Nat) (x3 : Int) (x4 : List AV) : qqD x0 x1 x2 x3 x4 = .bi (br (x0 == 9) (some true) (some (x0 == 16))) (fun y0 => .br y0 (qY9 x0 x1 x2 x3 x4 (IntKind.i64.wrap ((x2 : Int) - 1))) (qY9 x0 x1 x2 x3 x4 (IntKind.i64.wrap ((x2 : Int) - 2)))) .no := rfl
theorem qwZ {o p : Int} {E : List AV} {w : List Vl} {n j : Nat} (hj : j < n) (hn : n <= w.length) (h2 : w.length <= 20) (h64 : ∀ x ∈ w.take n, qa6 x.n = true) : (qY9 o E n p (EL w) (j : Int)).ev = some (if (qbc o ((w.take n).drop j)).2 = 0 then .inl (0, E, j + 1, p, EL (w.take j ++ [(qbc o ((w.take n).drop j)).1] ++ w.drop (j + 1))) else .inl ((qbc o ((w.take n).drop j)).2, E, n, p, EL w)) := by
 have e0 : leB (j : Int) n = true := qaF (by omega)
 have e1 : leB (j : Int) w.length = true := qaF (by omega)
 have e4 := qbl (op := o) (l := (w.take n).drop j) (by rw [List.length_drop, List.length_take]; omega) (fun x hx => qbX.2 (h64 x (List.mem_of_mem_drop hx)))
 have e5 : List.take (n - j) (List.drop j w) = List.drop j (List.take n w) := by rw [List.drop_take]
 have e8 : decide (n <= w.length) = true := decide_eq_true hn
 have e9 : decide (j + (n - j) <= w.length) = true := decide_eq_true (by omega)
 rw [qY9]
 simp only [List.length_map, Int.toNat_natCast, Nat.zero_add, Nat.sub_zero, qbq, <- List.map_drop, <- List.map_take, e0, e1, e5, e4, e8, qNs, e9, ev_br, ev_bi_some, Bool.true_and, cond_true, trp]
 generalize hr : qbc o (List.drop j (List.take n w)) = r at *
 cases hq : (r.2 != 0)
 ·have q : r.2 = 0 := by simpa using hq
  have e6 : decide (j <= w.length) = true := decide_eq_true (by omega)
  have e7 : decide (j + 1 <= w.length) = true := decide_eq_true (by omega)
  rw [if_pos q, e6, qeT, qeT]
  simp only [e7, decide_true, Bool.and_self, cond_false, cond_true, ev_at]
  rfl
 ·rw [if_neg (by simpa using hq)]; rfl
theorem q2g {o p : Int} {E : List AV} {w : List Vl} {n : Nat} (hj : arS o <= n) (hn : n <= w.length) (h2 : w.length <= 20) (h64 : ∀ x ∈ w.take n, qa6 x.n = true) : qcw o E n p (EL w) = some (if (qbc o ((w.take n).drop (n - arS o))).2 = 0 then .inl (0, E, n - arS o + 1, p, EL (w.take (n - arS o) ++ [(qbc o ((w.take n).drop (n - arS o))).1] ++ w.drop (n - arS o + 1))) else .inl ((qbc o ((w.take n).drop (n - arS o))).2, E, n, p, EL w)) := by
 rw [qEo, q2d, qFZ, ev_bi_some, ev_br]
 by_cases c : o = 9 \/ o = 16
 ·have ha := qDx c
  rw [ha] at hj ⊢
  rw [decide_eq_true c, cond_true, ws1 hj (by omega), qwZ (by omega) hn h2 h64]
 ·have ha : arS o = 2 := qDy (fun e => c (.inl e)) (fun e => c (.inr e))
  rw [ha] at hj ⊢
  rw [decide_eq_false c, cond_false, ws2 hj (by omega), qwZ (by omega) hn h2 h64]
theorem qMQ {a p : Int} {E : List AV} : qeD a E p = some (0, E, a) := by rw [qxC, qiZ]; rfl
theorem q1z {a p : Int} {E st : List AV} : qf5 a E p st = some (0, E, a, st) := by rw [qEj, qqy]; rfl
theorem q1A {a p : Int} {E st : List AV} {n : Nat} : qfe a E n p st = some (0, E, n, a, st) := by rw [qEk, qqz]; rfl
theorem qY6 {w : List Vl} {i : Nat} (h : i < w.length) : okP [CS.int IntKind.i64] (EL w) i 1 = true := by
 unfold okP; rw [List.getElem?_map, List.getElem?_eq_getElem h]; rfl
theorem qNa {w : List Vl} {i : Nat} (h : i < w.length) : okP [CS.int IntKind.i64, CS.int IntKind.i64] (EL w) i 0 = true := by
 unfold okP; rw [List.getElem?_map, List.getElem?_eq_getElem h]; rfl
theorem qdP {w : List Vl} {i : Nat} (h : i < w.length) : intOf (qaz (EL w) i 1) = w[i].n := by
 unfold qaz; rw [List.getElem?_map, List.getElem?_eq_getElem h]; rfl
theorem qo7 {w : List Vl} {i : Nat} (h : i < w.length) : intOf (qaz (EL w) i 0) = w[i].ty := by
 unfold qaz; rw [List.getElem?_map, List.getElem?_eq_getElem h]; rfl
theorem q2I {a p : Int} {E : List AV} {st : List Vl} (h1 : 0 < st.length) (h2 : st.length <= 20) : qff a E p (EL st) = some (0, E, st.length - 1, if (st[st.length - 1]'(by omega)).n = 0 then a else p, EL st) := by
 have e0 : inB st.length ((st.length - 1 : Nat) : Int) = true := qnh (by omega)
 have e1 : leB ((st.length - 1 : Nat) : Int) st.length = true := qaF (by omega)
 have hlt : st.length - 1 < st.length := by omega
 have e6 : decide (st.length - 1 <= st.length) = true := decide_eq_true (by omega)
 rw [qEs, qqH, List.length_map, ws1 h1 (by omega)]
 simp only [Int.toNat_natCast, Nat.zero_add, Nat.sub_zero, e0, e1, qY6 hlt, qdP hlt, ev_br, cond_true, Bool.true_and, e6, ev_at]
 by_cases c : st[st.length - 1].n = 0
 ·rw [if_pos c, show (st[st.length - 1].n == 0) = true by simpa using c]; rfl
 ·rw [if_neg c, show (st[st.length - 1].n == 0) = false by simpa using c]; rfl
theorem q2J {a p : Int} {E : List AV} {w : List Vl} {n : Nat} (h1 : 0 < n) (hn : n <= w.length) (h2 : w.length <= 20) : qfg a E n p (EL w) = some (0, E, n - 1, if (w[n - 1]'(by omega)).n = 0 then a else p, EL w) := by
 have e0 : inB n ((n - 1 : Nat) : Int) = true := qnh (by omega)
 have e1 : leB ((n - 1 : Nat) : Int) w.length = true := qaF (by omega)
 have hlt : n - 1 < w.length := by omega
 have e6 : decide (n - 1 <= w.length) = true := decide_eq_true (by omega)
 have e7 : decide (n - 1 < w.length) = true := decide_eq_true (by omega)
 rw [qEt, qqI, List.length_map, ws1 h1 (by omega)]
 simp only [Int.toNat_natCast, Nat.zero_add, Nat.sub_zero, e0, e1, qY6 hlt, qdP hlt, ev_br, cond_true, Bool.true_and, e6, e7, ev_at]
 by_cases c : w[n - 1].n = 0
 ·rw [if_pos c, show (w[n - 1].n == 0) = true by simpa using c]; rfl
 ·rw [if_neg c, show (w[n - 1].n == 0) = false by simpa using c]; rfl
abbrev qSh (r : Vl × Int × Int) : Int × Int × Int × Int := (r.1.ty, r.1.n, r.2.1, r.2.2)
inductive RelR (c : Cd) (env : List Vl) : qa7 -> Nat -> List Vl -> Int -> Prop
 | a (f x4 x5 : Int) (p : Nat) : RelR c env (.inl (f, c.ty, EV c.vars, EN c.ins, x4, x5, EL env, (p : Int))) p [] f
 | b (f x4 x5 : Int) (p : Nat) (st : List Vl) : RelR c env (.inr (.inl (f, c.ty, EV c.vars, EN c.ins, x4, x5, EL env, (p : Int), EL st))) p st f
 | c (f x4 x5 : Int) (p n : Nat) (w : List Vl) : n <= w.length -> w.length <= 20 -> RelR c env (.inr (.inr (f, c.ty, EV c.vars, EN c.ins, x4, x5, EL env, n, (p : Int), EL w))) p (w.take n) f
theorem qsE {w : List Vl} {n : Nat} (h1 : 0 < n) (hn : n <= w.length) : ((w.take n).getLast?).getD ⟨0, 0⟩ = w[n - 1]'(by omega) := by
 rw [List.getLast?_eq_getElem?, List.length_take, Nat.min_eq_left hn, List.getElem?_take, if_pos (by omega), List.getElem?_eq_getElem (by omega)]
 rfl
theorem qwo {w : List Vl} (h1 : 0 < w.length) : (w.getLast?).getD ⟨0, 0⟩ = w[w.length - 1]'(by omega) := by
 rw [List.getLast?_eq_getElem?, List.getElem?_eq_getElem (by omega)]
 rfl
theorem qhp {w : List Vl} {n : Nat} (hn : n <= w.length) : (w.take n).dropLast = w.take (n - 1) := by
 rw [List.dropLast_eq_take, List.length_take, Nat.min_eq_left hn, List.take_take, Nat.min_eq_left (by omega)]
theorem qfI {w : List Vl} {j : Nat} (x : Vl) (hj : j < w.length) : (w.take j ++ [x] ++ w.drop (j + 1)).take (j + 1) = w.take j ++ [x] /\ (w.take j ++ [x] ++ w.drop (j + 1)).length = w.length := by
 constructor
 ·have hl : (w.take j ++ [x]).length = j + 1 := by simp; omega
  rw [List.take_append_of_le_length (by omega), List.take_of_length_le (by omega)]
 ·simp; omega
theorem qfr {w : List Vl} {n j : Nat} (h : j <= n) : (w.take n).take j = w.take j := by rw [List.take_take, Nat.min_eq_left h]
theorem qWp {c : Cd} {env : List Vl} {Z : Nat -> List Int} (hF : FlowC c Z) (he : qhE c.vars env = true) (hN : c.ins.length <= 1000) (h64 : ∀ x ∈ c.ins, qa6 x.n = true) (he64 : ∀ x ∈ env, qa6 x.n = true) :
  ∀ (k p : Nat) (st : List Vl) (f : Int) (v : qa7), c.ins.length < p + k -> p <= c.ins.length -> RelR c env v p st f -> st.map (·.ty) = Z p -> (∀ x ∈ st, qa6 x.n = true) -> qa6 f = true -> (rnT (qh5 v)).ev = some (qSh (qgN env c.ins k p st f)) := by
 intro k
 induction k with
 | zero => intro p st f v h1 h2; omega
 | succ k ih =>
  intro p st f v hk hp hrel hty hst hf
  have hbig : c.ins.length <= big := by simp only [big]; omega
  rw [qdF] at hf
  rcases Nat.lt_or_ge p c.ins.length with hlt | hge
  ·have hget : c.ins[p]? = some c.ins[p] := List.getElem?_eq_getElem hlt
   have hmem : c.ins[p] ∈ c.ins := List.getElem_mem hlt
   have hws := qal hlt hbig
   by_cases hf0 : f <= 0
   ·have hr : qgN env c.ins (k + 1) p st f = (⟨0, 0⟩, 0, 8) := by simp only [qgN, hget]; rw [if_pos hf0]
    rw [hr, qcf]
    cases hrel with
    | a f x4 x5 p =>
     rw [qag (j := 0)]
     ·simp (decide := true) only [rnT, pj_some, if_true, ev_bi_some, ev_at]
     ·simp only [qaG, Sum.elim_inl, qee, List.length_map, qar hlt, decide_eq_true hf0, ev_br, cond_true, ev_at]
    | b f x4 x5 p st =>
     rw [qag (j := 5)]
     ·simp (decide := true) only [rnT, pj_some, if_true, if_false, ev_bi_none, ev_bi_some, ev_at]
     ·simp only [qaG, Sum.elim_inl, Sum.elim_inr, qbr, List.length_map, qar hlt, decide_eq_true hf0, ev_br, cond_true, ev_at]
    | c f x4 x5 p n w q1 q2 =>
     rw [qag (j := 14)]
     ·simp (decide := true) only [rnT, pj_some, if_true, if_false, ev_bi_none, ev_bi_some, ev_at]
     ·simp only [qaG, Sum.elim_inr, qa3, List.length_map, qar hlt, decide_eq_true hf0, ev_br, cond_true, ev_at]
   ·have hwf : IntKind.i64.wrap (f - 1) = f - 1 := by rw [qfX]; omega
    have hf1 : qa6 (f - 1) = true := by rw [qdF]; omega
    have hfz : decide (f <= 0) = false := decide_eq_false hf0
    have step : ∀ (v' : qa7) (p' : Nat) (st' : List Vl), (qaG v).ev = some (.next v') -> c.ins.length < p' + k -> p' <= c.ins.length -> RelR c env v' p' st' (f - 1) -> st'.map (·.ty) = Z p' -> (∀ x ∈ st', qa6 x.n = true) -> qgN env c.ins (k + 1) p st f = qgN env c.ins k p' st' (f - 1) -> (rnT (qh5 v)).ev = some (qSh (qgN env c.ins (k + 1) p st f)) := by
     intro v' p' st' g1 g2 g3 g4 g5 g6 g7
     rw [g7, <- ih p' st' (f - 1) v' g2 g3 g4 g5 g6 hf1, qcf, qcf, qaw g1]
    by_cases c1 : c.ins[p].op = 1
    ·obtain ⟨s1, s2⟩ := qw9 hF hlt c1 hty
     have hst' : ∀ x ∈ st ++ [(⟨c.ins[p].a, c.ins[p].n⟩ : Vl)], qa6 x.n = true := by
      intro x hx
      rcases List.mem_append.1 hx with hx | hx
      ·exact hst x hx
      ·rw [List.mem_singleton.1 hx]; exact h64 _ hmem
     have hr := qw5 (env := env) (k := k) (st := st) hget c1 (show 0 < f by omega)
     cases hrel with
     | a f x4 x5 p =>
      refine step _ (p + 1) _ ?_ (by omega) (by omega) (.b (f - 1) x4 x5 (p + 1) ([] ++ [⟨c.ins[p].a, c.ins[p].n⟩])) s1 hst' hr
      simp (decide := true) only [qaG, Sum.elim_inl, qee, List.length_map, qar hlt, hfz, ev_br, cond_true, cond_false, okN hlt, qn0 hlt, qn1 hlt, qn2 hlt, q4t c1, pl_inl, ev_bi_some, qNf, ev_at, hwf, hws]
      rfl
     | b f x4 x5 p st =>
      refine step _ (p + 1) _ ?_ (by omega) (by omega) (.b (f - 1) x4 x5 (p + 1) (st ++ [⟨c.ins[p].a, c.ins[p].n⟩])) s1 hst' hr
      simp (decide := true) only [qaG, Sum.elim_inl, Sum.elim_inr, qbr, List.length_map, qar hlt, hfz, ev_br, cond_true, cond_false, okN hlt, qn0 hlt, qn1 hlt, qn2 hlt, q4t c1, pl_inl, ev_bi_some, q2m (show st.length <= 20 by omega), ev_at, hwf, hws]
      rfl
     | c f x4 x5 p n w q1 q2 =>
      have hb := q2n (a := c.ins[p].a) (n := c.ins[p].n) (p := ((p + 1 : Nat) : Int)) (E := EL env) q1 q2
      by_cases d : n < w.length
      ·rw [if_pos d] at hb
       obtain ⟨t1, t2⟩ := qfI ⟨c.ins[p].a, c.ins[p].n⟩ d
       have hrel' := RelR.c (c := c) (env := env) (f - 1) x4 x5 (p + 1) (n + 1) (w.take n ++ [⟨c.ins[p].a, c.ins[p].n⟩] ++ w.drop (n + 1)) (by omega) (by omega)
       rw [t1] at hrel'
       refine step _ (p + 1) _ ?_ (by omega) (by omega) hrel' s1 hst' hr
       simp (decide := true) only [qaG, Sum.elim_inr, qa3, List.length_map, qar hlt, hfz, ev_br, cond_true, cond_false, okN hlt, qn0 hlt, qn1 hlt, qn2 hlt, q4t c1, pl_inl, ev_bi_some, hb, ev_at, hwf, hws]
       rfl
      ·rw [if_neg d] at hb
       refine step _ (p + 1) _ ?_ (by omega) (by omega) (.b (f - 1) x4 x5 (p + 1) (w.take n ++ [⟨c.ins[p].a, c.ins[p].n⟩])) s1 hst' hr
       simp (decide := true) only [qaG, Sum.elim_inr, qa3, List.length_map, qar hlt, hfz, ev_br, cond_true, cond_false, okN hlt, qn0 hlt, qn1 hlt, qn2 hlt, q4t c1, pl_inl, pl_inr, pr_inr, ev_bi_some, ev_bi_none, hb, ev_at, hwf, hws]
       rfl
    by_cases c2 : c.ins[p].op = 2
    ·obtain ⟨s0, hi, s1, s2⟩ := qw7 hF he hlt c2 hty
     have hai : c.ins[p].a = ((c.ins[p].a.toNat : Nat) : Int) := by omega
     generalize hg : c.ins[p].a.toNat = i at *
     have hst' : ∀ x ∈ st ++ [env[i]], qa6 x.n = true := by
      intro x hx
      rcases List.mem_append.1 hx with hx | hx
      ·exact hst x hx
      ·rw [List.mem_singleton.1 hx]; exact he64 _ (List.getElem_mem hi)
     have hr := Go.Tk.run_load (env := env) (k := k) (st := st) hget c2 (show 0 < f by omega)
     rw [hg, List.getElem?_eq_getElem hi, Option.getD_some] at hr
     cases hrel with
     | a f x4 x5 p =>
      refine step _ (p + 1) _ ?_ (by omega) (by omega) (.b (f - 1) x4 x5 (p + 1) ([] ++ [env[i]])) s1 hst' hr
      simp (decide := true) only [qaG, Sum.elim_inl, qee, List.length_map, qar hlt, hfz, ev_br, cond_true, cond_false, okN hlt, qn0 hlt, qn1 hlt, qn2 hlt, q4u c2, pl_inl, pl_inr, pr_inr, ev_bi_some, ev_bi_none, hai, qMX hi, ev_at, hwf, hws]
      rfl
     | b f x4 x5 p st =>
      refine step _ (p + 1) _ ?_ (by omega) (by omega) (.b (f - 1) x4 x5 (p + 1) (st ++ [env[i]])) s1 hst' hr
      simp (decide := true) only [qaG, Sum.elim_inl, Sum.elim_inr, qbr, List.length_map, qar hlt, hfz, ev_br, cond_true, cond_false, okN hlt, qn0 hlt, qn1 hlt, qn2 hlt, q4u c2, pl_inl, pl_inr, pr_inr, ev_bi_some, ev_bi_none, hai, q1H hi (show st.length <= 20 by omega), ev_at, hwf, hws]
      rfl
     | c f x4 x5 p n w q1 q2 =>
      have hb := q1I (p := ((p + 1 : Nat) : Int)) hi q1 q2
      by_cases d : n < w.length
      ·rw [if_pos d] at hb
       obtain ⟨t1, t2⟩ := qfI env[i] d
       have hrel' := RelR.c (c := c) (env := env) (f - 1) x4 x5 (p + 1) (n + 1) (w.take n ++ [env[i]] ++ w.drop (n + 1)) (by omega) (by omega)
       rw [t1] at hrel'
       refine step _ (p + 1) _ ?_ (by omega) (by omega) hrel' s1 hst' hr
       simp (decide := true) only [qaG, Sum.elim_inr, qa3, List.length_map, qar hlt, hfz, ev_br, cond_true, cond_false, okN hlt, qn0 hlt, qn1 hlt, qn2 hlt, q4u c2, pl_inl, pl_inr, pr_inr, ev_bi_some, ev_bi_none, hai, hb, ev_at, hwf, hws]
       rfl
      ·rw [if_neg d] at hb
       refine step _ (p + 1) _ ?_ (by omega) (by omega) (.b (f - 1) x4 x5 (p + 1) (w.take n ++ [env[i]])) s1 hst' hr
       simp (decide := true) only [qaG, Sum.elim_inr, qa3, List.length_map, qar hlt, hfz, ev_br, cond_true, cond_false, okN hlt, qn0 hlt, qn1 hlt, qn2 hlt, q4u c2, pl_inl, pl_inr, pr_inr, ev_bi_some, ev_bi_none, hai, hb, ev_at, hwf, hws]
       rfl
    by_cases c3 : c.ins[p].op = 3
    ·obtain ⟨g5, g18, har, hl18, s1⟩ := qw8 hF hlt c3 hty
     have hr := qsW (env := env) (k := k) (st := st) hget c3 (show 0 < f by omega)
     have hapos : 1 <= arS c.ins[p].a := by unfold arS; split <;> omega
     have hap64 := qo3 (op := c.ins[p].a) (l := st.drop (st.length - arS c.ins[p].a)) (fun x hx => hst x (List.mem_of_mem_drop hx))
     generalize hres : qbc c.ins[p].a (st.drop (st.length - arS c.ins[p].a)) = res at hr s1 hap64
     cases hrel with
     | a f x4 x5 p => simp at har; omega
     | b f x4 x5 p st =>
      have hb := q2f (o := c.ins[p].a) (p := ((p + 1 : Nat) : Int)) (E := EL env) har (by omega) hst
      rw [hres] at hb
      by_cases d : res.2 = 0
      ·rw [if_pos d] at hb hr
       obtain ⟨t1, t2⟩ := qfI res.1 (show st.length - arS c.ins[p].a < st.length by omega)
       have hrel' := RelR.c (c := c) (env := env) (f - 1) x4 x5 (p + 1) (st.length - arS c.ins[p].a + 1) (st.take (st.length - arS c.ins[p].a) ++ [res.1] ++ st.drop (st.length - arS c.ins[p].a + 1)) (by omega) (by omega)
       rw [t1] at hrel'
       refine step _ (p + 1) _ ?_ (by omega) (by omega) hrel' (s1 res.1 (by rw [<- d])) ?_ hr
       ·simp (decide := true) only [qaG, Sum.elim_inl, Sum.elim_inr, qbr, List.length_map, qar hlt, hfz, ev_br, cond_true, cond_false, okN hlt, qn0 hlt, qn1 hlt, qn2 hlt, qY5 c3, pl_inl, pl_inr, pr_inr, ev_bi_some, ev_bi_none, hb, ev_at, hwf, hws]
        rfl
       ·intro x hx
        rcases List.mem_append.1 hx with hx | hx
        ·exact hst x (List.mem_of_mem_take hx)
        ·rw [List.mem_singleton.1 hx]; exact hap64
      ·rw [if_neg d] at hb hr
       have d' : (res.2 != 0) = true := by simpa using d
       rw [hr, qcf, qag (j := 8)]
       ·simp (decide := true) only [rnT, pj_some, if_true, if_false, ev_bi_none, ev_bi_some, ev_at, sr_inr, sl_inl, qn0 hlt, qn1 hlt, qn2 hlt, qY5 c3, pl_inl, pr_inr, gv_some, hws, hb]
       ·simp (decide := true) only [qaG, Sum.elim_inl, Sum.elim_inr, qbr, List.length_map, qar hlt, hfz, ev_br, cond_true, cond_false, okN hlt, qn0 hlt, qn1 hlt, qn2 hlt, qY5 c3, pl_inl, pl_inr, pr_inr, ev_bi_some, ev_bi_none, hb, ev_at, hwf, hws, d']
     | c f x4 x5 p n w q1 q2 =>
      have hlw : (w.take n).length = n := by rw [List.length_take, Nat.min_eq_left q1]
      rw [hlw] at har hr hres s1 hl18
      have hb := q2g (o := c.ins[p].a) (p := ((p + 1 : Nat) : Int)) (E := EL env) har q1 q2 hst
      rw [hres] at hb
      by_cases d : res.2 = 0
      ·rw [if_pos d] at hb hr
       obtain ⟨t1, t2⟩ := qfI res.1 (show n - arS c.ins[p].a < w.length by omega)
       have hrel' := RelR.c (c := c) (env := env) (f - 1) x4 x5 (p + 1) (n - arS c.ins[p].a + 1) (w.take (n - arS c.ins[p].a) ++ [res.1] ++ w.drop (n - arS c.ins[p].a + 1)) (by omega) (by omega)
       rw [t1] at hrel'
       rw [qfr (by omega)] at hr s1
       refine step _ (p + 1) _ ?_ (by omega) (by omega) hrel' (s1 res.1 (by rw [<- d])) ?_ hr
       ·simp (decide := true) only [qaG, Sum.elim_inr, qa3, List.length_map, qar hlt, hfz, ev_br, cond_true, cond_false, okN hlt, qn0 hlt, qn1 hlt, qn2 hlt, qY5 c3, pl_inl, pl_inr, pr_inr, ev_bi_some, ev_bi_none, hb, ev_at, hwf, hws]
        rfl
       ·intro x hx
        rcases List.mem_append.1 hx with hx | hx
        ·refine hst x ?_
         rw [<- qfr (n := n) (show n - arS c.ins[p].a <= n by omega)] at hx
         exact List.mem_of_mem_take hx
        ·rw [List.mem_singleton.1 hx]; exact hap64
      ·rw [if_neg d] at hb hr
       have d' : (res.2 != 0) = true := by simpa using d
       rw [hr, qcf, qag (j := 19)]
       ·simp (decide := true) only [rnT, pj_some, if_true, if_false, ev_bi_none, ev_bi_some, ev_at, sr_inr, sl_inl, qn0 hlt, qn1 hlt, qn2 hlt, qY5 c3, pl_inl, pr_inr, gv_some, hws, hb]
       ·simp (decide := true) only [qaG, Sum.elim_inr, qa3, List.length_map, qar hlt, hfz, ev_br, cond_true, cond_false, okN hlt, qn0 hlt, qn1 hlt, qn2 hlt, qY5 c3, pl_inl, pl_inr, pr_inr, ev_bi_some, ev_bi_none, hb, ev_at, hwf, hws, d']
    by_cases c4 : c.ins[p].op = 4
    ·obtain ⟨g0, g1, g2, s1⟩ := qw6 hF hlt c4 hty
     have hai : c.ins[p].a = ((c.ins[p].a.toNat : Nat) : Int) := by omega
     have hr := qw4 (env := env) (k := k) (st := st) hget c4 (show 0 < f by omega)
     generalize hg : c.ins[p].a.toNat = i at *
     cases hrel with
     | a f x4 x5 p =>
      refine step _ i _ ?_ (by omega) (by omega) (.a (f - 1) x4 x5 i) s1 hst hr
      simp (decide := true) only [qaG, Sum.elim_inl, qee, List.length_map, qar hlt, hfz, ev_br, cond_true, cond_false, okN hlt, qn0 hlt, qn1 hlt, qn2 hlt, q6O c4, pl_inl, pl_inr, pr_inr, ev_bi_some, ev_bi_none, hai, qMQ, ev_at, hwf, hws]
      rfl
     | b f x4 x5 p st =>
      refine step _ i _ ?_ (by omega) (by omega) (.b (f - 1) x4 x5 i st) s1 hst hr
      simp (decide := true) only [qaG, Sum.elim_inl, Sum.elim_inr, qbr, List.length_map, qar hlt, hfz, ev_br, cond_true, cond_false, okN hlt, qn0 hlt, qn1 hlt, qn2 hlt, q6O c4, pl_inl, pl_inr, pr_inr, ev_bi_some, ev_bi_none, hai, q1z, ev_at, hwf, hws]
      rfl
     | c f x4 x5 p n w q1 q2 =>
      refine step _ i _ ?_ (by omega) (by omega) (.c (f - 1) x4 x5 i n w q1 q2) s1 hst hr
      simp (decide := true) only [qaG, Sum.elim_inr, qa3, List.length_map, qar hlt, hfz, ev_br, cond_true, cond_false, okN hlt, qn0 hlt, qn1 hlt, qn2 hlt, q6O c4, pl_inl, pl_inr, pr_inr, ev_bi_some, ev_bi_none, hai, q1A, ev_at, hwf, hws]
      rfl
    ·obtain ⟨c5, g0, g1, g2, hne, hl18, s1, s2⟩ := qsX hF hlt c1 c2 c3 c4 hty
     have hai : c.ins[p].a = ((c.ins[p].a.toNat : Nat) : Int) := by omega
     have hr : qgN env c.ins (k + 1) p st f = qgN env c.ins k (if ((st.getLast?).getD ⟨0, 0⟩).n = 0 then c.ins[p].a.toNat else p + 1) st.dropLast (f - 1) := by
      simp only [qgN, hget]
      rw [if_neg hf0, if_neg c1, if_neg c2, if_neg c3, if_neg c4]
     generalize hg : c.ins[p].a.toNat = i at *
     have hst' : ∀ x ∈ st.dropLast, qa6 x.n = true := fun x hx => hst x ((List.dropLast_sublist st).subset hx)
     have hlpos : 0 < st.length := List.length_pos_iff.2 hne
     generalize hp' : (if ((st.getLast?).getD ⟨0, 0⟩).n = 0 then i else p + 1) = p' at hr
     have hp1 : p < p' /\ p' <= c.ins.length /\ st.dropLast.map (·.ty) = Z p' := by
      rw [<- hp']
      split
      ·exact ⟨by omega, by omega, s1⟩
      ·exact ⟨by omega, by omega, s2⟩
     cases hrel with
     | a f x4 x5 p => exact absurd rfl hne
     | b f x4 x5 p st =>
      have hb := q2I (a := (i : Int)) (p := ((p + 1 : Nat) : Int)) (E := EL env) hlpos (by omega)
      have hpp : (if st[st.length - 1].n = 0 then (i : Int) else ((p + 1 : Nat) : Int)) = (p' : Int) := by
       rw [<- hp', qwo hlpos]
       split <;> rfl
      rw [hpp] at hb
      have hrel' := RelR.c (c := c) (env := env) (f - 1) x4 x5 p' (st.length - 1) st (by omega) (by omega)
      rw [<- List.dropLast_eq_take] at hrel'
      refine step _ p' _ ?_ (by omega) (by omega) hrel' hp1.2.2 hst' hr
      simp (decide := true) only [qaG, Sum.elim_inl, Sum.elim_inr, qbr, List.length_map, qar hlt, hfz, ev_br, cond_true, cond_false, okN hlt, qn0 hlt, qn1 hlt, qn2 hlt, zaQ c5, pl_inl, pl_inr, pr_inr, ev_bi_some, ev_bi_none, hai, hb, ev_at, hwf, hws]
      rfl
     | c f x4 x5 p n w q1 q2 =>
      have hlw : (w.take n).length = n := by rw [List.length_take, Nat.min_eq_left q1]
      rw [hlw] at hlpos
      have hb := q2J (a := (i : Int)) (p := ((p + 1 : Nat) : Int)) (E := EL env) hlpos q1 q2
      have hpp : (if w[n - 1].n = 0 then (i : Int) else ((p + 1 : Nat) : Int)) = (p' : Int) := by
       rw [<- hp', qsE hlpos q1]
       split <;> rfl
      rw [hpp] at hb
      have hrel' := RelR.c (c := c) (env := env) (f - 1) x4 x5 p' (n - 1) w (by omega) (by omega)
      rw [<- qhp q1] at hrel'
      refine step _ p' _ ?_ (by omega) (by omega) hrel' hp1.2.2 hst' hr
      simp (decide := true) only [qaG, Sum.elim_inr, qa3, List.length_map, qar hlt, hfz, ev_br, cond_true, cond_false, okN hlt, qn0 hlt, qn1 hlt, qn2 hlt, zaQ c5, pl_inl, pl_inr, pr_inr, ev_bi_some, ev_bi_none, hai, hb, ev_at, hwf, hws]
      rfl
  ·have hpe : p = c.ins.length := by omega
   have hr := run_end (env := env) (k := k) (st := st) (fuel := f) (ins := c.ins) (p := p) (List.getElem?_eq_none hge)
   have hz : st.map (·.ty) = [c.ty] := by rw [hty, hpe, hF.last]
   have hl1 : st.length = 1 := by have := congrArg List.length hz; simpa using this
   have hdn : decide ((p : Int) < (c.ins.length : Int)) = false := decide_eq_false (by omega)
   have hs0 : (st[0]?).getD ⟨0, 0⟩ = st[0]'(by omega) := by rw [List.getElem?_eq_getElem (by omega)]; rfl
   rw [hr, hs0, qcf]
   cases hrel with
   | a f x4 x5 p => simp at hl1
   | b f x4 x5 p st =>
    rw [qag (j := 13)]
    ·have e0 : inB st.length 0 = true := by rw [hl1]; rfl
     simp (decide := true) only [rnT, pj_some, if_true, if_false, ev_bi_none, ev_bi_some, sr_inr, sl_inl, List.length_map, e0, ev_br, cond_true, qNa (show 0 < st.length by omega), qo7 (show 0 < st.length by omega), qdP (show 0 < st.length by omega), ev_at]
    ·simp only [qaG, Sum.elim_inl, Sum.elim_inr, qbr, List.length_map, hdn, ev_br, cond_false, ev_at]
   | c f x4 x5 p n w q1 q2 =>
    have hlw : (w.take n).length = n := by rw [List.length_take, Nat.min_eq_left q1]
    have hn1 : n = 1 := by omega
    subst hn1
    rw [qag (j := 23)]
    ·have e0 : inB 1 0 = true := rfl
     have e1 : decide (0 < w.length) = true := decide_eq_true (by omega)
     have e2 : (w.take 1)[0]'(by omega) = w[0]'(by omega) := List.getElem_take
     simp (decide := true) only [rnT, pj_some, if_true, if_false, ev_bi_none, ev_bi_some, sr_inr, sl_inl, List.length_map, e0, e1, ev_br, cond_true, Bool.true_and, qNa (show 0 < w.length by omega), qo7 (show 0 < w.length by omega), qdP (show 0 < w.length by omega), ev_at, e2]
    ·simp only [qaG, Sum.elim_inr, qa3, List.length_map, hdn, ev_br, cond_false, ev_at]
theorem q76 (x0 : Int) (x1 x2 x3 : List AV) (x4 : Int) : qjZ x0 x1 x2 x3 x4 = .bi (qnW x0 x1 x2) (fun y0 => .br (y0 != 0) (.at ((0, 0, 0, 9))) (.bi (qbG x1 x3) (fun y1 => .br (!y1) (.at ((0, 0, 0, 1))) (rnT (qh5 (Sum.inl (x4, x0, x1, x2, 0, 0, x3, 0))))) .no)) .no := rfl
theorem qdk {c : Cd} {env : List Vl} {fuel : Int} (hv : c.vars.length <= 100000) (hl : env.length <= big) (h64 : ∀ x ∈ c.ins, qa6 x.n = true) (he64 : ∀ x ∈ env, qa6 x.n = true) (hf : qa6 fuel = true) :
  qdj c.ty (EV c.vars) (EN c.ins) (EL env) fuel = some (qSh (qna c env fuel)) := by
 rw [qyH, q76, qy9 hv, qb9 hl]
 simp only [ev_bi_some, ev_br, ev_at, qna]
 cases h1 : ((qtl c).2 != 0)
 ·cases h2 : qhE c.vars env
  ·rfl
  ·obtain ⟨a, b, Z, hF⟩ := qAB (c := c) (by simpa using h1)
   simp only [Bool.not_true, cond_false]
   exact qWp hF h2 (by omega) h64 he64 (c.ins.length + 1) 0 [] fuel _ (by omega) (by omega) (.a fuel 0 0 0) hF.zero.symm (by simp) hf
 ·rfl
end Go.Proofs.H13

/- Evaluation: an operator applied; trees. -/
import Derived.Test.YtigchhcddgibhaaGreatDoorX13Eva
import Derived.Test.YtigchhcddgibhaaGreatDoorX13Typ
import Derived.Test.YtigchhcddgibhaaGreatDoorEvD
set_option linter.unusedVariables false
set_option linter.unusedSimpArgs false
set_option linter.unnecessarySimpa false
namespace Go.Proofs.H13
open Go Go.Eng Go.Tk
set_option maxRecDepth 20000
abbrev trp (p : Vl × Int) : Int × Int × Int := (p.1.ty, p.1.n, p.2)
def q4d (t : Int) (p : Int × Int) : Int × Int × Int := bif p.2 == 0 && !qbb ⟨t, p.1⟩ then (0, 0, 6) else bif p.2 != 0 then (0, 0, p.2) else (t, p.1, 0)
theorem qbX {w : Int} : i64 w ↔ qa6 w = true := by
 unfold i64 qa6
 rw [Bool.and_eq_true, decide_eq_true_eq, decide_eq_true_eq]
 constructor <;> intro h <;> exact ⟨by omega, by omega⟩
theorem qfz {t w : Int} : q4d t (nIf w) = trp (qrc t w) := by
 unfold q4d nIf qrc
 by_cases h : i64 w
 ·rw [if_pos h, qbX.1 h]
  cases hv : qbb ⟨t, w⟩ <;> simp [hv]
 ·have : qa6 w = false := by rw [<- Bool.not_eq_true]; exact fun e => h (qbX.2 e)
  rw [if_neg h, this]
  rfl
theorem qFU {a b t : Int} (h : qa0 7 [a, b] = (t, true)) (h1 : a ≠ b) (h2 : a ≠ 1) (h3 : b ≠ 1) : (a = 2 /\ b = 3) \/ (a = 3 /\ b = 2) := by
 obtain ⟨g1, g2, g3⟩ := qd8 h
 rcases qaL g1 with rfl | rfl | rfl | rfl | rfl <;> rcases qaL g2 with rfl | rfl | rfl | rfl | rfl <;> first | omega | cases g3
theorem qrp {a b t : Int} (h : qa0 8 [a, b] = (t, true)) : (a = b /\ t = 1) \/ ((a = 2 \/ a = 3) /\ b = 1 /\ t = a) := by
 obtain ⟨g1, g2, g3⟩ := qd8 h
 rcases qaL g1 with rfl | rfl | rfl | rfl | rfl <;> rcases qaL g2 with rfl | rfl | rfl | rfl | rfl <;> first | (cases g3; decide) | cases g3
theorem qiA {v : Vl} (h : qbb v = true) (ht : v.ty = 2) : -1000000000000 <= v.n /\ v.n <= 1000000000000 := by
 unfold qbb at h
 rw [if_neg (by omega), if_pos ht] at h
 simpa using h
theorem qq5 {v : Vl} (h : qbb v = true) (ht : v.ty = 3) : -1000000000 <= v.n /\ v.n <= 1000000000 := by
 unfold qbb at h
 rw [if_neg (by omega), if_neg (by omega), if_pos ht] at h
 simpa using h
theorem qsk {a b t : Int} {x y : Vl} (h : qa0 7 [x.ty, y.ty] = (t, true)) (h1 : x.ty ≠ y.ty /\ x.ty ≠ 1 /\ y.ty ≠ 1) (hx : qbb x = true) (hy : qbb y = true) (ha : a = x.n) (hb : b = y.n) : (((a * b).natAbs : Nat) : Int) <= 1000000000000000000000 := by
 rcases qFU h h1.1 h1.2.1 h1.2.2 with ⟨e1, e2⟩ | ⟨e1, e2⟩
 ·have q1 := qiA hx e1
  have q2 := qq5 hy e2
  have : (a * b).natAbs <= 1000000000000 * 1000000000 := by rw [Int.natAbs_mul]; exact Nat.mul_le_mul (by omega) (by omega)
  omega
 ·have q1 := qq5 hx e1
  have q2 := qiA hy e2
  have : (a * b).natAbs <= 1000000000 * 1000000000000 := by rw [Int.natAbs_mul]; exact Nat.mul_le_mul (by omega) (by omega)
  omega
theorem qDJ {t : Int} {x y : Vl} (h : qa0 8 [x.ty, y.ty] = (t, true)) (h1 : x.ty ≠ y.ty) (hx : qbb x = true) : -1000000000000 <= x.n /\ x.n <= 1000000000000 := by
 rcases qrp h with ⟨e, _⟩ | ⟨e | e, _⟩
 ·exact absurd e h1
 ·exact qiA hx e
 ·have := qq5 hx e; omega
theorem qMC {op t : Int} {a b : Vl} (h5 : 5 <= op) (h8 : op <= 8) (hr : qa0 op [a.ty, b.ty] = (t, true)) : q4d t (qxq op a b) = trp (qmY op t a b) := by
 have h : op = 5 \/ op = 6 \/ op = 7 \/ op = 8 := by omega
 rcases h with rfl | rfl | rfl | rfl
 ·exact qfz
 ·exact qfz
 ·have e1 : qxq 7 a b = nIf (if a.ty ≠ b.ty /\ a.ty ≠ 1 /\ b.ty ≠ 1 then qnn (a.n * b.n) 1000000 else a.n * b.n) := rfl
  have e2 : qmY 7 t a b = qM4 t a b := rfl
  rw [e1, e2, qfz, qM4]
  split <;> rfl
 ·have e1 : qxq 8 a b = if b.n = 0 then (0, 7) else if a.ty = b.ty then nIf (a.n.tdiv b.n) else if b.n = -9223372036854775808 then (0, 0) else if b.n < 0 then nIf (qnn (-a.n) (-b.n)) else nIf (qnn a.n b.n) := rfl
  have e2 : qmY 8 t a b = qTN t a b := rfl
  rw [e1, e2, qTN]
  split
  ·rfl
  ·split
   ·exact qfz
   ·split
    ·have hv := qNC (qd8 hr |> fun q => qMz (show qOn 8 a.ty b.ty = some t by rcases qeg q.2.2 with ⟨_, _, k⟩ | ⟨k, _⟩ | ⟨k, _⟩ | ⟨k, _⟩ <;> first | exact k | omega))
     show (bif (0 : Int) == 0 && !qbb ⟨t, 0⟩ then _ else _) = _
     rw [hv]; rfl
    ·split <;> exact qfz
theorem qbl {op : Int} {l : List Vl} (hl : l.length <= 1000) (h64 : ∀ x ∈ l, i64 x.n) : qaH op (EL l) = some (trp (qbc op l)) := by
 have hres : ∀ k : List Int, k.length <= big -> qb4 op (EI k) = some (qa0 op k) := fun k hk => qhZ hk op
 by_cases hne : l = []
 ·subst hne
  exact qtX hres
 cases h1 : (qa0 op (l.map (·.ty))).2
 ·rw [qeC hl hne hres (fun h => by rw [h1] at h; cases h) (fun h => by rw [h1] at h; cases h)]
  unfold qnB qbc
  rw [h1]; rfl
 cases h2 : l.all qbb
 ·rw [qeC hl hne hres (fun _ h => by rw [h2] at h; cases h) (fun _ h => by rw [h2] at h; cases h)]
  unfold qnB qbc
  rw [h1, h2]; rfl
 have hall := List.all_eq_true.1 h2
 have hr : qa0 op (l.map (·.ty)) = ((qa0 op (l.map (·.ty))).1, true) := by rw [<- h1]
 have key : ∀ n : Int, (decide (op < 5) || decide (op > 9)) = true -> qde op (EL l) = some n -> (qbc op l) = (⟨(qa0 op (l.map (·.ty))).1, n⟩, 0) -> qaH op (EL l) = some (trp (qbc op l)) := by
  intro n h3 hn ha
  rw [qeC hl hne hres (fun _ _ _ => ⟨_, hn⟩) (fun _ _ h => by rw [h3] at h; cases h), ha]
  unfold qnB
  rw [h1, h2, h3, hn]; rfl
 have key2 : ∀ p : Int × Int, (decide (op < 5) || decide (op > 9)) = false -> qdD op (EL l) = some p -> trp (qbc op l) = q4d (qa0 op (l.map (·.ty))).1 p -> qaH op (EL l) = some (trp (qbc op l)) := by
  intro p h3 hn ha
  rw [qeC hl hne hres (fun _ _ h => by rw [h3] at h; cases h) (fun _ _ _ => ⟨_, hn⟩), ha]
  unfold qnB
  rw [h1, h2, h3, hn]; rfl
 have hap : qbc op l = opV op (qa0 op (l.map (·.ty))).1 l := by
  unfold qbc; rw [h1, h2]; rfl
 generalize ht : (qa0 op (l.map (·.ty))).1 = t at hr key key2 hap
 match l, hr, hall, hap, key, key2, h64 with
 | [], _, _, _, _, _, _ => exact absurd rfl hne
 | [a], hr, hall, hap, key, key2, h64 =>
  rcases qoz (qnm hr).2 with ⟨rfl, ha, rfl⟩ | ⟨rfl, _⟩
  ·exact key _ rfl (qrr ((qbA ha).1 (hall a (by simp)))) (by rw [hap]; rfl)
  ·exact key2 _ rfl (qkC (h64 a (by simp))) (by rw [hap, qfz]; rfl)
 | [a, b], hr, hall, hap, key, key2, h64 =>
  obtain ⟨g1, g2, g3⟩ := qd8 hr
  have ha := hall a (by simp)
  have hb := hall b (by simp)
  have hcho : 10 <= op -> op <= 18 -> op ≠ 16 -> (op = 14 -> a.ty = 5 /\ b.ty = 5) -> qmY op t a b = (⟨t, qxs op a b⟩, 0) -> qaH op (EL [a, b]) = some (trp (qbc op [a, b])) := by
   intro q1 q2 q3 q4 q5
   refine key _ ?_ (qrs q1 q2 q3 fun e => ⟨(qbA (q4 e).1).1 ha, (qbA (q4 e).2).1 hb⟩) (by rw [hap]; exact q5)
   rw [decide_eq_true (show op > 9 by omega), Bool.or_true]
  rcases qeg g3 with ⟨q1, q2, q3⟩ | ⟨q1, q2, q3⟩ | ⟨q1, q2, q3, q4⟩ | ⟨q1, q2, q3, q4⟩
  ·refine key2 _ ?_ (qkD q1 q2 (h64 a (by simp)) (h64 b (by simp)) ?_ ?_) ?_
   ·rw [decide_eq_false (by omega), decide_eq_false (by omega)]; rfl
   ·rintro rfl h
    have := qsk hr h ha hb rfl rfl
    omega
   ·rintro rfl h
    have := qDJ hr h ha
    omega
   ·rw [hap, qMC q1 q2 hr]; rfl
  ·have : op = 10 \/ op = 11 \/ op = 12 \/ op = 13 := by omega
   refine hcho (by omega) (by omega) (by omega) (by omega) ?_
   rcases this with rfl | rfl | rfl | rfl <;> rfl
  ·refine hcho (by omega) (by omega) (by omega) (fun _ => ⟨q2, q3⟩) ?_
   rcases q1 with rfl | rfl <;> rfl
  ·refine hcho (by omega) (by omega) (by omega) (by omega) ?_
   rcases q1 with rfl | rfl <;> rfl
 | [a, b, c], hr, hall, hap, key, key2, h64 =>
  obtain ⟨g1, rfl, _, g2, g3⟩ := qd7 hr
  exact key _ rfl qtZ (by rw [hap]; rfl)
 | a :: b :: c :: d :: l, hr, _, _, _, _, _ =>
  exfalso
  have : (qa0 op ((a :: b :: c :: d :: l).map (·.ty))).2 = false := by
   unfold qa0
   cases (List.map (fun x => x.ty) (a :: b :: c :: d :: l)).all qaJ <;> rfl
  rw [h1] at this; cases this
theorem qb9 {vs : List Va} {env : List Vl} (hl : env.length <= big) : qbG (EV vs) (EL env) = some (qhE vs env) := by
 rw [qx8, qjq, List.length_map, List.length_map]
 by_cases hlen : vs.length = env.length
 ·have e0 : ((vs.length : Int) != (env.length : Int)) = false := by simp [hlen]
  generalize hq : (fun n : Nat => match vs[n]?, env[n]? with | some v, some x => x.ty == v.ty && qbb x | _, _ => false) = q
  have hE : qhE vs env = (List.range env.length).all q := by
   unfold qhE; rw [<- hq, show (vs.length == env.length) = true by simpa using hlen, Bool.true_and]; rfl
  have L : qls (EV vs, EL env, (env.length : Int), 0) = some (qf0 (fun n => !q n) (fun _ => 0) 1 (List.range env.length), EV vs, EL env, (env.length : Int), (((List.range env.length).findIdx (fun n => !q n) : Nat) : Int)) := by
   rw [qoc]
   refine qb1 env.length (hd := fun i => (EV vs, EL env, (env.length : Int), (i : Int))) _ _ 1 (fun i hn => ?_) ?_
   ·have hn' : i < vs.length := by omega
    have hqi : q i = (env[i].ty == vs[i].ty && qbb env[i]) := by
     rw [<- hq]; simp only [List.getElem?_eq_getElem hn, List.getElem?_eq_getElem hn']
    have e1 : (env[i].ty != vs[i].ty) = !(env[i].ty == vs[i].ty) := rfl
    have e2 : qbb ⟨env[i].ty, env[i].n⟩ = qbb env[i] := rfl
    simp only [qg4, qic, qar hn, okL hn, okV hn', ql0 hn, ql1 hn, qv1 hn', qgo, ev_br, ev_at, ev_bi_some, cond_true, qal hn hl, hqi, e1, e2]
    cases (env[i].ty == vs[i].ty) <;> cases qbb env[i] <;> rfl
   ·simp [qg4, qic]
  rw [ev_br, e0, cond_false, L, hE, qaE]
  have : ((List.range env.length).any fun n => !q n) = !(List.range env.length).all q := by
   rw [List.all_eq_not_any_not, Bool.not_not]
  rw [this]
  cases (List.range env.length).all q <;> rfl
 ·have e0 : ((vs.length : Int) != (env.length : Int)) = true := by simp only [bne_iff_ne, ne_eq]; omega
  rw [ev_br, e0, cond_true, ev_at]
  unfold qhE
  rw [show (vs.length == env.length) = false by simpa using hlen]
  rfl
end Go.Proofs.H13

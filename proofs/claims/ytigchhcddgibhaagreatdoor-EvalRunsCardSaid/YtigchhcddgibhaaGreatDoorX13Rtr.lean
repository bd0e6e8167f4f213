/- The document's trees: what they come to. -/
import Derived.Test.YtigchhcddgibhaaGreatDoorX13Rap
set_option linter.unusedVariables false
set_option linter.unusedSimpArgs false
set_option linter.unnecessarySimpa false
namespace Go.Proofs.H13
open Go Go.Eng Go.Tk
set_option maxRecDepth 20000
theorem qgr {vs : List Va} {env : List Vl} (hl : env.length <= big) : qe9 (EV vs) (EL env) = some (qhE vs env) := by
 rw [qyr, qjJ, List.length_map, List.length_map]
 by_cases hlen : vs.length = env.length
 ·have e0 : ((vs.length : Int) != (env.length : Int)) = false := by simp [hlen]
  generalize hq : (fun n : Nat => match vs[n]?, env[n]? with | some v, some x => x.ty == v.ty && qbb x | _, _ => false) = q
  have hE : qhE vs env = (List.range env.length).all q := by
   unfold qhE; rw [<- hq, show (vs.length == env.length) = true by simpa using hlen, Bool.true_and]; rfl
  have L : qlv (EV vs, EL env, 0) = some (qf0 (fun n => !q n) (fun _ => 0) 1 (List.range env.length), EV vs, EL env, (((List.range env.length).findIdx (fun n => !q n) : Nat) : Int)) := by
   rw [qok]
   refine qb1 env.length (hd := fun i => (EV vs, EL env, (i : Int))) _ _ 1 (fun i hn => ?_) ?_
   ·have hn' : i < vs.length := by omega
    have hqi : q i = (env[i].ty == vs[i].ty && qbb env[i]) := by
     rw [<- hq]; simp only [List.getElem?_eq_getElem hn, List.getElem?_eq_getElem hn']
    have e1 : (env[i].ty != vs[i].ty) = !(env[i].ty == vs[i].ty) := rfl
    have e2 : qbb ⟨env[i].ty, env[i].n⟩ = qbb env[i] := rfl
    simp only [qhc, qio, List.length_map, qar hn, okL hn, okV hn', ql0 hn, ql1 hn, qv1 hn', qgA, ev_br, ev_at, ev_bi_some, cond_true, qal hn hl, hqi, e1, e2]
    cases (env[i].ty == vs[i].ty) <;> cases qbb env[i] <;> rfl
   ·simp [qhc, qio]
  rw [ev_br, e0, cond_false, L, hE, qaE]
  have : ((List.range env.length).any fun n => !q n) = !(List.range env.length).all q := by
   rw [List.all_eq_not_any_not, Bool.not_not]
  rw [this]
  cases (List.range env.length).all q <;> rfl
 ·have e0 : ((vs.length : Int) != (env.length : Int)) = true := by simp only [bne_iff_ne, ne_eq]; omega
  rw [ev_br, e0, cond_true, ev_at]
  unfold qhE
  rw [show (vs.length == env.length) = false by simpa using hlen]
  rfl
end Go.Proofs.H13

/- Values of expressions are numbers of the machine. -/
import Derived.Test.YthljpgljbpdmjaaGreatDoorEvB
set_option linter.unusedVariables false
set_option linter.unusedSimpArgs false
set_option linter.unnecessarySimpa false
namespace Go.Tk
open Go Go.Eng
set_option maxRecDepth 20000
theorem qtR {n:Int}:qdQ n = true ↔ -9223372036854775808 <= n /\ n <= 9223372036854775807:=by
 unfold qdQ; rw [Bool.and_eq_true,decide_eq_true_eq,decide_eq_true_eq]
theorem qj1 {t w:Int}:qdQ (qjq t w).1.n = true:=by
 unfold qjq
 cases h:(qdQ w && qa0 ⟨t,w⟩)
 ·rfl
 ·simp only [Bool.and_eq_true] at h
  exact h.1
theorem q12 {b:Bool}:qdQ (bI b) = true:=by cases b <;> rfl
theorem qZu {t:Int} {a b:Vl}:qdQ (qFI t a b).1.n = true:=by
 unfold qFI
 repeat (split; first | rfl | exact qj1)
 exact qj1
theorem qZQ {t:Int} {a b:Vl}:qdQ (qAj t a b).1.n = true:=by
 unfold qAj; split <;> exact qj1
theorem q0G {op t:Int} {a b:Vl} (hr:qaZ op [a.ty,b.ty] = (t,true)) (va:qa0 a = true) (vb:qa0 b = true) (ha:qdQ a.n = true) (hb:qdQ b.n = true):qdQ (qhn op t a b).1.n = true:=by
 rcases qcs (qcI hr).2.2 with ⟨q1,q2,_⟩ | ⟨q1,_,_⟩ | ⟨q1,q2,q3,_⟩ | ⟨q1,_⟩
 ·have:op = 5 \/ op = 6 \/ op = 7 \/ op = 8:=by omega
  rcases this with rfl | rfl | rfl | rfl
  ·exact qj1
  ·exact qj1
  ·exact qZQ
  ·exact qZu
 ·have:op = 10 \/ op = 11 \/ op = 12 \/ op = 13:=by omega
  rcases this with rfl | rfl | rfl | rfl <;> exact q12
 ·have k0:=(qbk q2).1 va
  have k1:=(qbk q3).1 vb
  rcases q1 with rfl | rfl
  ·show qdQ (a.n * b.n) = true
   rcases k0 with k0 | k0 <;> rcases k1 with k1 | k1 <;> rw [k0,k1] <;> rfl
  ·show qdQ (max a.n b.n) = true
   rcases k0 with k0 | k0 <;> rcases k1 with k1 | k1 <;> rw [k0,k1] <;> rfl
 ·rw [qtR] at ha hb
  rcases q1 with rfl | rfl
  ·show qdQ (min a.n b.n) = true
   rw [qtR]; omega
  ·show qdQ (max a.n b.n) = true
   rw [qtR]; omega
theorem qXy {op:Int} {l:List Vl} (h:∀ x ∈ l,qdQ x.n = true):qdQ (qdG op l).1.n = true:=by
 unfold qdG
 cases h1:(qaZ op (l.map (·.ty))).2
 ·rfl
 cases h2:l.all qa0
 ·rfl
 have hall:=List.all_eq_true.1 h2
 have hr:qaZ op (l.map (·.ty)) = ((qaZ op (l.map (·.ty))).1,true):=by rw [<- h1]
 simp only [Bool.not_true,cond_false]
 generalize (qaZ op (l.map (·.ty))).1 = t at hr
 match l,h,hr,hall with
 | [],_,_,_=>rfl
 | [a],h,hr,hall=>
  rcases qiW (qik hr).2 with ⟨rfl,ha,rfl⟩ | ⟨rfl,_⟩
  ·have k:=(qbk ha).1 (hall a (by simp))
   show qdQ (1 - a.n) = true
   rcases k with k | k <;> rw [k] <;> rfl
  ·exact qj1
 | [a,b],h,hr,hall=>exact q0G hr (hall a (by simp)) (hall b (by simp)) (h a (by simp)) (h b (by simp))
 | [a,b,c],h,hr,hall=>
  show qdQ (if a.n = 1 then b.n else c.n) = true
  split
  ·exact h b (by simp)
  ·exact h c (by simp)
 | a :: b :: c :: d :: l,_,_,_=>rfl
theorem qPK {vs:List Va} {env:List Vl} (he:∀ x ∈ env,qdQ x.n = true):∀ (e:Ex),e.allX qaF = true -> qdQ (qa8 vs env e).1.n = true:=by
 intro e
 induction e using Ex.ind with
 | h o n s l ih=>
  intro hf
  rw [Ex.allX_eq,Bool.and_eq_true,List.all_eq_true] at hf
  obtain ⟨hf1,hf2⟩:=hf
  simp only [Ex.args] at hf2
  by_cases c1:o = 1 \/ o = 2 \/ o = 3
  ·have hl:=qVz c1 hf1
   have hv:qa8 vs env (.mk o n s l) = (⟨o,n⟩,0):=by
    rcases c1 with rfl | rfl | rfl <;> simp [qa8]
   rw [hv]; exact hl.2
  by_cases c4:o = 4
  ·subst c4
   have hv:qa8 vs env (.mk 4 n s l) = ((env[vs.findIdx (fun v=>v.name == s)]?).getD ⟨0,0⟩,0):=by simp [qa8]
   rw [hv]
   cases hq:env[vs.findIdx (fun v=>v.name == s)]? with
   | none=>rfl
   | some x=>exact he x (List.mem_of_getElem? hq)
  have k1:o ≠ 1:=fun q=>c1 (.inl q)
  have k2:o ≠ 2:=fun q=>c1 (.inr (.inl q))
  have k3:o ≠ 3:=fun q=>c1 (.inr (.inr q))
  by_cases c19:o = 19
  ·subst c19
   have hv:qa8 vs env (.mk 19 n s l) = qAC vs env l:=by simp [qa8]
   rw [hv]
   match l,ih,hf2 with
   | [c,a,b],ih,hf2=>
    simp only [qAC]
    cases hc:((qa8 vs env c).2 != 0)
    ·simp only [cond_false]
     split
     ·exact ih a (by simp) (hf2 a (by simp))
     ·exact ih b (by simp) (hf2 b (by simp))
    ·rfl
   | [],_,_=>rfl
   | [_],_,_=>rfl
   | [_,_],_,_=>rfl
   | _ :: _ :: _ :: _ :: _,_,_=>rfl
  ·have hv:qa8 vs env (.mk o n s l) = bif (qc3 vs env l).2 != 0 then (⟨0,0⟩,(qc3 vs env l).2) else qdG o (qc3 vs env l).1:=by simp [qa8,k1,k2,k3,c4,c19]
   rw [hv]
   cases hq:((qc3 vs env l).2 != 0)
   ·obtain ⟨e1,e2⟩:=qvA (vs:=vs) (env:=env) (l:=l) (by simpa using hq)
    simp only [cond_false]
    refine qXy fun x hx=>?_
    rw [e1,List.mem_map] at hx
    obtain ⟨y,hy,rfl⟩:=hx
    exact ih y hy (hf2 y hy)
   ·rfl
theorem qI2 {vs:List Va} {env:List Vl} (h:qkZ vs env = true):vs.length = env.length:=by
 unfold qkZ at h
 simp only [Bool.and_eq_true,beq_iff_eq] at h
 exact h.1
theorem qyc {e:Ex} (h:qbO e = 0):e.allX qaF = true /\ e.nodes <= 64:=by
 unfold qbO at h
 cases q1:(decide (e.nodes > 64) || decide (e.dep > 8))
 ·rw [q1] at h
  simp only [Bool.or_eq_false_iff,decide_eq_false_iff_not] at q1
  cases q2:e.allX qaF
  ·rw [q2] at h; cases h
  ·exact ⟨rfl,by omega⟩
 ·rw [q1] at h; cases h
theorem qpj {e:Ex} {vs:List Va} (h:(ofS e vs).2 = 0):e.allX qaF = true /\ e.nodes <= 64 /\ Ex.ty vs e = ((ofS e vs).1,0):=by
 unfold ofS at h ⊢
 cases hv:(qbO e != 0)
 ·rw [hv] at h
  simp only [cond_false] at h ⊢
  obtain ⟨a,b⟩:=qyc (e:=e) (by simpa using hv)
  exact ⟨a,b,by rw [<- h]⟩
 ·rw [hv] at h
  simp only [cond_true] at h
  rw [h] at hv; simp at hv
end Go.Tk

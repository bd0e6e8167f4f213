/- What may go wrong with an expression that has a type. -/
import Derived.Test.YthljpgljbpdmjaaGreatDoorEvD
set_option linter.unusedVariables false
set_option linter.unusedSimpArgs false
set_option linter.unnecessarySimpa false
namespace Go.Tk
open Go Go.Eng
set_option maxRecDepth 20000
def qI8 (e:Int):Bool:=e == 0 || (e == 6 || e == 7)
theorem qgM {t w:Int}:qI8 (qjq t w).2 = true:=by
 unfold qjq; cases (qdQ w && qa0 ⟨t,w⟩) <;> rfl
theorem qRo {t:Int} {a b:Vl}:qI8 (qFI t a b).2 = true:=by
 unfold qFI
 repeat (split; first | rfl | exact qgM)
 exact qgM
theorem qRS {t:Int} {a b:Vl}:qI8 (qAj t a b).2 = true:=by
 unfold qAj; split <;> exact qgM
theorem qSc {op t:Int} {a b:Vl}:qI8 (qhn op t a b).2 = true:=by
 unfold qhn
 split
 ·exact qgM
 split
 ·exact qgM
 split
 ·exact qRS
 split
 ·exact qRo
 repeat (split; rfl)
 rfl
theorem qRd {op:Int} {l:List Vl} (h1:(qaZ op (l.map (·.ty))).2 = true) (h2:∀ x ∈ l,qa0 x = true):qI8 (qdG op l).2 = true:=by
 unfold qdG
 rw [h1,List.all_eq_true.2 h2]
 simp only [Bool.not_true,cond_false]
 match l,h1 with
 | [],h1=>cases h1
 | [a],_=>
  show qI8 (if op = 9 then qjq _ (-a.n) else (⟨_,1 - a.n⟩,0)).2 = true
  split
  ·exact qgM
  ·rfl
 | [a,b],_=>exact qSc
 | [a,b,c],_=>rfl
 | a :: b :: c :: d :: l,h1=>
  exfalso
  have:(qaZ op ((a :: b :: c :: d :: l).map (·.ty))).2 = false:=by
   unfold qaZ
   cases (List.map (fun x=>x.ty) (a :: b :: c :: d :: l)).all qaM <;> rfl
  rw [h1] at this; cases this
theorem qyb {vs:List Va} {env:List Vl}:∀ {l:List Ex},(∀ e ∈ l,qI8 (qa8 vs env e).2 = true) -> qI8 (qc3 vs env l).2 = true
 | [],_=>rfl
 | e :: l,h=>by
  simp only [qc3]
  have h1:=h e (by simp)
  have h2:=qyb (l:=l) (fun x hx=>h x (by simp [hx]))
  cases hq:((qa8 vs env e).2 != 0)
  ·cases hz:((qc3 vs env l).2 != 0)
   ·rfl
   ·exact h2
  ·exact h1
theorem qSe {vs:List Va} {env:List Vl} (he:qkZ vs env = true):∀ (e:Ex),e.allX qaF = true -> ∀ t,Ex.ty vs e = (t,0) -> qI8 (qa8 vs env e).2 = true:=by
 intro e
 induction e using Ex.ind with
 | h o n s l ih=>
  intro hf t ht
  rw [Ex.allX_eq,Bool.and_eq_true,List.all_eq_true] at hf
  obtain ⟨hf1,hf2⟩:=hf
  simp only [Ex.args] at hf2
  by_cases c1:o = 1 \/ o = 2 \/ o = 3
  ·have hv:qa8 vs env (.mk o n s l) = (⟨o,n⟩,0):=by
    rcases c1 with rfl | rfl | rfl <;> simp [qa8]
   rw [hv]; rfl
  by_cases c4:o = 4
  ·subst c4
   have hv:qa8 vs env (.mk 4 n s l) = ((env[vs.findIdx (fun v=>v.name == s)]?).getD ⟨0,0⟩,0):=by simp [qa8]
   rw [hv]; rfl
  have k1:o ≠ 1:=fun q=>c1 (.inl q)
  have k2:o ≠ 2:=fun q=>c1 (.inr (.inl q))
  have k3:o ≠ 3:=fun q=>c1 (.inr (.inr q))
  obtain ⟨hr,hall⟩:=qvy k1 k2 k3 c4 ht
  have hty:∀ e ∈ l,Ex.ty vs e = ((Ex.ty vs e).1,0):=fun e hm=>by rw [<- hall e hm]
  have hE:∀ e ∈ l,qI8 (qa8 vs env e).2 = true:=fun e hm=>ih e hm (hf2 e hm) _ (hty e hm)
  by_cases c19:o = 19
  ·subst c19
   have hv:qa8 vs env (.mk 19 n s l) = qAC vs env l:=by simp [qa8]
   rw [hv]
   match l,hr,hE with
   | [c,a,b],hr,hE=>
    simp only [qAC]
    cases hc:((qa8 vs env c).2 != 0)
    ·simp only [cond_false]
     split
     ·exact hE a (by simp)
     ·exact hE b (by simp)
    ·exact hE c (by simp)
   | [],hr,_=>cases hr
   | [_],hr,_=>exact absurd (qik hr).2 (by simp [qLP])
   | [_,_],hr,_=>
    exfalso
    rcases qcs (qcI hr).2.2 with ⟨_,q,_⟩ | ⟨⟨_,q⟩,_⟩ | ⟨q,_⟩ | ⟨q,_⟩ <;> omega
   | a :: b :: c :: d :: l,hr,_=>
    exfalso
    have:(qaZ 19 ((a :: b :: c :: d :: l).map fun e=>(Ex.ty vs e).1)).2 = false:=by
     unfold qaZ
     cases (List.map (fun e=>(Ex.ty vs e).1) (a :: b :: c :: d :: l)).all qaM <;> rfl
    rw [hr] at this; cases this
  ·have hv:qa8 vs env (.mk o n s l) = bif (qc3 vs env l).2 != 0 then (⟨0,0⟩,(qc3 vs env l).2) else qdG o (qc3 vs env l).1:=by simp [qa8,k1,k2,k3,c4,c19]
   rw [hv]
   cases hq:((qc3 vs env l).2 != 0)
   ·obtain ⟨e1,e2⟩:=qvA (vs:=vs) (env:=env) (l:=l) (by simpa using hq)
    have hk:∀ x ∈ l,(qa8 vs env x).1.ty = (Ex.ty vs x).1 /\ qa0 (qa8 vs env x).1 = true:=fun x hx=>qm6 he x (hf2 x hx) _ (hty x hx) (e2 x hx)
    have htl:(qc3 vs env l).1.map (·.ty) = l.map fun e=>(Ex.ty vs e).1:=by
     rw [e1,List.map_map]
     apply List.map_congr_left
     intro x hx
     exact (hk x hx).1
    refine qRd (by rw [htl,hr]) (fun x hx=>?_)
    rw [e1,List.mem_map] at hx
    obtain ⟨y,hy,rfl⟩:=hx
    exact (hk y hy).2
   ·exact qyb hE
end Go.Tk

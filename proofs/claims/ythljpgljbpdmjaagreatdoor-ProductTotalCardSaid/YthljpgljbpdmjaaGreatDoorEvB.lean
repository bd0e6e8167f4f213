/- Values of expressions: their types; laws of operators. -/
import Derived.Test.YthljpgljbpdmjaaGreatDoorEvA
set_option linter.unusedVariables false
set_option linter.unusedSimpArgs false
set_option linter.unnecessarySimpa false
namespace Go.Tk
open Go Go.Eng
set_option maxRecDepth 20000
theorem qws {t w:Int} {v:Vl} (h:qjq t w = (v,0)):v = ⟨t,w⟩ /\ qa0 v = true /\ qdQ w = true:=by
 unfold qjq at h
 cases hb:(qdQ w && qa0 ⟨t,w⟩)
 ·rw [hb] at h; simp at h
 ·rw [hb] at h
  simp only [cond_true,Prod.mk.injEq,and_true] at h
  subst h
  simp only [Bool.and_eq_true] at hb
  exact ⟨rfl,hb.2,hb.1⟩
theorem qCD {t:Int} (h:qaM t = true):qa0 ⟨t,0⟩ = true:=by
 rcases qaQ h with rfl | rfl | rfl | rfl | rfl <;> rfl
theorem qcI {op a b t:Int} (h:qaZ op [a,b] = (t,true)):qaM a = true /\ qaM b = true /\ qiv op a b = (t,true):=by
 unfold qaZ at h
 cases hg:[a,b].all qaM
 ·rw [hg] at h; simp at h
 ·rw [hg] at h
  simp only [List.all_cons,List.all_nil,Bool.and_true,Bool.and_eq_true] at hg
  exact ⟨hg.1,hg.2,h⟩
theorem qik {op a t:Int} (h:qaZ op [a] = (t,true)):qaM a = true /\ qLP op a = (t,true):=by
 unfold qaZ at h
 cases hg:[a].all qaM
 ·rw [hg] at h; simp at h
 ·rw [hg] at h
  simp only [List.all_cons,List.all_nil,Bool.and_true] at hg
  exact ⟨hg,h⟩
theorem qd2 {op a b c t:Int} (h:qaZ op [a,b,c] = (t,true)):qaM b = true /\ op = 19 /\ a = 5 /\ b = c /\ t = b:=by
 unfold qaZ at h
 cases hg:[a,b,c].all qaM
 ·rw [hg] at h; simp at h
 ·rw [hg] at h
  simp only [List.all_cons,List.all_nil,Bool.and_true,Bool.and_eq_true] at hg
  simp only [Bool.not_true,cond_false,qx8] at h
  cases hq:(op == 19 && (a == 5 && b == c))
  ·rw [hq] at h; simp at h
  ·rw [hq] at h
   simp only [cond_true,Prod.mk.injEq,and_true] at h
   simp only [Bool.and_eq_true,beq_iff_eq] at hq
   exact ⟨hg.2.1,hq.1,hq.2.1,hq.2.2,h.symm⟩
theorem qAM {op a b t:Int} (h:qyf op a b = some t):qaM t = true:=by
 unfold qyf at h
 cases hf:(ariL.find? fun p=>p.1 == (op,a,b)) with
 | none=>rw [hf] at h; cases h
 | some p=>
  rw [hf] at h; cases h
  have h1:=List.mem_of_find?_eq_some hf
  have:∀ p ∈ ariL,qaM p.2 = true:=by decide
  exact this p h1
theorem qcs {op a b t:Int} (h:qiv op a b = (t,true)):(5 <= op /\ op <= 8 /\ qyf op a b = some t) \/ ((10 <= op /\ op <= 13) /\ a = b /\ t = 5) \/ ((op = 14 \/ op = 15) /\ a = 5 /\ b = 5 /\ t = 5) \/ ((op = 17 \/ op = 18) /\ a = b /\ a ≠ 5 /\ t = a):=by
 unfold qiv at h
 split at h
 ·cases hq:(a == b)
  ·rw [hq] at h; simp at h
  ·rw [hq] at h
   simp only [cond_true,Prod.mk.injEq,and_true] at h
   exact .inr (.inl ⟨by omega,by simpa using hq,h.symm⟩)
 ·split at h
  ·cases hq:(a == b && a != 5)
   ·rw [hq] at h; simp at h
   ·rw [hq] at h
    simp only [cond_true,Prod.mk.injEq,and_true] at h
    simp only [Bool.and_eq_true,beq_iff_eq] at hq
    exact .inr (.inl ⟨by omega,hq.1,h.symm⟩)
  ·split at h
   ·cases hq:(a == b && a == 5)
    ·rw [hq] at h; simp at h
    ·rw [hq] at h
     simp only [cond_true,Prod.mk.injEq,and_true] at h
     simp only [Bool.and_eq_true,beq_iff_eq] at hq
     exact .inr (.inr (.inl ⟨by omega,hq.2,by omega,h.symm⟩))
   ·split at h
    ·cases hq:(a == b && a != 5)
     ·rw [hq] at h; simp at h
     ·rw [hq] at h
      simp only [cond_true,Prod.mk.injEq,and_true] at h
      simp only [Bool.and_eq_true,beq_iff_eq,bne_iff_ne,ne_eq] at hq
      exact .inr (.inr (.inr ⟨by omega,hq.1,hq.2,h.symm⟩))
    ·split at h
     ·rename_i t' ht
      simp only [Prod.mk.injEq,and_true] at h
      subst h
      have:=qyH ht
      exact .inl ⟨this.2.1,this.2.2,ht⟩
     ·simp at h
theorem qiW {op a t:Int} (h:qLP op a = (t,true)):(op = 16 /\ a = 5 /\ t = 5) \/ (op = 9 /\ t = a):=by
 unfold qLP at h
 split at h
 ·cases hq:(a == 5)
  ·rw [hq] at h; simp at h
  ·rw [hq] at h
   simp only [cond_true,Prod.mk.injEq,and_true] at h
   exact .inl ⟨by assumption,by simpa using hq,h.symm⟩
 ·split at h
  ·cases hq:(a == 1 || (a == 2 || a == 3))
   ·rw [hq] at h; simp at h
   ·rw [hq] at h
    simp only [cond_true,Prod.mk.injEq,and_true] at h
    exact .inr ⟨by assumption,h.symm⟩
  ·simp at h
theorem qbk {v:Vl} (h:v.ty = 5):qa0 v = true ↔ v.n = 0 \/ v.n = 1:=by
 unfold qa0
 rw [if_neg (by omega),if_neg (by omega),if_neg (by omega),if_neg (by omega),if_pos h]
 simp
theorem qSh {t:Int} (h:t = 5) (b:Bool):qa0 ⟨t,bI b⟩ = true:=by
 subst h; cases b <;> rfl
theorem qRp {t:Int} {a b v:Vl} (ht:qaM t = true) (h:qFI t a b = (v,0)):v.ty = t /\ qa0 v = true:=by
 unfold qFI at h
 split at h
 ·cases h
 ·split at h
  ·(obtain ⟨e1,e2,_⟩:=qws h; exact ⟨by rw [e1],e2⟩)
  ·split at h
   ·cases h; exact ⟨rfl,qCD ht⟩
   ·split at h
    ·(obtain ⟨e1,e2,_⟩:=qws h; exact ⟨by rw [e1],e2⟩)
    ·(obtain ⟨e1,e2,_⟩:=qws h; exact ⟨by rw [e1],e2⟩)
theorem qlt {t w:Int} {v:Vl} (h:qjq t w = (v,0)):v.ty = t /\ qa0 v = true:=by
 (obtain ⟨e1,e2,_⟩:=qws h; exact ⟨by rw [e1],e2⟩)
theorem qRT {t:Int} {a b v:Vl} (h:qAj t a b = (v,0)):v.ty = t /\ qa0 v = true:=by
 unfold qAj at h
 split at h <;> exact qlt h
theorem qAK {op:Int} {l:List Vl} {v:Vl} (h:qdG op l = (v,0)):(qaZ op (l.map (·.ty))).2 = true /\ v.ty = (qaZ op (l.map (·.ty))).1 /\ qa0 v = true /\ ∀ x ∈ l,qa0 x = true:=by
 unfold qdG at h
 cases h1:(qaZ op (l.map (·.ty))).2
 ·rw [h1] at h; simp at h
 ·rw [h1] at h
  simp only [Bool.not_true,cond_false] at h
  cases h2:l.all qa0
  ·rw [h2] at h; simp at h
  ·rw [h2] at h
   simp only [Bool.not_true,cond_false] at h
   have hall:=List.all_eq_true.1 h2
   have hr:qaZ op (l.map (·.ty)) = ((qaZ op (l.map (·.ty))).1,true):=by rw [<- h1]
   generalize (qaZ op (l.map (·.ty))).1 = t at h hr ⊢
   refine ⟨rfl,?_⟩
   suffices hs:v.ty = t /\ qa0 v = true from ⟨hs.1,hs.2,hall⟩
   match l,h,hr,hall with
   | [],h,_,_=>simp [opV] at h
   | [a],h,hr,hall=>
    have hc:=qiW (qik hr).2
    simp only [opV] at h
    rcases hc with ⟨rfl,ha,rfl⟩ | ⟨rfl,_⟩
    ·rw [if_neg (by decide)] at h
     cases h
     refine ⟨rfl,?_⟩
     have:=(qbk ha).1 (hall a (by simp))
     rw [qbk rfl]
     simp only; omega
    ·rw [if_pos rfl] at h
     exact qlt h
   | [a,b],h,hr,hall=>
    obtain ⟨g1,g2,g3⟩:=qcI hr
    have ha:=hall a (by simp)
    have hb:=hall b (by simp)
    simp only [opV,qhn] at h
    rcases qcs g3 with ⟨q1,q2,q3⟩ | ⟨q1,q2,q3⟩ | ⟨q1,q2,q3,q4⟩ | ⟨q1,q2,q3,q4⟩
    ·have:op = 5 \/ op = 6 \/ op = 7 \/ op = 8:=by omega
     rcases this with rfl | rfl | rfl | rfl
     ·rw [if_pos rfl] at h; exact qlt h
     ·rw [if_neg (by decide),if_pos rfl] at h; exact qlt h
     ·rw [if_neg (by decide),if_neg (by decide),if_pos rfl] at h; exact qRT h
     ·rw [if_neg (by decide),if_neg (by decide),if_neg (by decide),if_pos rfl] at h; exact qRp (qAM q3) h
    ·subst q3
     have:op = 10 \/ op = 11 \/ op = 12 \/ op = 13:=by omega
     rcases this with rfl | rfl | rfl | rfl <;> simp at h <;> subst h <;> exact ⟨rfl,qSh rfl _⟩
    ·subst q4
     have k0:=(qbk q2).1 ha
     have k1:=(qbk q3).1 hb
     rcases q1 with rfl | rfl <;> simp at h <;> subst h <;> refine ⟨rfl,(qbk rfl).2 ?_⟩ <;> simp only
     ·rcases k0 with k0 | k0 <;> rcases k1 with k1 | k1 <;> rw [k0,k1] <;> simp
     ·omega
    ·subst q4
     have hab:∀ n,n = a.n \/ n = b.n -> qa0 ⟨a.ty,n⟩ = true:=by
      rintro n (rfl | rfl)
      ·exact ha
      ·rw [show a.ty = b.ty from q2]; exact hb
     rcases q1 with rfl | rfl <;> simp at h <;> subst h <;> exact ⟨rfl,hab _ (by omega)⟩
   | [a,b,c],h,hr,hall=>
    obtain ⟨g1,_,_,g2,g3⟩:=qd2 hr
    simp only [opV,Prod.mk.injEq,and_true] at h
    subst h
    refine ⟨rfl,?_⟩
    subst g3
    split
    ·exact hall b (by simp)
    ·have:=hall c (by simp)
     rw [g2]; exact this
   | a :: b :: c :: d :: l,h,hr,hall=>simp [opV] at h
theorem qVz {o n:Int} {s:Bs} {l:List Ex} (ho:o = 1 \/ o = 2 \/ o = 3) (h:qaF (.mk o n s l) = true):qa0 ⟨o,n⟩ = true /\ qdQ n = true:=by
 replace h:(qaV o == (l.length:Int) && (decide (n >= 0) && (decide (n <= qgc o) && (s == [] || o == 4)))) = true:=h
 simp only [Bool.and_eq_true,decide_eq_true_eq] at h
 obtain ⟨_,h2,h3,_⟩:=h
 have hm:n <= 9223372036854775807:=by
  rcases ho with rfl | rfl | rfl <;> simp [qgc] at h3 <;> omega
 refine ⟨?_,by unfold qdQ; rw [decide_eq_true (by omega),decide_eq_true hm]; rfl⟩
 rcases ho with rfl | rfl | rfl
 ·rfl
 ·simp [qgc] at h3; simp [qa0]; omega
 ·simp [qgc] at h3; simp [qa0]; omega
theorem q25 {vs:List Va} {env:List Vl} (h:qkZ vs env = true) {n:Nat} {v:Va} (hv:vs[n]? = some v):∃ x,env[n]? = some x /\ x.ty = v.ty /\ qa0 x = true:=by
 unfold qkZ at h
 simp only [Bool.and_eq_true,beq_iff_eq,List.all_eq_true] at h
 have hn:=(List.getElem?_eq_some_iff.1 hv).1
 have hx:env[n]? = some env[n]:=List.getElem?_eq_getElem (by omega)
 have:=h.2 n (by rw [List.mem_range]; omega)
 rw [hv,hx] at this
 simp only [Bool.and_eq_true,beq_iff_eq] at this
 exact ⟨_,hx,this.1,this.2⟩
theorem qvA {vs:List Va} {env:List Vl}:∀ {l:List Ex},(qc3 vs env l).2 = 0 -> (qc3 vs env l).1 = l.map (fun e=>(qa8 vs env e).1) /\ ∀ e ∈ l,(qa8 vs env e).2 = 0
 | [],_=>⟨rfl,fun _ h=>by cases h⟩
 | e :: l,h=>by
  simp only [qc3] at h ⊢
  cases h1:((qa8 vs env e).2 != 0)
  ·rw [h1] at h
   simp only [cond_false] at h ⊢
   cases h2:((qc3 vs env l).2 != 0)
   ·have h2':(qc3 vs env l).2 = 0:=by simpa using h2
    have ih:=qvA h2'
    simp only [cond_false]
    refine ⟨by rw [ih.1]; rfl,fun x hx=>?_⟩
    rcases List.mem_cons.1 hx with rfl | hx
    ·simpa using h1
    ·exact ih.2 x hx
   ·rw [h2] at h; simp only [cond_true] at h; rw [h] at h2; simp at h2
  ·rw [h1] at h; simp only [cond_true] at h; rw [h] at h1; simp at h1
theorem qPH {vs:List Va}:∀ {l:List Ex},(Ex.tys vs l).2 = 0 -> (Ex.tys vs l).1 = l.map (fun e=>(Ex.ty vs e).1) /\ ∀ e ∈ l,(Ex.ty vs e).2 = 0
 | [],_=>⟨rfl,fun _ h=>by cases h⟩
 | e :: l,h=>by
  simp only [Ex.tys] at h ⊢
  cases h1:((Ex.ty vs e).2 != 0)
  ·rw [h1] at h
   simp only [cond_false] at h ⊢
   cases h2:((Ex.tys vs l).2 != 0)
   ·have h2':(Ex.tys vs l).2 = 0:=by simpa using h2
    have ih:=qPH h2'
    simp only [cond_false]
    refine ⟨by rw [ih.1]; rfl,fun x hx=>?_⟩
    rcases List.mem_cons.1 hx with rfl | hx
    ·simpa using h1
    ·exact ih.2 x hx
   ·rw [h2] at h; simp only [cond_true] at h; rw [h] at h2; simp at h2
  ·rw [h1] at h; simp only [cond_true] at h; rw [h] at h1; simp at h1
theorem qZy {op t:Int} {p:List Int × Int} (h:qER op p = (t,0)):p.2 = 0 /\ qaZ op p.1 = (t,true):=by
 unfold qER at h
 cases h1:(p.2 != 0)
 ·rw [h1] at h
  cases h2:(qaZ op p.1).2
  ·rw [h2] at h; simp at h
  ·rw [h2] at h
   simp only [cond_false,cond_true,Prod.mk.injEq] at h
   exact ⟨by simpa using h1,by rw [<- h.1,<- h2]⟩
 ·rw [h1] at h
  simp only [cond_true,Prod.mk.injEq] at h
  rw [h.2] at h1; simp at h1
theorem qvy {vs:List Va} {o n t:Int} {s:Bs} {l:List Ex} (h1:o ≠ 1) (h2:o ≠ 2) (h3:o ≠ 3) (h4:o ≠ 4) (h:Ex.ty vs (.mk o n s l) = (t,0)):qaZ o (l.map fun e=>(Ex.ty vs e).1) = (t,true) /\ ∀ e ∈ l,(Ex.ty vs e).2 = 0:=by
 have h':qER o (Ex.tys vs l) = (t,0):=by simpa [Ex.ty,h1,h2,h3,h4] using h
 obtain ⟨a,b⟩:=qZy h'
 obtain ⟨c,d⟩:=qPH a
 rw [c] at b
 exact ⟨b,d⟩
theorem qm6 {vs:List Va} {env:List Vl} (he:qkZ vs env = true):∀ (e:Ex),e.allX qaF = true -> ∀ t,Ex.ty vs e = (t,0) -> (qa8 vs env e).2 = 0 -> (qa8 vs env e).1.ty = t /\ qa0 (qa8 vs env e).1 = true:=by
 intro e
 induction e using Ex.ind with
 | h o n s l ih=>
  intro hf t ht h0
  rw [Ex.allX_eq,Bool.and_eq_true,List.all_eq_true] at hf
  obtain ⟨hf1,hf2⟩:=hf
  simp only [Ex.args] at hf2
  by_cases c1:o = 1 \/ o = 2 \/ o = 3
  ·have hl:=qVz c1 hf1
   have hv:qa8 vs env (.mk o n s l) = (⟨o,n⟩,0):=by
    rcases c1 with rfl | rfl | rfl <;> simp [qa8]
   have ht':t = o:=by
    rcases c1 with rfl | rfl | rfl <;> simp [Ex.ty] at ht <;> omega
   rw [hv]
   exact ⟨ht'.symm,hl.1⟩
  by_cases c4:o = 4
  ·subst c4
   have h':qlo vs s = (t,0):=by simpa [Ex.ty] using ht
   have hv:qa8 vs env (.mk 4 n s l) = ((env[vs.findIdx (fun v=>v.name == s)]?).getD ⟨0,0⟩,0):=by simp [qa8]
   rw [hv]
   unfold qlo at h'
   cases hq:vs.find? fun v=>v.name == s with
   | none=>rw [hq] at h'; simp at h'
   | some v=>
    rw [hq] at h'
    have hg:v.ty = t:=by
     simp only at h'
     cases hgd:qaM v.ty
     ·rw [hgd] at h'; simp at h'
     ·rw [hgd] at h'; simpa using h'
    rw [List.find?_eq_getElem?_findIdx] at hq
    obtain ⟨x,hx,h1,h2⟩:=q25 he hq
    rw [hx]
    exact ⟨by rw [<- hg]; exact h1,h2⟩
  have k1:o ≠ 1:=fun q=>c1 (.inl q)
  have k2:o ≠ 2:=fun q=>c1 (.inr (.inl q))
  have k3:o ≠ 3:=fun q=>c1 (.inr (.inr q))
  obtain ⟨hr,hall⟩:=qvy k1 k2 k3 c4 ht
  have hty:∀ e ∈ l,Ex.ty vs e = ((Ex.ty vs e).1,0):=fun e hm=>by rw [<- hall e hm]
  by_cases c19:o = 19
  ·subst c19
   have hv:qa8 vs env (.mk 19 n s l) = qAC vs env l:=by simp [qa8]
   rw [hv] at h0 ⊢
   match l,h0,hr,hty,ih,hf2 with
   | [c,a,b],h0,hr,hty,ih,hf2=>
    obtain ⟨_,_,_,q1,q2⟩:=qd2 hr
    simp only [qAC] at h0 ⊢
    cases hc:((qa8 vs env c).2 != 0)
    ·rw [hc] at h0
     simp only [cond_false] at h0 ⊢
     split at h0
     ·rename_i hn
      rw [if_pos hn]
      have:=ih a (by simp) (hf2 a (by simp)) _ (hty a (by simp)) h0
      exact ⟨by rw [q2]; exact this.1,this.2⟩
     ·rename_i hn
      rw [if_neg hn]
      have:=ih b (by simp) (hf2 b (by simp)) _ (hty b (by simp)) h0
      exact ⟨by rw [q2,q1]; exact this.1,this.2⟩
    ·rw [hc] at h0; simp only [cond_true] at h0; rw [h0] at hc; simp at hc
   | [],h0,_,_,_,_=>simp [qAC] at h0
   | [_],h0,_,_,_,_=>simp [qAC] at h0
   | [_,_],h0,_,_,_,_=>simp [qAC] at h0
   | _ :: _ :: _ :: _ :: _,h0,_,_,_,_=>simp [qAC] at h0
  ·have hv:qa8 vs env (.mk o n s l) = bif (qc3 vs env l).2 != 0 then (⟨0,0⟩,(qc3 vs env l).2) else qdG o (qc3 vs env l).1:=by simp [qa8,k1,k2,k3,c4,c19]
   rw [hv] at h0 ⊢
   cases hq:((qc3 vs env l).2 != 0)
   ·rw [hq] at h0
    simp only [cond_false] at h0 ⊢
    obtain ⟨e1,e2⟩:=qvA (vs:=vs) (env:=env) (l:=l) (by simpa using hq)
    obtain ⟨a1,a2,a3,_⟩:=qAK (op:=o) (l:=(qc3 vs env l).1) (v:=(qdG o (qc3 vs env l).1).1) (by rw [<- h0])
    have htl:(qc3 vs env l).1.map (·.ty) = l.map fun e=>(Ex.ty vs e).1:=by
     rw [e1,List.map_map]
     apply List.map_congr_left
     intro x hx
     exact (ih x hx (hf2 x hx) _ (hty x hx) (e2 x hx)).1
    rw [htl,hr] at a2
    exact ⟨a2,a3⟩
   ·rw [hq] at h0; simp only [cond_true] at h0; rw [h0] at hq; simp at hq
end Go.Tk

/- Products that are accepted: their expressions give values of the right type, or one of two errors. -/
import Derived.Test.YthljpgljbpdmjaaGreatDoorPrA
import Derived.Test.YthljpgljbpdmjaaGreatDoorEvF
set_option linter.unusedVariables false
set_option linter.unusedSimpArgs false
set_option linter.unnecessarySimpa false
namespace Go.Tk
open Go Go.Eng
set_option maxRecDepth 20000
theorem qSg:qvB varsP = 0:=by decide +kernel
theorem qRl {e:Ex} {vs:List Va} {want:Int} (h:qdI e vs want = 0):(ofS e vs).2 = 0 /\ (ofS e vs).1 = want:=by
 unfold qdI at h
 cases h1:((ofS e vs).2 != 0)
 ·rw [h1] at h
  simp only [cond_false] at h
  cases h2:((ofS e vs).1 != want)
  ·exact ⟨by simpa using h1,by simpa using h2⟩
  ·rw [h2] at h; cases h
 ·rw [h1] at h
  simp only [cond_true] at h
  rw [h] at h1; simp at h1
theorem qRB {e:Ex} {env:List Vl} {want:Int} (hc:qdI e varsP want = 0) (he:qkZ varsP env = true) :
  ((qrn e varsP env).2 = 0 /\ (qrn e varsP env).1.ty = want) \/ (qrn e varsP env).2 = 7 \/ (qrn e varsP env).2 = 6:=by
 obtain ⟨h1,h2⟩:=qRl hc
 obtain ⟨a,_,c⟩:=qpj h1
 have ht:qrn e varsP env = qa8 varsP env e:=by
  unfold qrn; rw [qSg,h1,he]; rfl
 rw [ht]
 have hr:=qSe he e a _ c
 unfold qI8 at hr
 simp only [Bool.or_eq_true,beq_iff_eq] at hr
 rcases hr with hr | hr | hr
 ·exact .inl ⟨hr,by rw [(qm6 he e a _ c hr).1,h2]⟩
 ·exact .inr (.inr hr)
 ·exact .inr (.inl hr)
theorem qj0 {α:Type} {f:α -> Int}:∀ {l:List α},qeH f l = 0 -> ∀ x ∈ l,f x = 0
 | [],_,x,hx=>by cases hx
 | y :: l,h,x,hx=>by
  simp only [qeH] at h
  cases h1:(f y != 0)
  ·rw [h1] at h
   rcases List.mem_cons.1 hx with rfl | hx
   ·simpa using h1
   ·exact qj0 h x hx
  ·rw [h1] at h; simp only [cond_true] at h; rw [h] at h1; simp at h1
theorem qJZ {x:Fe} (h:qzR x = 0):qdI x.when_ varsP 5 = 0 /\ qdI x.amount varsP 2 = 0:=by
 unfold qzR at h
 cases h1:(!nmB x.name)
 ·rw [h1] at h
  cases h2:(decide (x.event < 1) || decide (x.event > 4))
  ·rw [h2] at h
   simp only [cond_false] at h
   cases h3:(qdI x.when_ varsP 5 != 0)
   ·rw [h3] at h
    exact ⟨by simpa using h3,h⟩
   ·rw [h3] at h; simp only [cond_true] at h; rw [h] at h3; simp at h3
  ·rw [h2] at h; cases h
 ·rw [h1] at h; cases h
theorem qFz {x:Ru} (h:qll x = 0):qdI x.amount varsP 2 = 0:=by
 unfold qll at h
 cases h1:(!nmB x.name)
 ·rw [h1] at h
  cases h2:(decide (x.window < 1) || decide (x.window > 3))
  ·rw [h2] at h; exact h
  ·rw [h2] at h; cases h
 ·rw [h1] at h; cases h
theorem qNz {p:Pr} {l:List Cu} {c:List Cal} (h:prS p l c = 0):(∀ x ∈ p.fees,qzR x = 0) /\ ∀ x ∈ p.rules,qll x = 0:=by
 unfold prS at h
 cases h1:(qEU p l c != 0)
 ·rw [h1] at h
  simp only [cond_false] at h
  cases h2:(qsd p.cr != 0)
  ·rw [h2] at h
   simp only [cond_false] at h
   cases h3:(qsd p.de != 0)
   ·rw [h3] at h
    simp only [cond_false] at h
    cases h4:(decide (p.fees.length > 4) || decide (p.rules.length > 4))
    ·rw [h4] at h
     simp only [cond_false] at h
     cases h5:(qeH qzR p.fees != 0)
     ·rw [h5] at h
      simp only [cond_false] at h
      exact ⟨qj0 (by simpa using h5),qj0 h⟩
     ·rw [h5] at h; simp only [cond_true] at h; rw [h] at h5; simp at h5
    ·rw [h4] at h; cases h
   ·rw [h3] at h; simp only [cond_true] at h; rw [h] at h3; simp at h3
  ·rw [h2] at h; simp only [cond_true] at h; rw [h] at h2; simp at h2
 ·rw [h1] at h; simp only [cond_true] at h; rw [h] at h1; simp at h1
end Go.Tk

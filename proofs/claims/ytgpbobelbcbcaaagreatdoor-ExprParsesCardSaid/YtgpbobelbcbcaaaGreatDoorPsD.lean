/- What is read: how large it is, and what is left. -/
import Derived.Test.YtgpbobelbcbcaaaGreatDoorPsA
set_option linter.unusedVariables false
set_option linter.unusedSimpArgs false
set_option linter.unnecessarySimpa false
namespace Go.Tk
open Go Go.Eng
set_option linter.unusedSimpArgs false
set_option linter.unusedVariables false
def wtM:Md -> Nat
 | .lp _ e=>e.nodes
 | _=>0
def GoodR (l:List Tok) (w:Nat):Rs -> Prop
 | .bad r=>r <:+ l
 | .ok e r=>r <:+ l /\ e.nodes + r.length <= w + l.length
theorem qc2 {l l1:List Tok} {w w1:Nat} {o:Option Rs} {f:Ex -> List Tok -> Option Rs} {x:Rs} (h:qcO o f = some x) (ho:∀ y,o = some y -> GoodR l1 w1 y) (hl:l1 <:+ l)
  (hf:∀ e r,r <:+ l1 -> r <:+ l -> e.nodes + r.length <= w1 + l1.length -> f e r = some x -> GoodR l w x):GoodR l w x:=by
 unfold qcO at h
 cases o with
 | none=>cases h
 | some y=>
  have:=ho y rfl
  cases y with
  | bad r=>cases h; exact List.IsSuffix.trans this hl
  | ok e r=>exact hf e r this.1 (this.1.trans hl) this.2 h
theorem qfs {l r:List Tok} {s:Bs} {w:Nat} {f:List Tok -> Option Rs} {x:Rs} (h:qbV s r f = some x) (hr:r <:+ l)
  (hf:∀ r',r' <:+ l -> r'.length + 1 = r.length -> f r' = some x -> GoodR l w x):GoodR l w x:=by
 unfold qbV at h
 cases hi:isW s r
 ·rw [hi] at h; cases h; exact hr
 ·rw [hi] at h
  obtain ⟨t,r',rfl⟩:=qbr hi
  exact hf r' ((List.suffix_cons t r').trans hr) rfl h
theorem GoodR.up {l l':List Tok} {w w':Nat} {x:Rs} (h:GoodR l w x) (hl:l <:+ l') (hw:w + l.length <= w' + l'.length):GoodR l' w' x:=by
 cases x with
 | bad r=>exact List.IsSuffix.trans h hl
 | ok e r=>exact ⟨List.IsSuffix.trans h.1 hl,Nat.le_trans h.2 hw⟩
theorem qWs (t:Tok) (l:List Tok):l <:+ t :: l:=List.suffix_cons t l
theorem qFE {l:List Tok}:GoodR l 0 (qgj l):=by
 unfold qgj
 cases l with
 | nil=>exact List.suffix_refl _
 | cons t r=>
  simp only
  have hok:∀ (o n:Int) (s:Bs),GoodR (t :: r) 0 (.ok (.mk o n s []) r):=fun o n s=>⟨qWs t r,by simp [Ex.nodes,Ex.nodesL]; try omega⟩
  cases t.kind == 1
  ·cases t.kind == 3
   ·cases qdP (t :: r) with
    | none=>exact List.suffix_refl _
    | some n=>exact hok _ _ _
   ·cases (qbN t.text).2 == 0
    ·exact List.suffix_refl _
    ·exact hok _ _ _
  ·exact hok _ _ _
theorem qxB {s:Bs} {l:List Tok} (h:isW s l = true):l.tail <:+ l /\ l.tail.length + 1 = l.length:=by
 obtain ⟨t,r,rfl⟩:=qbr h
 exact ⟨List.suffix_cons t r,rfl⟩
theorem q0t {k:Nat} {l:List Tok} (h:(opAt k l == 0) = false):l.tail <:+ l /\ l.tail.length + 1 = l.length:=by
 obtain ⟨t,r,rfl⟩:=qnw (k:=k) (l:=l) (by simpa using h)
 exact ⟨List.suffix_cons t r,rfl⟩
theorem qha {l r:List Tok} {w:Nat} {e:Ex} (h:r <:+ l) (h2:e.nodes + r.length <= w + l.length):GoodR l w (.ok e r):=⟨h,h2⟩
theorem n1 (o:Int) (a:Ex):(exN o [a]).nodes = 1 + a.nodes:=by simp [exN,Ex.nodes,Ex.nodesL]; try omega
theorem n2 (o:Int) (a b:Ex):(exN o [a,b]).nodes = 1 + a.nodes + b.nodes:=by simp [exN,Ex.nodes,Ex.nodesL]; try omega
theorem n3 (o:Int) (a b c:Ex):(exN o [a,b,c]).nodes = 1 + a.nodes + b.nodes + c.nodes:=by simp [exN,Ex.nodes,Ex.nodesL]; try omega
theorem qzp:∀ (n:Nat) (m:Md) (l:List Tok) (x:Rs),prs n m l = some x -> GoodR l (wtM m) x:=by
 intro n
 induction n with
 | zero=>intro m l x h; cases h
 | succ n ih=>
  intro m l x h
  have pairG:∀ (op:Int) (r:List Tok),r <:+ l -> r.length + 1 = l.length -> qew op (prs n .ex) r = some x -> GoodR l 0 x:=by
   intro op r hr hrl h
   unfold qew at h
   refine qfs h hr fun r1 s1 e1 h=>?_
   refine qc2 h (ih _ _) s1 fun a r2 _ s2 q2 h=>?_
   refine qfs h s2 fun r3 s3 e3 h=>?_
   refine qc2 h (ih _ _) s3 fun b r4 _ s4 q4 h=>?_
   refine qfs h s4 fun r5 s5 e5 h=>?_
   cases h
   refine qha s5 ?_
   rw [n2]; simp only [wtM] at q2 q4; omega
  cases m with
  | ex=>
   rw [qzo] at h
   cases hi:isW [105,102] l
   ·rw [hi] at h; exact ih (.bin 0) l x h
   ·rw [hi] at h
    obtain ⟨s0,e0⟩:=qxB hi
    refine qc2 h (ih _ _) s0 fun a r1 _ s1 q1 h=>?_
    refine qfs h s1 fun r2 s2 e2 h=>?_
    refine qc2 h (ih _ _) s2 fun b r3 _ s3 q3 h=>?_
    refine qfs h s3 fun r4 s4 e4 h=>?_
    refine qc2 h (ih _ _) s4 fun c r5 _ s5 q5 h=>?_
    cases h
    refine qha s5 ?_
    rw [n3]; simp only [wtM] at q1 q3 q5 ⊢; omega
  | bin k=>
   rw [qrA] at h
   cases h5:(k == 5)
   ·rw [h5] at h
    cases h2:(k == 2)
    ·rw [h2] at h
     refine qc2 h (ih _ _) (List.suffix_refl _) fun e r _ s1 q1 h=>?_
     refine (ih _ _ _ h).up s1 ?_
     simp only [wtM] at q1 ⊢; omega
    ·rw [h2] at h
     simp only [cond_true,cond_false] at h
     cases hi:isW [110,111,116] l
     ·rw [hi] at h; exact ih .cmp l x h
     ·rw [hi] at h
      obtain ⟨s0,e0⟩:=qxB hi
      refine qc2 h (ih _ _) s0 fun a r1 _ s1 q1 h=>?_
      cases h
      refine qha s1 ?_
      rw [n1]; simp only [wtM] at q1 ⊢; omega
   ·rw [h5] at h; exact ih .neg l x h
  | cmp=>
   rw [qxe] at h
   refine qc2 h (ih _ _) (List.suffix_refl _) fun e r _ s1 q1 h=>?_
   refine (ih _ _ _ h).up s1 ?_
   simp only [wtM] at q1 ⊢; omega
  | lp k e=>
   rw [qzq] at h
   cases h0:(opAt k l == 0)
   ·rw [h0] at h
    obtain ⟨s0,e0⟩:=q0t h0
    refine qc2 h (ih _ _) s0 fun b r1 _ s1 q1 h=>?_
    cases h2:(k == 2)
    ·rw [h2] at h
     refine (ih _ _ _ h).up s1 ?_
     simp only [wtM] at q1 ⊢
     rw [n2]; omega
    ·rw [h2] at h
     cases h
     refine qha s1 ?_
     rw [n2]; simp only [wtM] at q1 ⊢; omega
   ·rw [h0] at h
    cases h
    exact qha (List.suffix_refl _) (Nat.le_refl _)
  | neg=>
   rw [qrC] at h
   cases hi:isW [45] l
   ·rw [hi] at h; exact ih .prim l x h
   ·rw [hi] at h
    obtain ⟨s0,e0⟩:=qxB hi
    refine qc2 h (ih _ _) s0 fun a r1 _ s1 q1 h=>?_
    cases h
    refine qha s1 ?_
    rw [n1]; simp only [wtM] at q1 ⊢; omega
  | prim=>
   rw [qld] at h
   cases h1:isW [36] l
   ·rw [h1] at h
    simp only [cond_false] at h
    cases h2:isW [109,105,110] l
    ·rw [h2] at h
     simp only [cond_false] at h
     cases h3:isW [109,97,120] l
     ·rw [h3] at h
      simp only [cond_false] at h
      cases h4:isW [40] l
      ·rw [h4] at h; cases h; exact qFE
      ·rw [h4] at h
       obtain ⟨s0,e0⟩:=qxB h4
       refine qc2 h (ih _ _) s0 fun a r1 _ s1 q1 h=>?_
       refine qfs h s1 fun r2 s2 e2 h=>?_
       cases h
       refine qha s2 ?_
       simp only [wtM] at q1 ⊢; omega
     ·rw [h3] at h
      obtain ⟨s0,e0⟩:=qxB h3
      exact pairG 18 _ s0 e0 h
    ·rw [h2] at h
     obtain ⟨s0,e0⟩:=qxB h2
     exact pairG 17 _ s0 e0 h
   ·rw [h1] at h
    obtain ⟨s0,e0⟩:=qxB h1
    simp only [cond_true] at h
    cases hn:qdP l.tail with
    | none=>
     rw [hn] at h; cases h
     exact s0
    | some v=>
     rw [hn] at h; cases h
     have hne:∃ t r,l.tail = t :: r:=by
      cases hl:l.tail with
      | nil=>rw [hl] at hn; cases hn
      | cons t r=>exact ⟨t,r,rfl⟩
     obtain ⟨t,r,hl⟩:=hne
     rw [hl] at s0 e0 ⊢
     refine qha ((List.suffix_cons t r).trans s0) ?_
     simp only [List.length_cons,List.tail_cons,Ex.nodes,Ex.nodesL,wtM] at e0 ⊢; omega
theorem Ev.good {m:Md} {l:List Tok} {x:Rs} (h:Ev m l x):GoodR l (wtM m) x:=h.elim fun n hn=>qzp n _ _ _ hn
end Go.Tk
